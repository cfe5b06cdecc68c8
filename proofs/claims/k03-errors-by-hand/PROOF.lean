import PyProof.Rows.All
import Wide.All
import OpenK.AllK
import Wide.FinOn
import KE.KDictKeyed
import KE.KeyNested
import HandS.ForMost
import HandS.ExcInit
import HandS.ExcValue
import HandS.ExcIs
import HandS.ExcField
import KE.KExcIs
import HandS.Walk
import HandS.Zip
import HandS.Wide
import HandS.Deep
import HandS.Style
import HandS.TupAny
import HandS.IsInst
import HandS.SortInts
import KE.SortData
import HandS.Text
import HandS.More
import KE.KRevSl
import HandS.Conv
import KE.GoesEnum
import HandS.SetFor
import HandS.Strs
import HandS.DictTup
import HandS.ListItems
import PyProof.ZipIter
import HandS.Iter
import PySem.Challenge.RW_forkyears_k03_errors_by_hand
set_option Elab.async false
set_option linter.all false
set_option maxRecDepth 100000
set_option maxHeartbeats 4000000
/-! dicts whose keys are whole numbers, None and tuples of such, mixed -/
namespace Vw
open PySem PySem.W PyProof.Rows

mutual
/-- read as data; no dict of it is the table of modules -/
inductive RD (h : Heap) : Value → PyData → Prop
  | non : RD h .none .none
  | bl (b : Bool) : RD h (.bool b) (.bool b)
  | int (i : Int) (t : Tok) : RD h (.int i t) (.int i)
  | str (x : Str) (t : Tok) : RD h (.str x t) (.str x)
  | list {a : Addr} {o : Obj} {us : Array Value} {n : Nat} {ds : List PyData} : h.get? a = some o → o.cls = .type "list" → o.data = .seq us n → RDs h us.toList ds → RD h (.ref a) (.list ds)
  | tuple {a : Addr} {o : Obj} {us : Array Value} {n : Nat} {ds : List PyData} : h.get? a = some o → o.cls = .type "tuple" → o.data = .seq us n → RDs h us.toList ds → RD h (.ref a) (.tuple ds)
  | dict {a : Addr} {o : Obj} {es : Array DictEntry} {n : Nat} {ps : List (PyData × PyData)} : (a == sysModules) = false → h.get? a = some o → o.cls = .type "dict" → o.data = .dict es n → RDs h (es.toList.map (·.key)) (ps.map (·.1)) → RDs h (es.toList.map (·.val)) (ps.map (·.2)) → RD h (.ref a) (.dict ps)
inductive RDs (h : Heap) : List Value → List PyData → Prop
  | nil : RDs h [] []
  | cons {u : Value} {us : List Value} {d : PyData} {ds : List PyData} : RD h u d → RDs h us ds → RDs h (u :: us) (d :: ds)
end
mutual
theorem RD.rd {h : Heap} : ∀ {u : Value} {d : PyData}, RD h u d → ∃ as, Reads h u d as
  | _, _, .non => ⟨_, .none⟩
  | _, _, .bl b => ⟨_, .bool b⟩
  | _, _, .int i t => ⟨_, .int i t⟩
  | _, _, .str x t => ⟨_, .str x t⟩
  | _, _, .list h1 h2 h3 h4 => let ⟨_, r⟩ := RDs.rd h4; ⟨_, .list h1 h2 h3 r⟩
  | _, _, .tuple h1 h2 h3 h4 => let ⟨_, r⟩ := RDs.rd h4; ⟨_, .tuple h1 h2 h3 r⟩
  | _, _, .dict _ h1 h2 h3 h4 h5 => let ⟨_, r⟩ := RDs.rd h4; let ⟨_, q⟩ := RDs.rd h5; ⟨_, .dict h1 h2 h3 r q⟩
theorem RDs.rd {h : Heap} : ∀ {u : List Value} {d : List PyData}, RDs h u d → ∃ as, ReadsAll h u d as
  | _, _, .nil => ⟨_, .nil⟩
  | _, _, .cons r t => let ⟨_, r⟩ := RD.rd r; let ⟨_, q⟩ := RDs.rd t; ⟨_, .cons r q⟩
end
mutual
/-- data as a key: no text, no truth -/
def nk : PyData → Option NestedKey
  | .none => some .none
  | .int i => some (.num i)
  | .tuple ds => match nks ds with
    | some ks => some (.tup ks)
    | none => none
  | _ => none
def nks : List PyData → Option (List NestedKey)
  | [] => some []
  | d :: ds => match nk d, nks ds with
    | some k, some ks => some (k :: ks)
    | _, _ => none
end
mutual
def kh : PyData → Int
  | .none => reduceHash 0xFCA86420
  | .int i => hashInt i
  | .tuple ds => reduceHash (Builtin.Tuple.tupleHashOf (khs ds))
  | _ => 0
def khs : List PyData → List Int
  | [] => []
  | d :: ds => kh d :: khs ds
end
theorem nk_tup {ds : List PyData} {k : NestedKey} (h : nk (.tuple ds) = some k) : ∃ ks, nks ds = some ks ∧ k = .tup ks := by
  rw [nk] at h
  cases e : nks ds with
  | none => rw [e] at h; cases h
  | some ks => rw [e] at h; cases h; exact ⟨ks, rfl, rfl⟩
theorem nks_cons {d : PyData} {ds : List PyData} {l : List NestedKey} (h : nks (d :: ds) = some l) : ∃ k ks, nk d = some k ∧ nks ds = some ks ∧ l = k :: ks := by
  rw [nks] at h
  cases e : nk d with
  | none => rw [e] at h; cases h
  | some k =>
    cases e2 : nks ds with
    | none => rw [e, e2] at h; cases h
    | some ks => rw [e, e2] at h; cases h; exact ⟨k, ks, rfl, rfl, rfl⟩
mutual
theorem nk_hash (w : World) : ∀ (d : PyData) (k : NestedKey), nk d = some k → k.hash w = kh d
  | .none, k, h => by cases h; rfl
  | .int i, k, h => by cases h; rfl
  | .tuple ds, k, h => by
    obtain ⟨ks, e, rfl⟩ := nk_tup h
    rw [NestedKey.hash, kh, nks_hash w ds ks e]
  | .bool _, k, h => by cases h
  | .str _, k, h => by cases h
  | .list _, k, h => by cases h
  | .dict _, k, h => by cases h
theorem nks_hash (w : World) : ∀ (ds : List PyData) (ks : List NestedKey), nks ds = some ks → NestedKey.hashes w ks = khs ds
  | [], ks, h => by cases h; rfl
  | d :: ds, l, h => by
    obtain ⟨k, ks, e1, e2, rfl⟩ := nks_cons h
    rw [NestedKey.hashes, khs, nk_hash w d k e1, nks_hash w ds ks e2]
end
mutual
theorem nk_inj : ∀ (d e : PyData) (k : NestedKey), nk d = some k → nk e = some k → d = e
  | .none, e, k, h, g => by
    cases h
    cases e with
    | none => rfl
    | tuple es => obtain ⟨_, _, z⟩ := nk_tup g; cases z
    | _ => cases g
  | .int i, e, k, h, g => by
    cases h
    cases e with
    | int j => cases g; rfl
    | tuple es => obtain ⟨_, _, z⟩ := nk_tup g; cases z
    | _ => cases g
  | .tuple ds, e, k, h, g => by
    obtain ⟨ks, e1, rfl⟩ := nk_tup h
    cases e with
    | tuple es =>
      obtain ⟨ks', e2, z⟩ := nk_tup g
      cases z
      rw [nks_inj ds es ks e1 e2]
    | _ => cases g
  | .bool _, _, k, h, _ => by cases h
  | .str _, _, k, h, _ => by cases h
  | .list _, _, k, h, _ => by cases h
  | .dict _, _, k, h, _ => by cases h
theorem nks_inj : ∀ (ds es : List PyData) (ks : List NestedKey), nks ds = some ks → nks es = some ks → ds = es
  | [], es, ks, h, g => by
    cases h
    cases es with
    | nil => rfl
    | cons e es => obtain ⟨_, _, _, _, z⟩ := nks_cons g; cases z
  | d :: ds, es, l, h, g => by
    obtain ⟨k, ks, e1, e2, rfl⟩ := nks_cons h
    cases es with
    | nil => cases g
    | cons e es =>
      obtain ⟨k', ks', f1, f2, z⟩ := nks_cons g
      cases z
      rw [nk_inj d e k e1 f1, nks_inj ds es ks e2 f2]
end
mutual
/-- what is read as a key is one -/
theorem rd_nested {h : Heap} : ∀ {u : Value} {d : PyData} (k : NestedKey), RD h u d → nk d = some k → NestedIs h k u
  | _, _, k, .non, e => by cases e; exact .none
  | _, _, k, .int _ _, e => by cases e; exact .int _ _
  | _, _, k, .tuple h1 h2 h3 h4, e => by
    obtain ⟨ks, e1, rfl⟩ := nk_tup e
    exact .tup h1 h2 h3 (rds_nested ks h4 e1)
  | _, _, k, .bl _, e => by cases e
  | _, _, k, .str _ _, e => by cases e
  | _, _, k, .list _ _ _ _, e => by cases e
  | _, _, k, .dict _ _ _ _ _ _, e => by cases e
theorem rds_nested {h : Heap} : ∀ {us : List Value} {ds : List PyData} (ks : List NestedKey), RDs h us ds → nks ds = some ks → NestedAll h ks us
  | _, _, ks, .nil, e => by cases e; exact .nil
  | _, _, l, .cons r t, e => by
    obtain ⟨k, ks, e1, e2, rfl⟩ := nks_cons e
    exact .cons (rd_nested k r e1) (rds_nested ks t e2)
end
/-- a key of at most 8 layers -/
def okK (d : PyData) : Prop := ∃ k, nk d = some k ∧ k.depth ≤ 8
/-- the entries of a dict have these keys -/
structure KeysAre (h : Heap) (es : Array DictEntry) (kds : List PyData) : Prop where
  len : es.size = kds.length
  nodup : kds.Nodup
  key : ∀ (j : Nat) (e : DictEntry), es[j]? = some e → ∃ d k, kds[j]? = some d ∧ nk d = some k ∧ k.depth ≤ 8 ∧ NestedIs h k e.key ∧ e.hash = kh d
section
variable {P : Program} {w : World} {A : Around} {E : Value → Shared → Prop} {s : Shared}
theorem tells_key {u : Value} {k : NestedKey} {st : List Value} {Q : Bool → Shared → Prop} (hk : NestedIs s.heap k u) (h8 : k.depth ≤ 8) (hs : ∀ v ∈ st, ∃ k', NestedIs s.heap k' v ∧ k'.depth ≤ 8) (q : Q false s) : wpAny (model P w) A (tableMayTell u st) Q E s := by
  unfold tableMayTell
  split
  · exact wpAny_pure q
  · refine wpAny_bind (quiet_key k u 8 s hk h8 A E _ ?_)
    simp only [Bool.not_true, Bool.false_eq_true, if_false]
    refine wpAny_bind ?_
    refine wpAny_forIn_list _ (fun rest r s' => s' = s ∧ r = (none, ()) ∧ ∀ v ∈ rest, ∃ k', NestedIs s.heap k' v ∧ k'.depth ≤ 8) _ ?_ ?_ _ _ ⟨rfl, rfl, hs⟩
    · rintro x rest r s' ⟨rfl, rfl, hr⟩
      obtain ⟨k', h1, h2⟩ := hr x List.mem_cons_self
      refine wpAny_bind (quiet_key k' x 8 s' h1 h2 A E _ ?_)
      simp only [Bool.not_true, Bool.false_eq_true, if_false]
      exact wpAny_pure ⟨rfl, rfl, fun v hv => hr v (List.mem_cons_of_mem _ hv)⟩
    · rintro r s' ⟨rfl, rfl, _⟩
      exact wpAny_pure q
theorem eqBool_key {x y : NestedKey} {a b : Value} {Q : Bool → Shared → Prop} (hx : NestedIs s.heap x a) (hy : NestedIs s.heap y b) (h8 : x.depth ≤ 8) (hu : A.units + 8 < cLine) (q : Q (decide (x = y)) s) : wpAny (model P w) A (eqBool a b) Q E s :=
  eqAt_key x y A s a b hx hy (by omega) _ _ _ _ (by rw [← NestedKey.decide_eq]; exact q)
theorem walk_key {d : Addr} {o : Obj} {es : Array DictEntry} {ep : Nat} {kds : List PyData} {u : Value} {kd : PyData} {k : NestedKey} {Q : Option Nat → Shared → Prop} (hu : A.units + 8 < cLine) (hk : nk kd = some k) (h8 : k.depth ≤ 8) (hx : NestedIs s.heap k u)
    (ho : s.heap.get? d = some o) (hd : o.data = .dict es ep) (ka : KeysAre s.heap es kds) (q0 : (∀ j : Nat, kds[j]? ≠ some kd) → Q none s) (q1 : ∀ j : Nat, kds[j]? = some kd → Q (some j) s) :
    wpAny (model P w) A (dictWalkPlain d u (kh kd) es (placesWithHash es.size (fun i => es[i]?.map (·.hash)) (kh kd))) Q E s := by
  have has : ∀ j : Nat, kds[j]? = some kd → ((es[j]?.map (·.hash)) == some (kh kd)) = true := fun j hj => by
    have hl : j < es.size := by rw [ka.len]; exact (List.getElem?_eq_some_iff.mp hj).1
    obtain ⟨d', k', h1, h2, h3, h4, h5⟩ := ka.key j es[j] (Array.getElem?_eq_getElem hl)
    rw [Array.getElem?_eq_getElem hl, Option.map_some, h5]
    rw [hj] at h1
    cases h1
    simp
  unfold dictWalkPlain
  refine wpAny_bind ?_
  refine wpAny_forIn_list _
    (fun rest b s' => s' = s ∧ b = (none, ()) ∧ ∃ i, rest = (List.range' i (es.size - i)).filter (fun i => (es[i]?.map (·.hash)) == some (kh kd)) ∧ i ≤ es.size ∧ ∀ j : Nat, j < i → kds[j]? ≠ some kd) _ ?_ ?_ _ _
    ⟨rfl, rfl, 0, by rw [placesWithHash, List.range_eq_range', Nat.sub_zero], Nat.zero_le _, fun _ h => absurd h (Nat.not_lt_zero _)⟩
  · rintro x rest b s' ⟨rfl, rfl, i, hr, hi, hno⟩
    obtain ⟨hix, hxn, hpx, hskip, hrest⟩ := filter_range'_cons _ _ _ _ _ hr.symm
    have hlt : x < es.size := by omega
    have hrest' : rest = (List.range' (x + 1) (es.size - (x + 1))).filter (fun i => (es[i]?.map (·.hash)) == some (kh kd)) := by rw [hrest]; congr 2; omega
    obtain ⟨d', k', g1, g2, g3, g4, g5⟩ := ka.key x es[x] (Array.getElem?_eq_getElem hlt)
    have hnox : ∀ j : Nat, j < x → kds[j]? ≠ some kd := fun j hj z => by
      rcases Nat.lt_or_ge j i with h | h
      · exact hno j h z
      · have := hskip j h hj
        rw [has j z] at this
        exact absurd this (by decide)
    have hnext : ¬ k' = k → ∀ j : Nat, j < x + 1 → kds[j]? ≠ some kd := fun hne j hj z => by
      rcases Nat.lt_or_ge j x with h | h
      · exact hnox j h z
      · have e : j = x := by omega
        subst e
        rw [z] at g1
        cases g1
        rw [hk] at g2
        cases g2
        exact hne rfl
    simp only [Array.getElem?_eq_getElem hlt]
    by_cases hh : (es[x].hash == kh kd) = true
    · rw [if_pos hh]
      refine wpAny_bind (wpAny_dictEpoch ho hd (wpAny_bind (eqBool_key g4 hx g3 hu (wpAny_bind (wpAny_dictEpoch ho hd ?_)))))
      show wpAny _ _ (if (ep != ep) = true then _ else _) _ E _
      rw [if_neg (by simp)]
      by_cases hkk : k' = k
      · rw [decide_eq_true hkk]
        subst hkk
        have e : d' = kd := nk_inj d' kd k' g2 hk
        subst e
        exact wpAny_bind (wpAny_rule (wpAny_pure (wpAny_pure (q1 x g1))))
      · rw [decide_eq_false hkk]
        exact wpAny_bind (wpAny_rule (wpAny_pure ⟨rfl, rfl, x + 1, hrest', hlt, hnext hkk⟩))
    · rw [if_neg hh]
      refine wpAny_pure ⟨rfl, rfl, x + 1, hrest', hlt, hnext fun hkk => ?_⟩
      subst hkk
      have e : d' = kd := nk_inj d' kd k' g2 hk
      subst e
      rw [g5] at hh
      simp at hh
  · rintro b s' ⟨rfl, rfl, i, hr, hi, hno⟩
    refine wpAny_pure (q0 fun j z => ?_)
    rcases Nat.lt_or_ge j i with h | h
    · exact hno j h z
    · have hl : j < es.size := by rw [ka.len]; exact (List.getElem?_eq_some_iff.mp z).1
      have := List.filter_eq_nil_iff.mp hr.symm j (List.mem_range'_1.mpr ⟨h, by omega⟩)
      exact this (has j z)
theorem nested_ref {h : Heap} {k : NestedKey} {u : Value} {kd : PyData} (hk : nk kd = some k) (hx : NestedIs h k u) : ∀ x t, u ≠ .str x t := fun x t e => by
  subst e
  cases hx
  cases kd with
  | tuple ds => obtain ⟨_, _, z⟩ := nk_tup hk; cases z
  | _ => cases hk
theorem find_key {d : Addr} {o : Obj} {es : Array DictEntry} {ep : Nat} {kds : List PyData} {u : Value} {kd : PyData} {k : NestedKey} {Q : Option Nat → Shared → Prop} (hu : A.units + 8 < cLine) (hk : nk kd = some k) (h8 : k.depth ≤ 8) (hx : NestedIs s.heap k u)
    (ho : s.heap.get? d = some o) (hd : o.data = .dict es ep) (ka : KeysAre s.heap es kds) (q0 : (∀ j : Nat, kds[j]? ≠ some kd) → Q none s) (q1 : ∀ j : Nat, kds[j]? = some kd → Q (some j) s) :
    wpAny (model P w) A (dictFind d u (kh kd)) Q E s := by
  have has : ∀ j : Nat, kds[j]? = some kd → ((es[j]?.map (·.hash)) == some (kh kd)) = true := fun j hj => by
    have hl : j < es.size := by rw [ka.len]; exact (List.getElem?_eq_some_iff.mp hj).1
    obtain ⟨d', k', h1, h2, h3, h4, h5⟩ := ka.key j es[j] (Array.getElem?_eq_getElem hl)
    rw [Array.getElem?_eq_getElem hl, Option.map_some, h5]
    rw [hj] at h1
    cases h1
    simp
  have hst : ∀ v ∈ (placesWithHash es.size (fun i => es[i]?.map (·.hash)) (kh kd)).filterMap (fun i => es[i]?.map (·.key)), ∃ k', NestedIs s.heap k' v ∧ k'.depth ≤ 8 := by
    intro v hv
    obtain ⟨i, _, hi⟩ := List.mem_filterMap.mp hv
    cases hei : es[i]? with
    | none => rw [hei] at hi; cases hi
    | some e =>
      rw [hei] at hi
      obtain rfl : e.key = v := by simpa using hi
      obtain ⟨d', k', _, _, g3, g4, _⟩ := ka.key i e hei
      exact ⟨k', g4, g3⟩
  have wk := walk_key (P := P) (w := w) (E := E) hu hk h8 hx ho hd ka q0 q1
  have hns := nested_ref hk hx
  unfold dictFind
  try with_reducible refine wpAny_holding ?_
  refine wpAny_bind (wpAny_dictEntries ho hd ?_)
  dsimp only
  split
  · rename_i x t
    exact (hns x t rfl).elim
  by_cases hall : (u :: (placesWithHash es.size (fun i => es[i]?.map (·.hash)) (kh kd)).filterMap (fun i => es[i]?.map (·.key))).all carriedByValue = true
  · rw [if_pos hall]
    exact wk
  · rw [if_neg hall]
    have hany : ¬ ((∃ a, u = Value.ref a) ∧ (es.any fun e => e.key == u && e.hash != kh kd) = true) := by
      rintro ⟨_, h⟩
      rw [← Array.any_toList, List.any_eq_true] at h
      obtain ⟨e, hin, hc⟩ := h
      obtain ⟨j, hj⟩ := List.mem_iff_getElem?.mp hin
      rw [Array.getElem?_toList] at hj
      obtain ⟨d', k', g1, g2, g3, g4, g5⟩ := ka.key j e hj
      simp only [Bool.and_eq_true, beq_iff_eq, bne_iff_ne, ne_eq] at hc
      rw [hc.1] at g4
      have e1 := NestedIs.inj _ _ _ g4 hx
      subst e1
      have e2 := nk_inj d' kd k' g2 hk
      subst e2
      exact hc.2 g5
    have body : wpAny (model P w) A (do
        let stored := (placesWithHash es.size (fun i => es[i]?.map (·.hash)) (kh kd)).filterMap fun i => es[i]?.map (·.key)
        let tells ← if stored == [u] then pure false else tableMayTell u stored
        if tells && stored.length ≥ 2 then unsupported "dict.find:order-among-keys-of-one-hash"
        let mut hit : Option Nat := none
        for i in placesWithHash es.size (fun i => es[i]?.map (·.hash)) (kh kd) do
          if let some e := es[i]? then
            if e.hash == kh kd then
              let before ← dictEpoch d (keyPart u)
              let same ← eqBool e.key u
              if (← dictEpoch d (keyPart u)) != before then unsupported "dict.changed-during-lookup"
              if same then
                if hit.isSome then unsupported "dict.find:order-among-keys-of-one-hash"
                rule "dict.find.hit"
                if stored.length < 2 then return some i
                hit := some i
              else
                rule "dict.find.same-hash-other-key"
                if tells && !(0 ≤ kh kd && kh kd < 32) then unsupported "dict.find:asked-again-or-not-hangs-on-the-table"
        return hit) Q E s := by
      dsimp only
      by_cases hone : (((placesWithHash es.size (fun i => es[i]?.map (·.hash)) (kh kd)).filterMap (fun i => es[i]?.map (·.key))) == [u]) = true <;>
      (first | rw [if_pos hone] | rw [if_neg hone]) <;> (first | refine wpAny_bind (wpAny_pure ?_) | refine wpAny_bind (tells_key hx h8 hst ?_)) <;> (
        rw [if_neg (by simp)]
        refine wpAny_bind ?_
        refine wpAny_forIn_list _
          (fun rest b s' => s' = s ∧ ∃ i hit, b = (none, hit) ∧ rest = (List.range' i (es.size - i)).filter (fun i => (es[i]?.map (·.hash)) == some (kh kd)) ∧ i ≤ es.size ∧
            ((hit = none ∧ ∀ j : Nat, j < i → kds[j]? ≠ some kd) ∨ ∃ j : Nat, hit = some j ∧ j < i ∧ kds[j]? = some kd)) _ ?_ ?_ _ _
          ⟨rfl, 0, none, rfl, by rw [placesWithHash, List.range_eq_range', Nat.sub_zero], Nat.zero_le _, .inl ⟨rfl, fun _ h => absurd h (Nat.not_lt_zero _)⟩⟩
        · rintro x rest b s' ⟨rfl, i, hit, rfl, hr, hi, hH⟩
          obtain ⟨hix, hxn, hpx, hskip, hrest⟩ := filter_range'_cons _ _ _ _ _ hr.symm
          have hlt : x < es.size := by omega
          have hrest' : rest = (List.range' (x + 1) (es.size - (x + 1))).filter (fun i => (es[i]?.map (·.hash)) == some (kh kd)) := by rw [hrest]; congr 2; omega
          obtain ⟨d', k', g1, g2, g3, g4, g5⟩ := ka.key x es[x] (Array.getElem?_eq_getElem hlt)
          have hHx : (hit = none ∧ ∀ j : Nat, j < x → kds[j]? ≠ some kd) ∨ ∃ j : Nat, hit = some j ∧ j < x ∧ kds[j]? = some kd := by
            rcases hH with ⟨h0, hno⟩ | ⟨j, h1, hji, hj⟩
            · refine .inl ⟨h0, fun j hjx hj => ?_⟩
              rcases Nat.lt_or_ge j i with h | h
              · exact hno j h hj
              · have := hskip j h hjx
                rw [has j hj] at this
                exact absurd this (by decide)
            · exact .inr ⟨j, h1, by omega, hj⟩
          have hstay : ¬ k' = k → ((hit = none ∧ ∀ j : Nat, j < x + 1 → kds[j]? ≠ some kd) ∨ ∃ j : Nat, hit = some j ∧ j < x + 1 ∧ kds[j]? = some kd) := by
            intro hne
            rcases hHx with ⟨h0, hno⟩ | ⟨j, h1, hjx, hj⟩
            · refine .inl ⟨h0, fun j hjx hj => ?_⟩
              rcases Nat.lt_or_ge j x with h | h
              · exact hno j h hj
              · have e : j = x := by omega
                subst e
                rw [hj] at g1
                cases g1
                rw [hk] at g2
                cases g2
                exact hne rfl
            · exact .inr ⟨j, h1, by omega, hj⟩
          simp only [Array.getElem?_eq_getElem hlt]
          by_cases hh : (es[x].hash == kh kd) = true
          · rw [if_pos hh]
            refine wpAny_bind (wpAny_dictEpoch ho hd (wpAny_bind (eqBool_key g4 hx g3 hu (wpAny_bind (wpAny_dictEpoch ho hd ?_)))))
            show wpAny _ _ (if (ep != ep) = true then _ else _) _ E _
            rw [if_neg (by simp)]
            by_cases hkk : k' = k
            · rw [decide_eq_true hkk]
              subst hkk
              have e : d' = kd := nk_inj d' kd k' g2 hk
              subst e
              rcases hHx with ⟨rfl, _⟩ | ⟨j, _, hjx, hj⟩
              · first | rw [if_pos rfl] | skip
                simp only [Option.isSome_none, Bool.false_eq_true, if_false]
                first | refine wpAny_bind (wpAny_pure ?_) | skip
                refine wpAny_bind (wpAny_rule ?_)
                split
                · exact wpAny_pure (wpAny_pure (q1 x g1))
                · exact wpAny_pure ⟨rfl, x + 1, some x, rfl, hrest', hlt, .inr ⟨x, rfl, Nat.lt_succ_self x, g1⟩⟩
              · have e3 : j = x := (List.getElem?_inj (List.getElem?_eq_some_iff.mp hj).1 ka.nodup).mp (hj.trans g1.symm)
                omega
            · rw [decide_eq_false hkk]
              simp only [Bool.false_eq_true, if_false]
              refine wpAny_bind (wpAny_rule ?_)
              first | rw [if_neg (by simp)] | skip
              first
                | exact wpAny_pure ⟨rfl, x + 1, hit, rfl, hrest', hlt, hstay hkk⟩
                | exact wpAny_bind (wpAny_pure (wpAny_pure ⟨rfl, x + 1, hit, rfl, hrest', hlt, hstay hkk⟩))
          · rw [if_neg hh]
            refine wpAny_pure ⟨rfl, x + 1, hit, rfl, hrest', hlt, hstay fun hkk => ?_⟩
            subst hkk
            have e : d' = kd := nk_inj d' kd k' g2 hk
            subst e
            rw [g5] at hh
            simp at hh
        · rintro b s' ⟨rfl, i, hit, rfl, hr, hi, hH⟩
          rcases hH with ⟨rfl, hno⟩ | ⟨j, rfl, _, hj⟩
          · refine wpAny_pure (q0 fun j z => ?_)
            rcases Nat.lt_or_ge j i with h | h
            · exact hno j h z
            · have hl : j < es.size := by rw [ka.len]; exact (List.getElem?_eq_some_iff.mp z).1
              have := List.filter_eq_nil_iff.mp hr.symm j (List.mem_range'_1.mpr ⟨h, by omega⟩)
              exact this (has j z)
          · exact wpAny_pure (q1 j hj))
    cases u with
    | ref a =>
      rw [if_neg (fun z => hany ⟨⟨a, rfl⟩, z⟩)]
      exact body
    | _ => exact body
end
end Vw

set_option Elab.async false
set_option linter.all false
set_option maxRecDepth 100000
/-! Values by value: a layer over HandS. A def's body is read as a plain function of data (PyData): lists and dicts that a def has made itself are owned by one slot and changed there, all else stands still. -/
namespace Vw
open PySem L2

/-- what a slot holds: nothing, data that stands still, a list or dict that is this slot's own, one that is the caller's own and handed in to be changed -/
inductive Sl where
  | un
  | fz (d : PyData)
  | ow (d : PyData)
  | io (d : PyData)
abbrev Rho := List Sl
def Sl.dat : Sl → Option PyData
  | .un => none
  | .fz d => some d
  | .ow d => some d
  | .io d => some d
def cont (ρ : Rho) (i : Nat) : Option PyData := (ρ[i]?).bind Sl.dat

def keyD : Key → PyData
  | .inl i => .int i
  | .inr x => .str x
def keysD (k : List Key) : PyData := .tuple (k.map keyD)

/-- the object of a dict, and what the heap's image tells of it: the object itself -/
def dicObj (es : Array DictEntry) (ep : Nat) : Obj := { cls := .type "dict", data := .dict es ep }
def DicO (a : Addr) (es : Array DictEntry) (ep : Nat) : HO := .ext fun h => h.get? a = some (dicObj es ep)
structure DicOk (a : Addr) (es : Array DictEntry) (ks vs : List V) (ds : List (PyData × PyData)) : Prop where
  sys : (a == sysModules) = false
  size : es.size ≤ sizeLine
  keys : Vals ks (es.toList.map (·.key))
  vals : Vals vs (es.toList.map (·.val))
  hash : es.toList.map (·.hash) = ds.map fun p => kh p.1
  ok : ∀ d ∈ ds.map (·.1), okK d
  nodup : (ds.map (·.1)).Nodup

/-- an object of a class of one's own is laid down as a dict with a mark ahead: the mark lies too deep to be compared or shown -/
def deepD (n : Str) : Nat → PyData
  | 0 => .str n
  | k + 1 => .tuple [deepD n k]
theorem deepD_depth (n : Str) : ∀ k : Nat, (deepD n k).depth = k
  | 0 => by simp [deepD, PyData.depth]
  | k + 1 => by simp [deepD, PyData.depth, PyData.depthAll, deepD_depth n k]
def objL (n : Str) (es : List (Str × PyData)) : List (PyData × PyData) := (.bool true, deepD n 70) :: es.map fun p => (.str p.1, p.2)
def plainD : List (PyData × PyData) → Bool
  | (.bool _, _) :: _ => false
  | _ => true
/-- a class of errors of one's own, by its name: what the written part says of it -/
structure ObC (K : PySem.W.Frag) (n : Str) (C : Addr) : Prop where
  ns : PySem.W.nsIn K mainGlobals n = some (some (.ref C))
  cl : (PySem.W.clsIn K C).isSome = true
  ga : PySem.W.findIn K (.ref C) "__getattribute__" = some (some (.builtin "BaseException.__getattribute__"))
  gg : PySem.W.findIn K (.ref C) "__getattr__" = some none
  sub : PySem.W.subIn K (.ref C) (.type "BaseException") = some true
  hd : PySem.W.hasDictIn K C = true
  ca : PySem.W.findIn K (.ref C) "__class__" = some (some (.builtin "object.__class__"))
  cn : PySem.W.specialIn K (.builtin "object.__class__") "__get__" = some (some (.builtin "getset_descriptor.__get__"))
  ct : PySem.W.takesIn K (.builtin "object.__class__") = some true
  cm : PySem.W.mroIn K C (.type "object") = some true
  no : ∀ b : String, b = "int" ∨ b = "str" ∨ b = "tuple" ∨ b = "list" ∨ b = "bool" ∨ b = "dict" → PySem.W.kitOne K (.ref C) (.type b) = some false

mutual
/-- v stands for d; nothing that may change (A) is met below it -/
inductive Rep (K : PySem.W.Frag) (A : Addr → Prop) (H : Hp) : V → PyData → Prop
  | non : Rep K A H .non .none
  | bl (b : Bool) : Rep K A H (.bl b) (.bool b)
  | int (i : Int) : Rep K A H (.int i) (.int i)
  | str (x : Str) : Rep K A H (.str x) (.str x)
  | lst {a : Addr} {xs : List V} {ds : List PyData} : ¬ A a → H a = some (.lst xs) → RepAll K A H xs ds → Rep K A H (.ref a) (.list ds)
  | tup {a : Addr} {xs : List V} {ds : List PyData} : ¬ A a → Rd H a (.tup xs) → RepAll K A H xs ds → Rep K A H (.ref a) (.tuple ds)
  | tupK {a : Addr} {xs : List V} {ds : List PyData} : (∃ (o : Obj) (its : Array Value) (n : Nat), K.lookup a = some o ∧ o.cls = .type "tuple" ∧ o.data = .seq its n ∧ its.size ≤ sizeLine ∧ Vals xs its.toList) → RepAll K A H xs ds → Rep K A H (.ref a) (.tuple ds)
  | dG {a : Addr} {es : Array DictEntry} {ep : Nat} {ks vs : List V} {ds : List (PyData × PyData)} : ¬ A a → H a = some (DicO a es ep) → DicOk a es ks vs ds → RepAll K A H ks (ds.map (·.1)) → RepAll K A H vs (ds.map (·.2)) → Rep K A H (.ref a) (.dict ds)
  | obj {a dx C : Addr} {n : Str} {fs : List (Str × V)} {es : List (Str × PyData)} : ¬ A a → ¬ A dx → H a = some (exo a C (some dx)) → H dx = some (exd dx fs) → ObC K n C → (∀ f ∈ es.map (·.1), PySem.W.findIn K (.ref C) f = some none) → fs.map (·.1) = es.map (·.1) → RepAll K A H (fs.map (·.2)) (es.map (·.2)) → Rep K A H (.ref a) (.dict ((.bool true, deepD n 70) :: es.map fun p => (.str p.1, p.2)))
  | obj0 {a C : Addr} {n : Str} : ¬ A a → H a = some (ExO (.ref C) a) → ObC K n C → Rep K A H (.ref a) (.dict [(.bool true, deepD n 70)])
inductive RepAll (K : PySem.W.Frag) (A : Addr → Prop) (H : Hp) : List V → List PyData → Prop
  | nil : RepAll K A H [] []
  | cons {v : V} {vs : List V} {d : PyData} {ds : List PyData} : Rep K A H v d → RepAll K A H vs ds → RepAll K A H (v :: vs) (d :: ds)
end

/-- an own list or dict at p -/
def Own (K : PySem.W.Frag) (A : Addr → Prop) (H : Hp) (p : Addr) : PyData → Prop
  | .list ds => ∃ xs, H p = some (.lst xs) ∧ RepAll K A H xs ds
  | .dict ds => ∃ (es : Array DictEntry) (ep : Nat) (ks vs : List V), H p = some (DicO p es ep) ∧ DicOk p es ks vs ds ∧ RepAll K A H ks (ds.map (·.1)) ∧ RepAll K A H vs (ds.map (·.2))
  | _ => False

section
variable {K : PySem.W.Frag} {A A' : Addr → Prop} {H H' : Hp}
theorem Rd.move {a : Addr} {u : HO} (h : ∀ b o, H b = some o → ¬ A b → H' b = some o ∧ ¬ A' b) (na : ¬ A a) (r : Rd H a u) : Rd H' a u ∧ ¬ A' a := by
  rcases r with r | ⟨o, r⟩
  · exact ⟨.inl (h _ _ r na).1, (h _ _ r na).2⟩
  · exact ⟨.inr ⟨o, (h _ _ r na).1⟩, (h _ _ r na).2⟩
mutual
theorem Rep.move (h : ∀ b o, H b = some o → ¬ A b → H' b = some o ∧ ¬ A' b) : ∀ {v : V} {d : PyData}, Rep K A H v d → Rep K A' H' v d
  | _, _, .non => .non
  | _, _, .bl b => .bl b
  | _, _, .int i => .int i
  | _, _, .str x => .str x
  | _, _, .lst na r t => .lst (h _ _ r na).2 (h _ _ r na).1 (RepAll.move h t)
  | _, _, .tup na r t => .tup (Rd.move h na r).2 (Rd.move h na r).1 (RepAll.move h t)
  | _, _, .tupK r t => .tupK r (RepAll.move h t)
  | _, _, .dG na r e t u => .dG (h _ _ r na).2 (h _ _ r na).1 e (RepAll.move h t) (RepAll.move h u)
  | _, _, .obj na nd r r2 c nf e t => .obj (h _ _ r na).2 (h _ _ r2 nd).2 (h _ _ r na).1 (h _ _ r2 nd).1 c nf e (RepAll.move h t)
  | _, _, .obj0 na r c => .obj0 (h _ _ r na).2 (h _ _ r na).1 c
theorem RepAll.move (h : ∀ b o, H b = some o → ¬ A b → H' b = some o ∧ ¬ A' b) : ∀ {vs : List V} {ds : List PyData}, RepAll K A H vs ds → RepAll K A' H' vs ds
  | _, _, .nil => .nil
  | _, _, .cons r t => .cons (Rep.move h r) (RepAll.move h t)
end
theorem Rep.less (h : ∀ b, A' b → A b) {v : V} {d : PyData} (r : Rep K A H v d) : Rep K A' H v d := r.move fun b o e na => ⟨e, fun z => na (h b z)⟩
theorem RepAll.less (h : ∀ b, A' b → A b) {v : List V} {d : List PyData} (r : RepAll K A H v d) : RepAll K A' H v d := r.move fun b o e na => ⟨e, fun z => na (h b z)⟩
theorem RepAll.length : ∀ {vs : List V} {ds : List PyData}, RepAll K A H vs ds → vs.length = ds.length
  | _, _, .nil => rfl
  | _, _, .cons _ t => by simp [RepAll.length t]
theorem RepAll.append : ∀ {vs ws : List V} {ds es : List PyData}, RepAll K A H vs ds → RepAll K A H ws es → RepAll K A H (vs ++ ws) (ds ++ es)
  | _, _, _, _, .nil, t => t
  | _, _, _, _, .cons r t, u => .cons r (RepAll.append t u)
theorem RepAll.get : ∀ {vs : List V} {ds : List PyData} {i : Nat} {d : PyData}, RepAll K A H vs ds → ds[i]? = some d → ∃ v, vs[i]? = some v ∧ Rep K A H v d
  | _, _, _, _, .nil, e => by simp at e
  | _, _, 0, _, .cons r _, e => by simp at e; subst e; exact ⟨_, rfl, r⟩
  | _, _, i + 1, d, .cons _ t, e => by
    obtain ⟨v, h1, h2⟩ := RepAll.get (i := i) (d := d) t (by simpa using e)
    exact ⟨v, by simpa using h1, h2⟩
theorem RepAll.take : ∀ {vs : List V} {ds : List PyData} (n : Nat), RepAll K A H vs ds → RepAll K A H (vs.take n) (ds.take n)
  | _, _, 0, _ => by simp; exact .nil
  | _, _, _ + 1, .nil => .nil
  | _, _, n + 1, .cons r t => .cons r (RepAll.take n t)
theorem RepAll.drop : ∀ {vs : List V} {ds : List PyData} (n : Nat), RepAll K A H vs ds → RepAll K A H (vs.drop n) (ds.drop n)
  | _, _, 0, t => t
  | _, _, _ + 1, .nil => .nil
  | _, _, n + 1, .cons _ t => RepAll.drop n t
theorem RepAll.set {v : V} {d : PyData} (r : Rep K A H v d) : ∀ {vs : List V} {ds : List PyData} (n : Nat), RepAll K A H vs ds → RepAll K A H (vs.set n v) (ds.set n d)
  | _, _, _, .nil => .nil
  | _, _, 0, .cons _ t => .cons r t
  | _, _, n + 1, .cons q t => .cons q (RepAll.set r n t)
theorem RepAll.erase : ∀ {vs : List V} {ds : List PyData} (n : Nat), RepAll K A H vs ds → RepAll K A H (vs.eraseIdx n) (ds.eraseIdx n)
  | _, _, _, .nil => .nil
  | _, _, 0, .cons _ t => t
  | _, _, n + 1, .cons q t => .cons q (RepAll.erase n t)
theorem RepAll.dropLast {vs : List V} {ds : List PyData} (h : RepAll K A H vs ds) : RepAll K A H vs.dropLast ds.dropLast := by
  rw [List.dropLast_eq_take, List.dropLast_eq_take, h.length]
  exact h.take _
theorem RepAll.insert {v : V} {d : PyData} (r : Rep K A H v d) : ∀ {vs : List V} {ds : List PyData} (n : Nat), RepAll K A H vs ds → RepAll K A H (vs.insertIdx n v) (ds.insertIdx n d)
  | _, _, 0, t => .cons r t
  | _, _, _ + 1, .nil => .nil
  | _, _, n + 1, .cons q t => .cons q (RepAll.insert r n t)
theorem RepAll.reverse {vs : List V} {ds : List PyData} (h : RepAll K A H vs ds) : RepAll K A H vs.reverse ds.reverse := by
  induction vs generalizing ds with
  | nil => cases h; exact .nil
  | cons v vs ih =>
    cases h with
    | cons r t =>
      rw [List.reverse_cons, List.reverse_cons]
      exact (ih t).append (.cons r .nil)
theorem RepAll.ints : ∀ {vs : List V} {ns : List Int}, RepAll K A H vs (ns.map .int) → vs = ns.map V.int
  | vs, [], h => by cases h; rfl
  | vs, n :: ns, h => by
    have h' : RepAll K A H vs (.int n :: ns.map .int) := h
    cases h' with
    | cons r t => cases r; rw [RepAll.ints t]; rfl
theorem RepAll.ofInts : ∀ (ns : List Int), RepAll K A H (ns.map V.int) (ns.map .int)
  | [] => .nil
  | n :: ns => .cons (.int n) (RepAll.ofInts ns)
theorem RepAll.bls : ∀ {vs : List V} {ns : List Bool}, RepAll K A H vs (ns.map .bool) → vs = ns.map V.bl
  | vs, [], h => by cases h; rfl
  | vs, n :: ns, h => by
    have h' : RepAll K A H vs (.bool n :: ns.map .bool) := h
    cases h' with
    | cons r t => cases r; rw [RepAll.bls t]; rfl
theorem RepAll.strs : ∀ {vs : List V} {ns : List Str}, RepAll K A H vs (ns.map .str) → vs = ns.map V.str
  | vs, [], h => by cases h; rfl
  | vs, n :: ns, h => by
    have h' : RepAll K A H vs (.str n :: ns.map .str) := h
    cases h' with
    | cons r t => cases r; rw [RepAll.strs t]; rfl
theorem Own.move (h : ∀ b o, H b = some o → ¬ A b → H' b = some o ∧ ¬ A' b) {p : Addr} (hp : H' p = H p) {d : PyData} (r : Own K A H p d) : Own K A' H' p d := by
  cases d with
  | list ds => obtain ⟨xs, e, t⟩ := r; exact ⟨xs, hp.trans e, t.move h⟩
  | dict ds =>
    obtain ⟨es, ep, ks, vs, e, k, t, u⟩ := r
    exact ⟨es, ep, ks, vs, hp.trans e, k, t.move h, u.move h⟩
  | _ => exact r.elim
theorem Own.there {p : Addr} {d : PyData} (r : Own K A H p d) : H p ≠ none := by
  cases d with
  | list ds => obtain ⟨xs, e, t⟩ := r; rw [e]; exact fun z => nomatch z
  | dict ds => obtain ⟨es, ep, ks, vs, e, k, t, u⟩ := r; rw [e]; exact fun z => nomatch z
  | _ => exact r.elim
theorem Own.rep {p : Addr} {d : PyData} (r : Own K A H p d) (h : ∀ b, A' b → A b) (na : ¬ A' p) : Rep K A' H (.ref p) d := by
  cases d with
  | list ds => obtain ⟨xs, e, t⟩ := r; exact .lst na e (t.less h)
  | dict ds =>
    obtain ⟨es, ep, ks, vs, e, k, t, u⟩ := r
    exact .dG na e k (t.less h) (u.less h)
  | _ => exact r.elim
/-- an operand: data that stands still, or an own thing of which no more than its items is asked -/
def RepT (K : PySem.W.Frag) (A : Addr → Prop) (H : Hp) (v : V) (d : PyData) : Prop := Rep K A H v d ∨ ∃ p, v = .ref p ∧ Own K A H p d
theorem RepT.int {v : V} {i : Int} (r : RepT K A H v (.int i)) : v = .int i := by
  rcases r with r | ⟨p, _, r⟩
  · cases r; rfl
  · exact r.elim
theorem RepT.bl {v : V} {i : Bool} (r : RepT K A H v (.bool i)) : v = .bl i := by
  rcases r with r | ⟨p, _, r⟩
  · cases r; rfl
  · exact r.elim
theorem RepT.str {v : V} {i : Str} (r : RepT K A H v (.str i)) : v = .str i := by
  rcases r with r | ⟨p, _, r⟩
  · cases r; rfl
  · exact r.elim
theorem RepT.non {v : V} (r : RepT K A H v .none) : v = .non := by
  rcases r with r | ⟨p, _, r⟩
  · cases r; rfl
  · exact r.elim
theorem RepT.lst {v : V} {ds : List PyData} (r : RepT K A H v (.list ds)) : ∃ p xs, v = .ref p ∧ H p = some (.lst xs) ∧ RepAll K A H xs ds := by
  rcases r with r | ⟨p, e, xs, h, t⟩
  · cases r with
    | lst na r t => exact ⟨_, _, rfl, r, t⟩
  · exact ⟨p, xs, e, h, t⟩
theorem RepT.tup {v : V} {ds : List PyData} (r : RepT K A H v (.tuple ds)) : ∃ p xs, v = .ref p ∧ SqT K H p xs ∧ RepAll K A H xs ds := by
  rcases r with r | ⟨p, e, h⟩
  · cases r with
    | tup na r t => exact ⟨_, _, rfl, .inl r, t⟩
    | tupK r t => exact ⟨_, _, rfl, .inr r, t⟩
  · exact h.elim
/-- a tuple's address itself may be handed on -/
theorem RepT.tupRep {v : V} {ds : List PyData} (r : RepT K A H v (.tuple ds)) : Rep K A H v (.tuple ds) := by
  rcases r with r | ⟨p, e, h⟩
  · exact r
  · exact h.elim
end

/-! ### what changes: O the own addresses -/
structure Ext (O : Addr → Prop) (H : Hp) (O' : Addr → Prop) (H' : Hp) : Prop where
  keep : ∀ b o, H b = some o → ¬ O b → H' b = some o
  nw : ∀ b, O' b → O b ∨ H b = none
  live : ∀ b, H b ≠ none → H' b ≠ none
theorem Ext.refl {O : Addr → Prop} {H : Hp} : Ext O H O H := ⟨fun _ _ e _ => e, fun _ h => .inl h, fun _ h => h⟩
theorem Ext.trans {O O1 O2 : Addr → Prop} {H H1 H2 : Hp} (a : Ext O H O1 H1) (b : Ext O1 H1 O2 H2) : Ext O H O2 H2 where
  keep := fun c o e n => b.keep c o (a.keep c o e n) fun z => (a.nw c z).elim n fun q => by rw [q] at e; cases e
  nw := fun c z => by
    rcases b.nw c z with z | z
    · exact a.nw c z
    · refine .inr (Classical.byContradiction fun q => a.live c q z)
  live := fun c h => b.live c (a.live c h)
theorem Ext.same {O : Addr → Prop} {H H' : Hp} (h : Same H H') : Ext O H O H' :=
  ⟨fun b o e _ => h b o e, fun _ h => .inl h, fun b e z => e (h.free z)⟩
theorem Ext.less {O O' O2 : Addr → Prop} {H H' : Hp} (e : Ext O H O' H') (h : ∀ b, O2 b → O' b) : Ext O H O2 H' := ⟨e.keep, fun b z => e.nw b (h b z), e.live⟩
theorem Ext.mv {M O O' : Addr → Prop} {H H' : Hp} (e : Ext O H O' H') : ∀ b o, H b = some o → ¬ (M b ∨ O b) → H' b = some o ∧ ¬ (M b ∨ O' b) := fun b o h n =>
  ⟨e.keep b o h fun z => n (.inr z), fun z => z.elim (fun z => n (.inl z)) fun z => (e.nw b z).elim (fun z => n (.inr z)) fun q => by rw [q] at h; cases h⟩
theorem Rep.ext {K : PySem.W.Frag} {M O O' : Addr → Prop} {H H' : Hp} (e : Ext O H O' H') {v : V} {d : PyData} (r : Rep K (fun b => M b ∨ O b) H v d) : Rep K (fun b => M b ∨ O' b) H' v d := r.move e.mv
theorem Same.mv {A : Addr → Prop} {H H' : Hp} (e : Same H H') : ∀ b o, H b = some o → ¬ A b → H' b = some o ∧ ¬ A b := fun b o h n => ⟨e b o h, n⟩

/-! ### the state of a def's body -/
def Ows (ρ : Rho) (i : Nat) : Prop := ∃ d, ρ[i]? = some (.ow d) ∨ ρ[i]? = some (.io d)
def OO (ρ : Rho) (σ : L2.St) (p : Addr) : Prop := ∃ i, Ows ρ i ∧ σ[i]? = some (some (.ref p))
structure Sr (K : PySem.W.Frag) (M : Addr → Prop) (ρ : Rho) (σ : L2.St) (H : Hp) : Prop where
  len : σ.length = ρ.length
  fz : ∀ (i : Nat) (d : PyData), ρ[i]? = some (.fz d) → ∃ v, σ[i]? = some (some v) ∧ Rep K (fun b => M b ∨ OO ρ σ b) H v d
  ow : ∀ (i : Nat) (d : PyData), ρ[i]? = some (.ow d) ∨ ρ[i]? = some (.io d) → ∃ p, σ[i]? = some (some (.ref p)) ∧ ¬ M p ∧ Own K (fun b => M b ∨ OO ρ σ b) H p d
  inj : ∀ (i j : Nat) (p : Addr), Ows ρ i → Ows ρ j → σ[i]? = some (some (.ref p)) → σ[j]? = some (some (.ref p)) → i = j
  mt : ∀ b, M b → H b ≠ none
/-- handed in things stay -/
def IoK (ρ ρ' : Rho) : Prop := ρ'.length = ρ.length ∧ ∀ (i : Nat) (d : PyData), ρ[i]? = some (.io d) → ∃ d', ρ'[i]? = some (.io d')
theorem IoK.refl (ρ : Rho) : IoK ρ ρ := ⟨rfl, fun _ d e => ⟨d, e⟩⟩
theorem IoK.trans {a b c : Rho} (h : IoK a b) (k : IoK b c) : IoK a c := ⟨k.1.trans h.1, fun i d e => let ⟨d1, e1⟩ := h.2 i d e; k.2 i d1 e1⟩
section
variable {K : PySem.W.Frag} {M M' : Addr → Prop} {ρ ρ' : Rho} {σ : L2.St} {H H' : Hp}
theorem Sr.lessM (S : Sr K M ρ σ H) (h : ∀ b, M' b → M b) : Sr K M' ρ σ H where
  len := S.len
  fz := fun i d e => let ⟨v, h1, h2⟩ := S.fz i d e; ⟨v, h1, h2.less fun b z => z.elim (fun z => .inl (h b z)) .inr⟩
  ow := fun i d e => let ⟨p, h1, h2, h3⟩ := S.ow i d e; ⟨p, h1, fun z => h2 (h p z), h3.move (fun b o e n => ⟨e, fun z => n (z.elim (fun z => .inl (h b z)) .inr)⟩) rfl⟩
  inj := S.inj
  mt := fun b z => S.mt b (h b z)
theorem Sr.same (S : Sr K M ρ σ H) (h : Same H H') : Sr K M ρ σ H' where
  len := S.len
  fz := fun i d e => let ⟨v, h1, h2⟩ := S.fz i d e; ⟨v, h1, h2.move (Same.mv h)⟩
  ow := fun i d e => by
    obtain ⟨p, h1, h2, h3⟩ := S.ow i d e
    refine ⟨p, h1, h2, h3.move (Same.mv h) ?_⟩
    cases q : H p with
    | none => exact (h3.there q).elim
    | some o => exact h p o q
  inj := S.inj
  mt := fun b z q => S.mt b z (h.free q)
/-- one more address that is no slot's -/
theorem Sr.moreM (S : Sr K M ρ σ H) (h : Same H H') {p : Addr} (n : H p = none) (t : H' p ≠ none) : Sr K (fun b => M b ∨ b = p) ρ σ H' where
  len := S.len
  fz := fun i d e => let ⟨v, h1, h2⟩ := S.fz i d e; ⟨v, h1, h2.move fun b o e' n' => ⟨h b o e', fun z => by
    rcases z with (z | z) | z
    · exact n' (.inl z)
    · subst z; rw [n] at e'; cases e'
    · exact n' (.inr z)⟩⟩
  ow := fun i d e => by
    obtain ⟨q, h1, h2, h3⟩ := S.ow i d e
    have hq : q ≠ p := fun z => by subst z; exact h3.there n
    refine ⟨q, h1, fun z => z.elim h2 hq, h3.move (fun b o e' n' => ⟨h b o e', fun z => ?_⟩) ?_⟩
    · rcases z with (z | z) | z
      · exact n' (.inl z)
      · subst z; rw [n] at e'; cases e'
      · exact n' (.inr z)
    · cases q' : H q with
      | none => exact (h3.there q').elim
      | some o => exact h q o q'
  inj := S.inj
  mt := fun b z q => z.elim (fun z => S.mt b z (h.free q)) fun z => by subst z; exact t q
theorem Sr.ooM (S : Sr K M ρ σ H) {p : Addr} (h : OO ρ σ p) : ¬ M p := by
  obtain ⟨i, ⟨d, e⟩, q⟩ := h
  obtain ⟨p', h1, h2, h3⟩ := S.ow i d e
  rw [q] at h1; cases h1; exact h2
theorem Sr.ooT (S : Sr K M ρ σ H) {p : Addr} (h : OO ρ σ p) : H p ≠ none := by
  obtain ⟨i, ⟨d, e⟩, q⟩ := h
  obtain ⟨p', h1, h2, h3⟩ := S.ow i d e
  rw [q] at h1; cases h1; exact h3.there
end

/-- what a piece of code hands back: data that stands still, or a new list or dict that nothing else knows -/
def Res (K : PySem.W.Frag) (M : Addr → Prop) (O : Addr → Prop) (H : Hp) (ρ' : Rho) (σ' : L2.St) (v : V) (H' : Hp) : Sl → Prop
  | .fz d => Sr K M ρ' σ' H' ∧ Rep K (fun b => M b ∨ OO ρ' σ' b) H' v d
  | .ow d => ∃ p, v = .ref p ∧ (O p ∨ H p = none) ∧ ¬ M p ∧ Sr K (fun b => M b ∨ b = p) ρ' σ' H' ∧ Own K (fun b => (M b ∨ b = p) ∨ OO ρ' σ' b) H' p d
  | _ => False
theorem Res.fz {K : PySem.W.Frag} {M O : Addr → Prop} {H H' : Hp} {ρ' : Rho} {σ' : L2.St} {v : V} {r : Sl} (h : Res K M O H ρ' σ' v H' r) : ∃ d, r.dat = some d ∧ Sr K M ρ' σ' H' ∧ Rep K (fun b => M b ∨ OO ρ' σ' b) H' v d := by
  cases r with
  | fz d => exact ⟨d, rfl, h.1, h.2⟩
  | ow d =>
    obtain ⟨p, rfl, h1, h2, S, h4⟩ := h
    refine ⟨d, rfl, S.lessM fun b => .inl, h4.rep (fun b z => z.elim (fun z => .inl (.inl z)) .inr) fun z => z.elim h2 fun z => S.ooM z (.inr rfl)⟩
  | un => exact h.elim
  | io d => exact h.elim

abbrev EM := Rho → Option (Sl × Rho)
abbrev BM := Rho → Option (Bool × Rho)
/-- an expression's reading by its function -/
def tM (K : PySem.W.Frag) (m : EM) : TE := fun σ H Q => ∃ M ρ r ρ', Sr K M ρ σ H ∧ m ρ = some (r, ρ') ∧
  ∀ v H', Ext (OO ρ σ) H (OO ρ' σ) H' → IoK ρ ρ' → Res K M (OO ρ σ) H ρ' σ v H' r → Q v H'
def bM (K : PySem.W.Frag) (m : BM) : TT := fun σ H Q => ∃ M ρ b ρ', Sr K M ρ σ H ∧ m ρ = some (b, ρ') ∧
  ∀ H', Ext (OO ρ σ) H (OO ρ' σ) H' → IoK ρ ρ' → Sr K M ρ' σ H' → Q b H'
inductive Out where
  | nx (ρ : Rho)
  | rt (r : Sl) (ρ : Rho)
  | bk (ρ : Rho)
  | ct (ρ : Rho)
abbrev SM := Rho → Option Out
/-- behind a statement -/
structure Aft (K : PySem.W.Frag) (M : Addr → Prop) (ρ : Rho) (σ : L2.St) (H : Hp) (ρ' : Rho) (σ' : L2.St) (H' : Hp) : Prop where
  ext : Ext (OO ρ σ) H (OO ρ' σ') H'
  io : IoK ρ ρ'
  st : ∀ (i : Nat) (d : PyData), ρ[i]? = some (.io d) → σ'[i]? = σ[i]?
def Wish (K : PySem.W.Frag) (M : Addr → Prop) (ρ : Rho) (σ : L2.St) (H : Hp) (D : Ends) : Out → Prop
  | .nx ρ' => ∀ σ' H', Aft K M ρ σ H ρ' σ' H' → Sr K M ρ' σ' H' → D.nx σ' H'
  | .bk ρ' => ∀ σ' H', Aft K M ρ σ H ρ' σ' H' → Sr K M ρ' σ' H' → D.bk σ' H'
  | .ct ρ' => ∀ σ' H', Aft K M ρ σ H ρ' σ' H' → Sr K M ρ' σ' H' → D.ct σ' H'
  | .rt r ρ' => ∀ v σ' H', Aft K M ρ σ H ρ' σ' H' → Res K M (OO ρ σ) H ρ' σ' v H' r → D.rt v H'
def sM (K : PySem.W.Frag) (m : SM) : TS := fun D σ H => ∃ M ρ o, Sr K M ρ σ H ∧ m ρ = some o ∧ Wish K M ρ σ H D o
theorem Aft.refl {K : PySem.W.Frag} {M : Addr → Prop} {ρ : Rho} {σ : L2.St} {H : Hp} : Aft K M ρ σ H ρ σ H := ⟨Ext.refl, IoK.refl _, fun _ _ _ => rfl⟩
theorem Aft.trans {K : PySem.W.Frag} {M : Addr → Prop} {ρ ρ1 ρ2 : Rho} {σ σ1 σ2 : L2.St} {H H1 H2 : Hp} (a : Aft K M ρ σ H ρ1 σ1 H1) (b : Aft K M ρ1 σ1 H1 ρ2 σ2 H2) : Aft K M ρ σ H ρ2 σ2 H2 :=
  ⟨a.ext.trans b.ext, a.io.trans b.io, fun i d e => let ⟨d', e'⟩ := a.io.2 i d e; (b.st i d' e').trans (a.st i d e)⟩
theorem Aft.of {K : PySem.W.Frag} {M : Addr → Prop} {ρ ρ1 : Rho} {σ : L2.St} {H H1 : Hp} (e : Ext (OO ρ σ) H (OO ρ1 σ) H1) (i : IoK ρ ρ1) : Aft K M ρ σ H ρ1 σ H1 := ⟨e, i, fun _ _ _ => rfl⟩
theorem Res.after {K : PySem.W.Frag} {M : Addr → Prop} {ρ ρ1 ρ' : Rho} {σ σ1 σ' : L2.St} {H H1 H' : Hp} {v : V} {r : Sl} (a : Ext (OO ρ σ) H (OO ρ1 σ1) H1) (h : Res K M (OO ρ1 σ1) H1 ρ' σ' v H' r) : Res K M (OO ρ σ) H ρ' σ' v H' r := by
  cases r with
  | fz d => exact h
  | ow d =>
    obtain ⟨p, e, h1, h2⟩ := h
    refine ⟨p, e, ?_, h2⟩
    rcases h1 with h1 | h1
    · exact a.nw p h1
    · exact .inr (Classical.byContradiction fun q => a.live p q h1)
  | un => exact h
  | io d => exact h
theorem Wish.after {K : PySem.W.Frag} {M : Addr → Prop} {ρ ρ1 : Rho} {σ σ1 : L2.St} {H H1 : Hp} {D : Ends} (a : Aft K M ρ σ H ρ1 σ1 H1) : ∀ {o : Out}, Wish K M ρ σ H D o → Wish K M ρ1 σ1 H1 D o
  | .nx ρ', w => fun σ' H' b S => w σ' H' (a.trans b) S
  | .bk ρ', w => fun σ' H' b S => w σ' H' (a.trans b) S
  | .ct ρ', w => fun σ' H' b S => w σ' H' (a.trans b) S
  | .rt r ρ', w => fun v σ' H' b S => w v σ' H' (a.trans b) (S.after a.ext)

abbrev XE (X : Cx) (e : Expr) (m : EM) : Prop := PE X e (tM X.K m)
abbrev XT (X : Cx) (e : Expr) (m : BM) : Prop := PT X e (bM X.K m)
abbrev XS (X : Cx) (s : Stmt) (m : SM) : Prop := PS X s (sM X.K m)
abbrev XSs (X : Cx) (s : List Stmt) (m : SM) : Prop := PSs X s (sM X.K m)
theorem pe_imp {X : Cx} {e : Expr} {t t' : TE} (h : PE X e t) (i : ∀ σ H Q, t' σ H Q → t σ H Q) : PE X e t' := ⟨fun pins s σ H Q I q => h.run pins s σ H Q I (i σ H Q q)⟩
theorem pt_imp {X : Cx} {e : Expr} {t t' : TT} (h : PT X e t) (i : ∀ σ H Q, t' σ H Q → t σ H Q) : PT X e t' := ⟨fun pins s σ H Q I q => h.run pins s σ H Q I (i σ H Q q)⟩
theorem pa_imp {X : Cx} {e : List Expr} {t t' : TA} (h : PA X e t) (i : ∀ σ H Q, t' σ H Q → t σ H Q) : PA X e t' := ⟨fun pos pins s σ H Q I q => h.run pos pins s σ H Q I (i σ H Q q)⟩
theorem ps_imp {X : Cx} {e : Stmt} {t t' : TS} (h : PS X e t) (i : ∀ D σ H, t' D σ H → t D σ H) : PS X e t' := ⟨fun pins s σ H D I q => h.run pins s σ H D I (i D σ H q)⟩
theorem pss_imp {X : Cx} {e : List Stmt} {t t' : TS} (h : PSs X e t) (i : ∀ D σ H, t' D σ H → t D σ H) : PSs X e t' := ⟨fun pins s σ H D I q => h.run pins s σ H D I (i D σ H q)⟩
end Vw

set_option Elab.async false
set_option linter.all false
set_option maxRecDepth 100000
/-! expressions -/
namespace Vw
open PySem L2 PyProof.Rows

section
variable {K : PySem.W.Frag} {M : Addr → Prop} {ρ ρ' : Rho} {σ : L2.St} {H H' : Hp}
theorem OO_set {i : Nat} {s : Sl} (hs : s.dat = none ∨ ∃ d, s = .fz d) {b : Addr} (h : OO (ρ.set i s) σ b) : OO ρ σ b ∧ σ[i]? ≠ some (some (.ref b)) ∨ (OO ρ σ b ∧ ¬ Ows ρ i) ∨ OO ρ σ b := by
  obtain ⟨j, ⟨d, e⟩, q⟩ := h
  refine .inr (.inr ⟨j, ⟨d, ?_⟩, q⟩)
  by_cases hj : i = j
  · subst hj
    have hlt : i < ρ.length := by
      rcases e with e | e <;> (have := (List.getElem?_eq_some_iff.mp e).1; simpa using this)
    rw [List.getElem?_set_self hlt] at e
    rcases hs with hs | ⟨d', hs⟩
    · rcases e with e | e <;> (have e := Option.some.inj e; rw [e] at hs; cases hs)
    · rcases e with e | e <;> (have e := Option.some.inj e; rw [e] at hs; cases hs)
  · rw [List.getElem?_set_ne hj] at e
    exact e
theorem Ows_set {i j : Nat} {s : Sl} (hs : s.dat = none ∨ ∃ d, s = .fz d) (h : Ows (ρ.set i s) j) : j ≠ i ∧ Ows ρ j := by
  obtain ⟨d, e⟩ := h
  by_cases hj : i = j
  · subst hj
    exfalso
    have hlt : i < ρ.length := by
      rcases e with e | e <;> (have := (List.getElem?_eq_some_iff.mp e).1; simpa using this)
    rw [List.getElem?_set_self hlt] at e
    rcases hs with hs | ⟨d', hs⟩
    · rcases e with e | e <;> (have e := Option.some.inj e; rw [e] at hs; cases hs)
    · rcases e with e | e <;> (have e := Option.some.inj e; rw [e] at hs; cases hs)
  · rw [List.getElem?_set_ne hj] at e
    exact ⟨fun z => hj z.symm, d, e⟩
theorem OO_sub {i : Nat} {s : Sl} (hs : s.dat = none ∨ ∃ d, s = .fz d) {b : Addr} (h : OO (ρ.set i s) σ b) : OO ρ σ b := by
  obtain ⟨j, h1, h2⟩ := h
  exact ⟨j, (Ows_set hs h1).2, h2⟩
/-- an own slot is given up -/
theorem Sr.drop (S : Sr K M ρ σ H) {i : Nat} {s : Sl} (hs : s.dat = none ∨ ∃ d, s = .fz d ∧ ∃ v, σ[i]? = some (some v) ∧ Rep K (fun b => M b ∨ OO (ρ.set i s) σ b) H v d) : Sr K M (ρ.set i s) σ H := by
  have hs' : s.dat = none ∨ ∃ d, s = .fz d := hs.imp id fun ⟨d, h, _⟩ => ⟨d, h⟩
  refine ⟨by simpa using S.len, fun j d e => ?_, fun j d e => ?_, fun j k p h1 h2 => S.inj j k p (Ows_set hs' h1).2 (Ows_set hs' h2).2, S.mt⟩
  · by_cases hj : i = j
    · subst hj
      have hlt : i < ρ.length := by have := (List.getElem?_eq_some_iff.mp e).1; simpa using this
      rw [List.getElem?_set_self hlt] at e
      have e := Option.some.inj e
      rcases hs with hs | ⟨d', hs, h⟩
      · rw [e] at hs; cases hs
      · rw [hs] at e; cases e; rw [hs] at h; rw [hs]; exact h
    · rw [List.getElem?_set_ne hj] at e
      obtain ⟨v, h1, h2⟩ := S.fz j d e
      exact ⟨v, h1, h2.less fun b z => z.elim .inl fun z => .inr (OO_sub hs' z)⟩
  · have h := Ows_set hs' ⟨d, e⟩
    rw [List.getElem?_set_ne (Ne.symm h.1)] at e
    obtain ⟨p, h1, h2, h3⟩ := S.ow j d e
    exact ⟨p, h1, h2, h3.move (fun b o e n => ⟨e, fun z => n (z.elim .inl fun z => .inr (OO_sub hs' z))⟩) rfl⟩
theorem IoK.set {i : Nat} {s : Sl} (h : ∀ d, ρ[i]? ≠ some (.io d)) : IoK ρ (ρ.set i s) := by
  refine ⟨by simp, fun j d e => ?_⟩
  have hj : i ≠ j := fun z => h d (z ▸ e)
  exact ⟨d, by rw [List.getElem?_set_ne hj]; exact e⟩
/-- the own slot i, given up, its thing at p out of all reach -/
theorem Sr.out (S : Sr K M ρ σ H) {i : Nat} {d : PyData} (e : ρ[i]? = some (.ow d)) {s : Sl} (hs : s.dat = none ∨ ∃ d, s = .fz d) {p : Addr} (hp : σ[i]? = some (some (.ref p))) : ¬ OO (ρ.set i s) σ p := by
  rintro ⟨j, h1, h2⟩
  obtain ⟨hj, h3⟩ := Ows_set hs h1
  exact hj (S.inj j i p h3 ⟨d, .inl e⟩ h2 hp)
end

/-! ### constants, names -/
def eC (d : PyData) : EM := fun ρ => some (.fz d, ρ)
theorem tM_C {K : PySem.W.Frag} {d : PyData} {v : V} (h : ∀ A H, Rep K A H v d) {σ : L2.St} {H : Hp} {Q : VK} (q : tM K (eC d) σ H Q) : Q v H := by
  obtain ⟨M, ρ, r, ρ', S, e, k⟩ := q
  cases e
  exact k v H Ext.refl (IoK.refl _) ⟨S, h _ _⟩
section
variable {X : Cx}
theorem x_int {i : Int} {j pos} : XE X (.Constant (.int i) j pos) (eC (.int i)) := pe_imp pe_int fun _ _ _ q => tM_C (fun _ _ => .int i) q
theorem x_bl {i : Bool} {j pos} : XE X (.Constant (.bool i) j pos) (eC (.bool i)) := pe_imp pe_bl fun _ _ _ q => tM_C (fun _ _ => .bl i) q
theorem x_str {i : Str} {j pos} : XE X (.Constant (.str i) j pos) (eC (.str i)) := pe_imp pe_str fun _ _ _ q => tM_C (fun _ _ => .str i) q
theorem x_non {j pos} : XE X (.Constant .none j pos) (eC .none) := pe_imp pe_non fun _ _ _ q => tM_C (fun _ _ => .non) q
/-- a module's constant -/
theorem x_glob {x : Str} {d : PyData} {v : V} {u : Value} {pos : Pos} (hg : Gl X x) (hm : X.mg x = some u) (r : RelV v u) (h : ∀ A H, Rep X.K A H v d) (hd : (x == ("__debug__" : Str)) = false := by decide) : XE X (.Name x pos) (eC d) := pe_imp (pe_glob hg hm r hd) fun _ _ _ q => tM_C h q
end
/-- a name's value, to be kept elsewhere: an own thing stands still from here on -/
def eName (i : Nat) : EM := fun ρ => match ρ[i]? with
  | some (.fz d) => some (.fz d, ρ)
  | some (.ow d) => some (.fz d, ρ.set i (.fz d))
  | _ => none
/-- a name's value, the name is not read any more -/
def eMove (i : Nat) : EM := fun ρ => match ρ[i]? with
  | some (.fz d) => some (.fz d, ρ)
  | some (.ow d) => some (.ow d, ρ.set i .un)
  | _ => none
section
variable {K : PySem.W.Frag} {σ : L2.St} {H : Hp} {Q : VK}
theorem tM_name {i : Nat} (q : tM K (eName i) σ H Q) : tVar i σ H Q := by
  obtain ⟨M, ρ, r, ρ', S, e, k⟩ := q
  unfold eName at e
  split at e
  · rename_i d h
    cases e
    obtain ⟨v, h1, h2⟩ := S.fz i d h
    exact ⟨v, h1, k v H Ext.refl (IoK.refl _) ⟨S, h2⟩⟩
  · rename_i d h
    cases e
    obtain ⟨p, h1, h2, h3⟩ := S.ow i d (.inl h)
    have hs : (Sl.fz d).dat = none ∨ ∃ d', Sl.fz d = .fz d' := .inr ⟨d, rfl⟩
    have rp : Rep K (fun b => M b ∨ OO (ρ.set i (.fz d)) σ b) H (.ref p) d := h3.rep (fun b z => z.elim .inl fun z => .inr (OO_sub hs z)) fun z => z.elim h2 (S.out h hs h1)
    refine ⟨_, h1, k _ H ((Ext.refl).less fun b z => OO_sub hs z) (IoK.set fun d' z => by rw [h] at z; cases z) ⟨S.drop (.inr ⟨d, rfl, _, h1, rp⟩), rp⟩⟩
  · cases e
theorem tM_move {i : Nat} (q : tM K (eMove i) σ H Q) : tVar i σ H Q := by
  obtain ⟨M, ρ, r, ρ', S, e, k⟩ := q
  unfold eMove at e
  split at e
  · rename_i d h
    cases e
    obtain ⟨v, h1, h2⟩ := S.fz i d h
    exact ⟨v, h1, k v H Ext.refl (IoK.refl _) ⟨S, h2⟩⟩
  · rename_i d h
    cases e
    obtain ⟨p, h1, h2, h3⟩ := S.ow i d (.inl h)
    have hs : Sl.un.dat = none ∨ ∃ d', Sl.un = .fz d' := .inl rfl
    have S1 := S.drop (i := i) (s := .un) (.inl rfl)
    have np : ¬ OO (ρ.set i .un) σ p := S.out h hs h1
    have hO : OO ρ σ p := ⟨i, ⟨d, .inl h⟩, h1⟩
    refine ⟨_, h1, k _ H ((Ext.refl).less fun b z => OO_sub hs z) (IoK.set fun d' z => by rw [h] at z; cases z) ⟨p, rfl, .inl hO, h2, ?_, h3.move (fun b o e n => ⟨e, fun z => n ?_⟩) rfl⟩⟩
    · refine ⟨S1.len, fun j d' e' => ?_, fun j d' e' => ?_, S1.inj, fun b z => z.elim (S.mt b) fun z => by subst z; exact S.ooT hO⟩
      · have hne : i ≠ j := by
          rintro rfl
          have hlt : i < ρ.length := by have := (List.getElem?_eq_some_iff.mp e').1; simpa using this
          rw [List.getElem?_set_self hlt] at e'; cases e'
        obtain ⟨v, g1, g2⟩ := S.fz j d' (by rw [List.getElem?_set_ne hne] at e'; exact e')
        exact ⟨v, g1, g2.less fun b z => z.elim (fun z => z.elim .inl fun z => .inr (z ▸ hO)) fun z => .inr (OO_sub hs z)⟩
      · obtain ⟨hne, _⟩ := Ows_set hs ⟨d', e'⟩
        obtain ⟨p', g1, g2, g3⟩ := S.ow j d' (by rw [List.getElem?_set_ne (Ne.symm hne)] at e'; exact e')
        refine ⟨p', g1, fun z => z.elim g2 fun z => np ⟨j, ⟨d', e'⟩, z ▸ g1⟩, g3.move (fun b o e n => ⟨e, fun z => n ?_⟩) rfl⟩
        exact z.elim (fun z => z.elim .inl fun z => .inr (z ▸ hO)) fun z => .inr (OO_sub hs z)
    · exact z.elim (fun z => z.elim .inl fun z => .inr (z ▸ hO)) fun z => .inr (OO_sub hs z)
  · cases e
end
section
variable {X : Cx}
theorem x_name (i : Nat) {x : Str} {pos : Pos} (hN : X.N[i]? = some x := by rfl) (hv : Vis X.env.scope x := by first | exact Or.inl rfl | exact Or.inr (Or.inl rfl) | exact Or.inr (Or.inr rfl)) (hd : (x == ("__debug__" : Str)) = false := by decide)
    (hcd : (x == ("__classdict__" : Str)) = false := by decide) : XE X (.Name x pos) (eName i) := pe_imp (pe_var hN hv hd hcd) fun _ _ _ q => tM_name q
theorem x_move (i : Nat) {x : Str} {pos : Pos} (hN : X.N[i]? = some x := by rfl) (hv : Vis X.env.scope x := by first | exact Or.inl rfl | exact Or.inr (Or.inl rfl) | exact Or.inr (Or.inr rfl)) (hd : (x == ("__debug__" : Str)) = false := by decide)
    (hcd : (x == ("__classdict__" : Str)) = false := by decide) : XE X (.Name x pos) (eMove i) := pe_imp (pe_var hN hv hd hcd) fun _ _ _ q => tM_move q
end

/-! ### operands: an expression, or a name of which no more than the items is asked -/
inductive Opd where
  | val (m : EM)
  | bor (i : Nat)
def pre : Opd → Rho → Option (Option PyData × Rho)
  | .val m, ρ => (m ρ).bind fun p => p.1.dat.map fun d => (some d, p.2)
  | .bor i, ρ => (ρ[i]?).bind fun s => match s with
    | .fz d => some (some d, ρ)
    | .ow _ => some (none, ρ)
    | .io _ => some (none, ρ)
    | .un => none
def fin : Opd → Option PyData → Rho → Option PyData
  | _, some d, _ => some d
  | .bor i, none, ρ => (ρ[i]?).bind fun s => match s with
    | .ow d => some d
    | .io d => some d
    | _ => none
  | .val _, none, _ => none
/-- an operand's value as it is held until all are there -/
def PreAt (K : PySem.W.Frag) (M : Addr → Prop) (ρ : Rho) (σ : L2.St) (H : Hp) (o : Opd) (v : V) : Option PyData → Prop
  | some d => Rep K (fun b => M b ∨ OO ρ σ b) H v d
  | none => ∃ i, o = .bor i ∧ σ[i]? = some (some v)
def oM (K : PySem.W.Frag) (o : Opd) : TE := fun σ H Q => ∃ M ρ x ρ', Sr K M ρ σ H ∧ pre o ρ = some (x, ρ') ∧
  ∀ v H', Ext (OO ρ σ) H (OO ρ' σ) H' → IoK ρ ρ' → Sr K M ρ' σ H' → PreAt K M ρ' σ H' o v x → Q v H'
abbrev XO (X : Cx) (e : Expr) (o : Opd) : Prop := PE X e (oM X.K o)
section
variable {X : Cx} {K : PySem.W.Frag} {σ : L2.St} {H : Hp} {Q : VK}
theorem oM_val {m : EM} (q : oM K (.val m) σ H Q) : tM K m σ H Q := by
  obtain ⟨M, ρ, x, ρ', S, e, k⟩ := q
  simp only [pre] at e
  cases em : m ρ with
  | none => rw [em] at e; cases e
  | some p =>
    obtain ⟨r, ρ1⟩ := p
    rw [em] at e
    simp only [Option.bind_some] at e
    cases ed : r.dat with
    | none => rw [ed] at e; cases e
    | some d =>
      rw [ed] at e
      cases e
      refine ⟨M, ρ, r, _, S, em, fun v H' x1 x2 x3 => ?_⟩
      obtain ⟨d', h1, h2, h3⟩ := x3.fz
      rw [ed] at h1
      cases h1
      exact k v H' x1 x2 h2 h3
theorem x_val {e : Expr} {m : EM} (h : XE X e m) : XO X e (.val m) := pe_imp h fun _ _ _ q => oM_val q
theorem oM_bor {i : Nat} (q : oM K (.bor i) σ H Q) : tVar i σ H Q := by
  obtain ⟨M, ρ, x, ρ', S, e, k⟩ := q
  simp only [pre] at e
  cases em : ρ[i]? with
  | none => rw [em] at e; cases e
  | some s =>
    rw [em] at e
    cases s with
    | fz d =>
      cases e
      obtain ⟨v, h1, h2⟩ := S.fz i d em
      exact ⟨v, h1, k v H Ext.refl (IoK.refl _) S h2⟩
    | ow d =>
      cases e
      obtain ⟨p, h1, h2⟩ := S.ow i d (.inl em)
      exact ⟨_, h1, k _ H Ext.refl (IoK.refl _) S ⟨i, rfl, h1⟩⟩
    | io d =>
      cases e
      obtain ⟨p, h1, h2⟩ := S.ow i d (.inr em)
      exact ⟨_, h1, k _ H Ext.refl (IoK.refl _) S ⟨i, rfl, h1⟩⟩
    | un => cases e
theorem x_bor (i : Nat) {x : Str} {pos : Pos} (hN : X.N[i]? = some x := by rfl) (hv : Vis X.env.scope x := by first | exact Or.inl rfl | exact Or.inr (Or.inl rfl) | exact Or.inr (Or.inr rfl)) (hd : (x == ("__debug__" : Str)) = false := by decide)
    (hcd : (x == ("__classdict__" : Str)) = false := by decide) : XO X (.Name x pos) (.bor i) := pe_imp (pe_var hN hv hd hcd) fun _ _ _ q => oM_bor q
end
/-- from the left -/
def pres : List Opd → Rho → Option (List (Option PyData) × Rho)
  | [], ρ => some ([], ρ)
  | o :: os, ρ => (pre o ρ).bind fun p => (pres os p.2).map fun q => (p.1 :: q.1, q.2)
def fins : List Opd → List (Option PyData) → Rho → Option (List PyData)
  | [], [], _ => some []
  | o :: os, x :: xs, ρ => (fin o x ρ).bind fun d => (fins os xs ρ).map fun ds => d :: ds
  | _, _, _ => none
inductive PreAll (K : PySem.W.Frag) (M : Addr → Prop) (ρ : Rho) (σ : L2.St) (H : Hp) : List Opd → List V → List (Option PyData) → Prop
  | nil : PreAll K M ρ σ H [] [] []
  | cons {o os v vs x xs} : PreAt K M ρ σ H o v x → PreAll K M ρ σ H os vs xs → PreAll K M ρ σ H (o :: os) (v :: vs) (x :: xs)
theorem PreAt.ext {K : PySem.W.Frag} {M : Addr → Prop} {ρ ρ' : Rho} {σ : L2.St} {H H' : Hp} (e : Ext (OO ρ σ) H (OO ρ' σ) H') {o : Opd} {v : V} : ∀ {x : Option PyData}, PreAt K M ρ σ H o v x → PreAt K M ρ' σ H' o v x
  | some d, h => Rep.ext e h
  | none, h => h
def pM (K : PySem.W.Frag) (os : List Opd) : TA := fun σ H Q => ∃ M ρ xs ρ', Sr K M ρ σ H ∧ pres os ρ = some (xs, ρ') ∧
  ∀ vs H', Ext (OO ρ σ) H (OO ρ' σ) H' → IoK ρ ρ' → Sr K M ρ' σ H' → PreAll K M ρ' σ H' os vs xs → Q vs H'
theorem pM_nil {K : PySem.W.Frag} {σ : L2.St} {H : Hp} {Q : List V → Hp → Prop} (q : pM K [] σ H Q) : tNil σ H Q := by
  obtain ⟨M, ρ, x, ρ', S, e, k⟩ := q
  cases e
  exact k [] H Ext.refl (IoK.refl _) S .nil
theorem pM_cons {K : PySem.W.Frag} {o : Opd} {os : List Opd} {σ : L2.St} {H : Hp} {Q : List V → Hp → Prop} (q : pM K (o :: os) σ H Q) : tCons (oM K o) (pM K os) σ H Q := by
  obtain ⟨M, ρ, xs, ρ', S, e, k⟩ := q
  simp only [pres] at e
  cases e1 : pre o ρ with
  | none => rw [e1] at e; cases e
  | some p =>
    obtain ⟨x, ρ1⟩ := p
    rw [e1] at e
    simp only [Option.bind_some] at e
    cases e2 : pres os ρ1 with
    | none => rw [e2] at e; cases e
    | some q =>
      obtain ⟨ys, ρ2⟩ := q
      rw [e2] at e
      cases e
      refine ⟨M, ρ, x, ρ1, S, e1, fun v H1 x1 x2 S1 p1 => ⟨M, ρ1, ys, _, S1, e2, fun vs H2 y1 y2 S2 p2 => ?_⟩⟩
      exact k (v :: vs) H2 (x1.trans y1) (x2.trans y2) S2 (.cons (p1.ext y1) p2)
abbrev XA (X : Cx) (es : List Expr) (os : List Opd) : Prop := PA X es (pM X.K os)
theorem xa_nil {X : Cx} : XA X [] [] := pa_imp pa_nil fun _ _ _ q => pM_nil q
theorem xa_cons {X : Cx} {e : Expr} {es : List Expr} {o : Opd} {os : List Opd} (h : XO X e o) (t : XA X es os) (hs : starEach (e :: es) X.env = (false, eval e X.env) :: starEach es X.env := by rfl) : XA X (e :: es) (o :: os) :=
  pa_imp (pa_cons h t hs) fun _ _ _ q => pM_cons q

/-- operands at an operation -/
inductive RepTs (K : PySem.W.Frag) (A : Addr → Prop) (H : Hp) : List V → List PyData → Prop
  | nil : RepTs K A H [] []
  | cons {v vs d ds} : RepT K A H v d → RepTs K A H vs ds → RepTs K A H (v :: vs) (d :: ds)
theorem fin_rep {K : PySem.W.Frag} {M : Addr → Prop} {ρ : Rho} {σ : L2.St} {H : Hp} (S : Sr K M ρ σ H) {o : Opd} {v : V} {d : PyData} : ∀ {x : Option PyData}, PreAt K M ρ σ H o v x → fin o x ρ = some d → RepT K (fun b => M b ∨ OO ρ σ b) H v d
  | some d', h, e => by
    have e' : some d' = some d := by cases o <;> exact e
    cases e'
    exact .inl h
  | none, h, e => by
    obtain ⟨i, rfl, hi⟩ := h
    simp only [fin] at e
    cases es : ρ[i]? with
    | none => rw [es] at e; cases e
    | some s =>
      rw [es] at e
      cases s with
      | ow d' =>
        cases e
        obtain ⟨p, h1, h2, h3⟩ := S.ow i d (.inl es)
        rw [hi] at h1; cases h1
        exact .inr ⟨p, rfl, h3⟩
      | io d' =>
        cases e
        obtain ⟨p, h1, h2, h3⟩ := S.ow i d (.inr es)
        rw [hi] at h1; cases h1
        exact .inr ⟨p, rfl, h3⟩
      | un => cases e
      | fz _ => cases e
theorem fins_rep {K : PySem.W.Frag} {M : Addr → Prop} {ρ : Rho} {σ : L2.St} {H : Hp} (S : Sr K M ρ σ H) : ∀ {os : List Opd} {vs : List V} {xs : List (Option PyData)} {ds : List PyData}, PreAll K M ρ σ H os vs xs → fins os xs ρ = some ds → RepTs K (fun b => M b ∨ OO ρ σ b) H vs ds
  | _, _, _, _, .nil, e => by cases e; exact .nil
  | o :: os, v :: vs, x :: xs, ds, .cons h t, e => by
    simp only [fins] at e
    cases e1 : fin o x ρ with
    | none => rw [e1] at e; cases e
    | some d =>
      rw [e1] at e
      simp only [Option.bind_some] at e
      cases e2 : fins os xs ρ with
      | none => rw [e2] at e; cases e
      | some es =>
        rw [e2] at e
        cases e
        exact .cons (fin_rep S h e1) (fins_rep S t e2)
/-- an operation's answer -/
def VRes (K : PySem.W.Frag) (A : Addr → Prop) (H : Hp) (v : V) (H' : Hp) : Sl → Prop
  | .fz d => Rep K A H' v d
  | .ow d => ∃ p, v = .ref p ∧ H p = none ∧ Own K (fun b => A b ∨ b = p) H' p d
  | _ => False
/-- the addresses that may change all stand -/
def Live (A : Addr → Prop) (H : Hp) : Prop := ∀ b, A b → H b ≠ none
theorem Sr.liveA {K : PySem.W.Frag} {M : Addr → Prop} {ρ : Rho} {σ : L2.St} {H : Hp} (S : Sr K M ρ σ H) : Live (fun b => M b ∨ OO ρ σ b) H := fun b z => z.elim (S.mt b) S.ooT
/-- an operation by values: r asks no more than that g answers -/
def FnD (K : PySem.W.Frag) (r : List V → Hp → VK → Prop) (g : List PyData → Option Sl) : Prop :=
  ∀ (A : Addr → Prop) (vs : List V) (ds : List PyData) (H : Hp) (s : Sl) (Q : VK), Live A H → RepTs K A H vs ds → g ds = some s → (∀ v H', Same H H' → VRes K A H v H' s → Q v H') → r vs H Q
def eFn (g : List PyData → Option Sl) (os : List Opd) : EM := fun ρ => (pres os ρ).bind fun p => (fins os p.1 p.2).bind fun ds => (g ds).map fun s => (s, p.2)
theorem VRes.res {K : PySem.W.Frag} {M O : Addr → Prop} {ρ' : Rho} {σ : L2.St} {H0 H H' : Hp} (S : Sr K M ρ' σ H) (hO : ∀ b, H0 b ≠ none → H b ≠ none) (e : Same H H') {v : V} : ∀ {s : Sl}, VRes K (fun b => M b ∨ OO ρ' σ b) H v H' s → Res K M O H0 ρ' σ v H' s
  | .fz d, h => ⟨S.same e, h⟩
  | .ow d, h => by
    obtain ⟨p, rfl, hp, h⟩ := h
    refine ⟨p, rfl, .inr (Classical.byContradiction fun q => hO p q hp), fun z => S.mt p z hp, S.moreM e hp h.there, h.move (fun b o e n => ⟨e, fun z => n ?_⟩) rfl⟩
    rcases z with (z | z) | z
    · exact .inl (.inl z)
    · exact .inr z
    · exact .inl (.inr z)
theorem tM_fn {K : PySem.W.Frag} {r : List V → Hp → VK → Prop} {g : List PyData → Option Sl} (hg : FnD K r g) {os : List Opd} {σ : L2.St} {H : Hp} {Q : VK} (q : tM K (eFn g os) σ H Q) : pM K os σ H fun vs H1 => r vs H1 Q := by
  obtain ⟨M, ρ, s, ρ', S, e, k⟩ := q
  unfold eFn at e
  cases e1 : pres os ρ with
  | none => rw [e1] at e; cases e
  | some p =>
    obtain ⟨xs, ρ1⟩ := p
    rw [e1] at e
    simp only [Option.bind_some] at e
    cases e2 : fins os xs ρ1 with
    | none => rw [e2] at e; cases e
    | some ds =>
      rw [e2] at e
      simp only [Option.bind_some] at e
      cases e3 : g ds with
      | none => rw [e3] at e; cases e
      | some s' =>
        rw [e3] at e
        cases e
        refine ⟨M, ρ, xs, _, S, e1, fun vs H1 x1 x2 S1 p1 => ?_⟩
        refine hg _ vs ds H1 s Q S1.liveA (fins_rep S1 p1 e2) e3 fun v H2 sm hv => ?_
        exact k v H2 (x1.trans (Ext.same sm)) x2 (hv.res S1 x1.live sm)
theorem pM2 {K : PySem.W.Frag} {a b : Opd} {σ : L2.St} {H : Hp} {R : List V → Hp → Prop} (q : pM K [a, b] σ H R) : oM K a σ H fun x H1 => oM K b σ H1 fun y H2 => R [x, y] H2 := by
  have h := pM_cons q
  obtain ⟨M, ρ, x, ρ', S, e, k⟩ := h
  refine ⟨M, ρ, x, ρ', S, e, fun v H' x1 x2 x3 x4 => ?_⟩
  have h2 := pM_cons (k v H' x1 x2 x3 x4)
  obtain ⟨M2, ρ2, y, ρ3, S2, e2, k2⟩ := h2
  exact ⟨M2, ρ2, y, ρ3, S2, e2, fun w H2 y1 y2 y3 y4 => pM_nil (k2 w H2 y1 y2 y3 y4)⟩
theorem pM1 {K : PySem.W.Frag} {a : Opd} {σ : L2.St} {H : Hp} {R : List V → Hp → Prop} (q : pM K [a] σ H R) : oM K a σ H fun x H1 => R [x] H1 := by
  have h := pM_cons q
  obtain ⟨M, ρ, x, ρ', S, e, k⟩ := h
  exact ⟨M, ρ, x, ρ', S, e, fun v H' x1 x2 x3 x4 => pM_nil (k v H' x1 x2 x3 x4)⟩
/-- two operands by an operation's rule -/
def r2 (r : R2) : List V → Hp → VK → Prop := fun vs H Q => ∀ x y, vs = [x, y] → r x y H Q
def r1 (r : V → Hp → VK → Prop) : List V → Hp → VK → Prop := fun vs H Q => ∀ x, vs = [x] → r x H Q
theorem tM_op {K : PySem.W.Frag} {r : R2} {g : List PyData → Option Sl} (hg : FnD K (r2 r) g) {a b : Opd} {σ : L2.St} {H : Hp} {Q : VK} (q : tM K (eFn g [a, b]) σ H Q) : tOp r (oM K a) (oM K b) σ H Q := by
  have h := pM2 (tM_fn hg q)
  obtain ⟨M, ρ, x, ρ', S, e, k⟩ := h
  refine ⟨M, ρ, x, ρ', S, e, fun v H' x1 x2 x3 x4 => ?_⟩
  obtain ⟨M2, ρ2, y, ρ3, S2, e2, k2⟩ := k v H' x1 x2 x3 x4
  exact ⟨M2, ρ2, y, ρ3, S2, e2, fun w H2 y1 y2 y3 y4 => k2 w H2 y1 y2 y3 y4 _ _ rfl⟩
section
variable {X : Cx} {a b : Expr} {oa ob : Opd} {pos : Pos} {g : List PyData → Option Sl}
theorem x_bin {op : Operator} {r : R2} (ho : OpR X (binaryOp op) r) (hg : FnD X.K (r2 r) g) (ha : XO X a oa) (hb : XO X b ob) : XE X (.BinOp a op b pos) (eFn g [oa, ob]) :=
  pe_imp (pe_op ho ha hb) fun _ _ _ q => tM_op hg q
theorem x_cmp {op : CmpOp} {r : R2} (ho : OpR X (compareOp op) r) (hg : FnD X.K (r2 r) g) (ha : XO X a oa) (hb : XO X b ob) (hm : behindInMarks op b = false) : XE X (.Compare a [op] [b] pos) (eFn g [oa, ob]) :=
  pe_imp (pe_cmpR ho ha hb hm) fun _ _ _ q => tM_op hg q
theorem x_un {op : UnaryOp} {r : V → Hp → VK → Prop} (ho : UnR X (unaryOp op) r) (hg : FnD X.K (r1 r) g) (ha : XO X a oa) : XE X (.UnaryOp op a pos) (eFn g [oa]) :=
  pe_imp (pe_un ho ha) fun σ H Q q => by
    have h := pM1 (tM_fn hg q)
    obtain ⟨M, ρ, x, ρ', S, e, k⟩ := h
    exact ⟨M, ρ, x, ρ', S, e, fun v H' x1 x2 x3 x4 => k v H' x1 x2 x3 x4 _ rfl⟩
theorem x_ix {r : R2} (hr : IxR X r) (hg : FnD X.K (r2 r) g) (ha : XO X a oa) (hb : XO X b ob) (hs : PlainIx b := by exact fun _ _ => rfl) : XE X (.Subscript a b pos) (eFn g [oa, ob]) :=
  pe_imp (pe_ix hr ha hb hs) fun _ _ _ q => tM_op hg q
/-- a built-in's call -/
theorem x_callB {id : String} {r : List V → Hp → VK → Prop} {x : Str} {e : Expr} {es : List Expr} {os : List Opd} {p : Pos} (hc : CallR X (.builtin id) r) (hg : FnD X.K r g) (gl : Gl X x) (hm : X.mg x = none) (hv : bootBuiltins x = some (.builtin id)) (ha : XA X (e :: es) os) (hn : x ≠ "__name__" := by decide) (hdb : (x == ("__debug__" : Str)) = false := by decide)
    (he : starEach (e :: es) X.env = (false, eval e X.env) :: starEach es X.env := by rfl) (hpl : (backTo pos (starEach es X.env)).any (·.1) = false := by rfl) : XE X (.Call (.Name x p) (e :: es) [] pos) (eFn g os) :=
  pe_imp (pe_callB hc gl hm hv ha hn hdb he hpl) fun _ _ _ q => tM_fn hg q
theorem x_callTy {T : String} {r : List V → Hp → VK → Prop} {x : Str} {e : Expr} {es : List Expr} {os : List Opd} {p : Pos} (hc : CallR X (.type T) r) (hg : FnD X.K r g) (gl : Gl X x) (hm : X.mg x = none) (hv : bootBuiltins x = some (.type T)) (ha : XA X (e :: es) os) (hn : x ≠ "__name__" := by decide) (hdb : (x == ("__debug__" : Str)) = false := by decide)
    (he : starEach (e :: es) X.env = (false, eval e X.env) :: starEach es X.env := by rfl) (hpl : (backTo pos (starEach es X.env)).any (·.1) = false := by rfl) : XE X (.Call (.Name x p) (e :: es) [] pos) (eFn g os) :=
  pe_imp (pe_callTy hc gl hm hv ha hn hdb he hpl) fun _ _ _ q => tM_fn hg q
end
theorem RepTs.length {K : PySem.W.Frag} {A : Addr → Prop} {H : Hp} : ∀ {vs : List V} {ds : List PyData}, RepTs K A H vs ds → vs.length = ds.length
  | _, _, .nil => rfl
  | _, _, .cons _ t => by simp [RepTs.length t]
end Vw

set_option Elab.async false
set_option linter.all false
set_option maxRecDepth 100000
/-! displays, truth, tests, statements -/
namespace Vw
open PySem L2 PyProof.Rows

/-! ### displays: every item is to be kept -/
def Opd.isVal : Opd → Bool
  | .val _ => true
  | .bor _ => false
theorem fins_vals {K : PySem.W.Frag} {M : Addr → Prop} {ρ : Rho} {σ : L2.St} {H : Hp} : ∀ {os : List Opd} {vs : List V} {xs : List (Option PyData)} {ds : List PyData}, os.all Opd.isVal = true → PreAll K M ρ σ H os vs xs → fins os xs ρ = some ds → RepAll K (fun b => M b ∨ OO ρ σ b) H vs ds
  | _, _, _, _, _, .nil, e => by cases e; exact .nil
  | o :: os, v :: vs, x :: xs, ds, ha, .cons h t, e => by
    simp only [List.all_cons, Bool.and_eq_true] at ha
    simp only [fins] at e
    cases x with
    | none =>
      obtain ⟨i, rfl, _⟩ := h
      cases ha.1
    | some d =>
      have ef : fin o (some d) ρ = some d := by cases o <;> rfl
      rw [ef] at e
      simp only [Option.bind_some] at e
      cases e2 : fins os xs ρ with
      | none => rw [e2] at e; cases e
      | some es =>
        rw [e2] at e
        cases e
        exact .cons h (fins_vals ha.2 t e2)
/-- an operation by values that are kept -/
def FnR (K : PySem.W.Frag) (r : List V → Hp → VK → Prop) (g : List PyData → Option Sl) : Prop :=
  ∀ (A : Addr → Prop) (vs : List V) (ds : List PyData) (H : Hp) (s : Sl) (Q : VK), Live A H → RepAll K A H vs ds → g ds = some s → (∀ v H', Same H H' → VRes K A H v H' s → Q v H') → r vs H Q
theorem tM_fnR {K : PySem.W.Frag} {r : List V → Hp → VK → Prop} {g : List PyData → Option Sl} (hg : FnR K r g) {os : List Opd} (hv : os.all Opd.isVal = true) {σ : L2.St} {H : Hp} {Q : VK} (q : tM K (eFn g os) σ H Q) : pM K os σ H fun vs H1 => r vs H1 Q := by
  obtain ⟨M, ρ, s, ρ', S, e, k⟩ := q
  unfold eFn at e
  cases e1 : pres os ρ with
  | none => rw [e1] at e; cases e
  | some p =>
    obtain ⟨xs, ρ1⟩ := p
    rw [e1] at e
    simp only [Option.bind_some] at e
    cases e2 : fins os xs ρ1 with
    | none => rw [e2] at e; cases e
    | some ds =>
      rw [e2] at e
      simp only [Option.bind_some] at e
      cases e3 : g ds with
      | none => rw [e3] at e; cases e
      | some s' =>
        rw [e3] at e
        cases e
        refine ⟨M, ρ, xs, _, S, e1, fun vs H1 x1 x2 S1 p1 => ?_⟩
        refine hg _ vs ds H1 s Q S1.liveA (fins_vals hv p1 e2) e3 fun v H2 sm hv => ?_
        exact k v H2 (x1.trans (Ext.same sm)) x2 (hv.res S1 x1.live sm)
theorem same_upd {H : Hp} {p : Addr} (n : H p = none) (o : HO) : Same H (upd H p o) := fun b u e => by rw [upd_ne (ne_of_none e n)]; exact e
def gTup' : List PyData → Option Sl := fun ds => if ds.length ≤ sizeLine then some (.fz (.tuple ds)) else none
def gLst' : List PyData → Option Sl := fun ds => if ds.length ≤ sizeLine then some (.ow (.list ds)) else none
theorem new_tup {K : PySem.W.Frag} {A : Addr → Prop} {H : Hp} {vs : List V} {ds : List PyData} (h : RepAll K A H vs ds) (hA : ∀ b, A b → H b ≠ none) {p : Addr} (n : H p = none) : Rep K A (upd H p (.tup vs)) (.ref p) (.tuple ds) :=
  .tup (fun z => hA p z n) (.inl upd_same) (h.move (Same.mv (same_upd n _)))
theorem new_lst {K : PySem.W.Frag} {A : Addr → Prop} {H : Hp} {vs : List V} {ds : List PyData} (h : RepAll K A H vs ds) {p : Addr} (n : H p = none) : Own K (fun b => A b ∨ b = p) (upd H p (.lst vs)) p (.list ds) :=
  ⟨vs, upd_same, h.move fun b o e na => ⟨same_upd n _ b o e, fun z => z.elim na fun z => by subst z; rw [n] at e; cases e⟩⟩

section
variable {X : Cx} {K : PySem.W.Frag} {es : List Expr} {os : List Opd} {pos : Pos}
theorem x_tup {x1} (h : XA X es os) (hv : os.all Opd.isVal = true) : XE X (.Tuple es x1 pos) (eFn gTup' os) := pe_imp (pe_tup h) fun σ H Q q => by
  refine tM_fnR (r := fun vs H Q => vs.length ≤ sizeLine ∧ ∀ p, H p = none → Q (.ref p) (upd H p (.tup vs))) ?_ hv q
  intro A vs ds H s Q hA h e k
  unfold gTup' at e
  split at e
  · cases e
    exact ⟨by rw [h.length]; assumption, fun p n => k _ _ (same_upd n _) (new_tup h hA n)⟩
  · cases e
theorem x_lst (h : XA X es os) (hv : os.all Opd.isVal = true) : XE X (.List es pos) (eFn gLst' os) := pe_imp (pe_lst h) fun σ H Q q => by
  refine tM_fnR (r := fun vs H Q => vs.length ≤ sizeLine ∧ ∀ p, H p = none → Q (.ref p) (upd H p (.lst vs))) ?_ hv q
  intro A vs ds H s Q hA h e k
  unfold gLst' at e
  split at e
  · cases e
    exact ⟨by rw [h.length]; assumption, fun p n => k _ _ (same_upd n _) ⟨p, rfl, n, new_lst h n⟩⟩
  · cases e
end

/-! ### truth -/
def eAnd (a b : EM) : EM := fun ρ => (a ρ).bind fun p => match p.1 with
  | .fz (.bool c) => if c = true then b p.2 else some (.fz (.bool false), p.2)
  | _ => none
def eOr (a b : EM) : EM := fun ρ => (a ρ).bind fun p => match p.1 with
  | .fz (.bool c) => if c = true then some (.fz (.bool true), p.2) else b p.2
  | _ => none
def eNot (a : EM) : EM := fun ρ => (a ρ).bind fun p => match p.1 with
  | .fz (.bool c) => some (.fz (.bool (!c)), p.2)
  | _ => none
def bOf (a : EM) : BM := fun ρ => (a ρ).bind fun p => match p.1 with
  | .fz (.bool c) => some (c, p.2)
  | _ => none
def bAnd (a b : BM) : BM := fun ρ => (a ρ).bind fun p => if p.1 = true then b p.2 else some (false, p.2)
def bOr (a b : BM) : BM := fun ρ => (a ρ).bind fun p => if p.1 = true then some (true, p.2) else b p.2
def bNot (a : BM) : BM := fun ρ => (a ρ).map fun p => (!p.1, p.2)
def eIf (t : BM) (a b : EM) : EM := fun ρ => (t ρ).bind fun p => if p.1 = true then a p.2 else b p.2
section
variable {K : PySem.W.Frag} {σ : L2.St} {H : Hp}
/-- a piece, then the rest -/
theorem tM_bind {α : Type} {a : EM} {f : Sl × Rho → Option (α × Rho)} {R : Rho → L2.St → Hp → Prop} {M : Addr → Prop} {ρ ρ' : Rho} {x : α} (S : Sr K M ρ σ H) (e : (a ρ).bind f = some (x, ρ')) {Q : VK}
    (k : ∀ r ρ1 v H1, a ρ = some (r, ρ1) → f (r, ρ1) = some (x, ρ') → Ext (OO ρ σ) H (OO ρ1 σ) H1 → IoK ρ ρ1 → Res K M (OO ρ σ) H ρ1 σ v H1 r → Q v H1) : tM K a σ H Q := by
  cases ea : a ρ with
  | none => rw [ea] at e; cases e
  | some p =>
    obtain ⟨r, ρ1⟩ := p
    rw [ea] at e
    exact ⟨M, ρ, r, ρ1, S, ea, fun v H1 x1 x2 R => k r ρ1 v H1 ea e x1 x2 R⟩
theorem bM_bind {α : Type} {a : BM} {f : Bool × Rho → Option (α × Rho)} {M : Addr → Prop} {ρ ρ' : Rho} {x : α} (S : Sr K M ρ σ H) (e : (a ρ).bind f = some (x, ρ')) {Q : Bool → Hp → Prop}
    (k : ∀ c ρ1 H1, f (c, ρ1) = some (x, ρ') → Ext (OO ρ σ) H (OO ρ1 σ) H1 → IoK ρ ρ1 → Sr K M ρ1 σ H1 → Q c H1) : bM K a σ H Q := by
  cases ea : a ρ with
  | none => rw [ea] at e; cases e
  | some p =>
    obtain ⟨r, ρ1⟩ := p
    rw [ea] at e
    exact ⟨M, ρ, r, ρ1, S, ea, fun H1 x1 x2 R => k r ρ1 H1 e x1 x2 R⟩
theorem Res.bool {M O : Addr → Prop} {H' : Hp} {ρ' : Rho} {σ' : L2.St} {v : V} {c : Bool} (h : Res K M O H ρ' σ' v H' (.fz (.bool c))) : v = .bl c ∧ Sr K M ρ' σ' H' := by
  obtain ⟨S, r⟩ := h
  cases r
  exact ⟨rfl, S⟩
theorem tM_bool {a : EM} {α : Type} {g : Bool → Rho → Option (α × Rho)} {M : Addr → Prop} {ρ ρ' : Rho} {x : α} (S : Sr K M ρ σ H)
    (e : ((a ρ).bind fun p => match p.1 with | .fz (.bool c) => g c p.2 | _ => none) = some (x, ρ')) {Q : VK}
    (k : ∀ c ρ1 H1, g c ρ1 = some (x, ρ') → Ext (OO ρ σ) H (OO ρ1 σ) H1 → IoK ρ ρ1 → Sr K M ρ1 σ H1 → Q (.bl c) H1) : tM K a σ H Q := by
  refine tM_bind (R := fun _ _ _ => True) S e fun r ρ1 v H1 _ e1 x1 x2 R => ?_
  split at e1
  · rename_i c hc
    have hc' : r = .fz (.bool c) := hc
    subst hc'
    obtain ⟨rfl, S1⟩ := R.bool
    exact k c ρ1 H1 e1 x1 x2 S1
  · cases e1
theorem tM_and {a b : EM} {Q : VK} (q : tM K (eAnd a b) σ H Q) : tAndV (tM K a) (tM K b) σ H Q := by
  obtain ⟨M, ρ, r, ρ', S, e, k⟩ := q
  refine tM_bool (a := a) (α := Sl) (g := fun c ρ1 => if c = true then b ρ1 else some (Sl.fz (.bool false), ρ1)) S e fun c ρ1 H1 e1 x1 x2 S1 => ⟨c, rfl, ?_⟩
  cases c with
  | true => exact iteT ⟨M, ρ1, r, ρ', S1, by simpa using e1, fun v H2 y1 y2 R => k v H2 (x1.trans y1) (x2.trans y2) (R.after x1)⟩
  | false =>
    have e2 : some (Sl.fz (.bool false), ρ1) = some (r, ρ') := by simpa using e1
    cases e2
    exact iteF (k _ H1 x1 x2 ⟨S1, .bl false⟩)
theorem tM_or {a b : EM} {Q : VK} (q : tM K (eOr a b) σ H Q) : tOrV (tM K a) (tM K b) σ H Q := by
  obtain ⟨M, ρ, r, ρ', S, e, k⟩ := q
  refine tM_bool (a := a) (α := Sl) (g := fun c ρ1 => if c = true then some (Sl.fz (.bool true), ρ1) else b ρ1) S e fun c ρ1 H1 e1 x1 x2 S1 => ⟨c, rfl, ?_⟩
  cases c with
  | false => exact iteF ⟨M, ρ1, r, ρ', S1, by simpa using e1, fun v H2 y1 y2 R => k v H2 (x1.trans y1) (x2.trans y2) (R.after x1)⟩
  | true =>
    have e2 : some (Sl.fz (.bool true), ρ1) = some (r, ρ') := by simpa using e1
    cases e2
    exact iteT (k _ H1 x1 x2 ⟨S1, .bl true⟩)
theorem tM_not {a : EM} {Q : VK} (q : tM K (eNot a) σ H Q) : tNotV (tM K a) σ H Q := by
  obtain ⟨M, ρ, r, ρ', S, e, k⟩ := q
  refine tM_bool (a := a) (α := Sl) (g := fun c ρ1 => some (Sl.fz (.bool (!c)), ρ1)) S e fun c ρ1 H1 e1 x1 x2 S1 => ⟨c, rfl, ?_⟩
  cases e1
  exact k _ H1 x1 x2 ⟨S1, .bl _⟩
theorem bM_of {a : EM} {Q : Bool → Hp → Prop} (q : bM K (bOf a) σ H Q) : tM K a σ H fun x H' => ∃ k, x = .bl k ∧ Q k H' := by
  obtain ⟨M, ρ, r, ρ', S, e, k⟩ := q
  refine tM_bool (a := a) (α := Bool) (g := fun c ρ1 => some (c, ρ1)) S e fun c ρ1 H1 e1 x1 x2 S1 => ⟨c, rfl, ?_⟩
  cases e1
  exact k H1 x1 x2 S1
theorem bM_and {a b : BM} {Q : Bool → Hp → Prop} (q : bM K (bAnd a b) σ H Q) : tAnd (bM K a) (bM K b) σ H Q := by
  obtain ⟨M, ρ, r, ρ', S, e, k⟩ := q
  refine bM_bind S e fun c ρ1 H1 e1 x1 x2 S1 => ?_
  cases c with
  | true => exact iteT ⟨M, ρ1, r, ρ', S1, by simpa using e1, fun H2 y1 y2 R => k H2 (x1.trans y1) (x2.trans y2) R⟩
  | false =>
    have e2 : some (false, ρ1) = some (r, ρ') := by simpa using e1
    cases e2
    exact iteF (k H1 x1 x2 S1)
theorem bM_or {a b : BM} {Q : Bool → Hp → Prop} (q : bM K (bOr a b) σ H Q) : tOr (bM K a) (bM K b) σ H Q := by
  obtain ⟨M, ρ, r, ρ', S, e, k⟩ := q
  refine bM_bind S e fun c ρ1 H1 e1 x1 x2 S1 => ?_
  cases c with
  | false => exact iteF ⟨M, ρ1, r, ρ', S1, by simpa using e1, fun H2 y1 y2 R => k H2 (x1.trans y1) (x2.trans y2) R⟩
  | true =>
    have e2 : some (true, ρ1) = some (r, ρ') := by simpa using e1
    cases e2
    exact iteT (k H1 x1 x2 S1)
theorem bM_not {a : BM} {Q : Bool → Hp → Prop} (q : bM K (bNot a) σ H Q) : tNot (bM K a) σ H Q := by
  obtain ⟨M, ρ, r, ρ', S, e, k⟩ := q
  unfold bNot at e
  rw [Option.map_eq_bind] at e
  refine bM_bind S e fun c ρ1 H1 e1 x1 x2 S1 => ?_
  cases e1
  exact k H1 x1 x2 S1
theorem tM_if {t : BM} {a b : EM} {Q : VK} (q : tM K (eIf t a b) σ H Q) : tIf (bM K t) (tM K a) (tM K b) σ H Q := by
  obtain ⟨M, ρ, r, ρ', S, e, k⟩ := q
  refine bM_bind S e fun c ρ1 H1 e1 x1 x2 S1 => ?_
  cases c with
  | true => exact iteT ⟨M, ρ1, r, ρ', S1, by simpa using e1, fun v H2 y1 y2 R => k v H2 (x1.trans y1) (x2.trans y2) (R.after x1)⟩
  | false => exact iteF ⟨M, ρ1, r, ρ', S1, by simpa using e1, fun v H2 y1 y2 R => k v H2 (x1.trans y1) (x2.trans y2) (R.after x1)⟩
end
section
variable {X : Cx} {a b c : Expr} {rest : List Expr} {ma mb : EM} {ta tb : BM} {pos : Pos}
theorem x_one {op} (h : XE X a ma) : XE X (.BoolOp op [a] pos) ma := pe_one h
theorem x_and (ha : XE X a ma) (hb : XE X (.BoolOp .And (b :: rest) pos) mb) : XE X (.BoolOp .And (a :: b :: rest) pos) (eAnd ma mb) := pe_imp (pe_and ha hb) fun _ _ _ q => tM_and q
theorem x_or (ha : XE X a ma) (hb : XE X (.BoolOp .Or (b :: rest) pos) mb) : XE X (.BoolOp .Or (a :: b :: rest) pos) (eOr ma mb) := pe_imp (pe_or ha hb) fun _ _ _ q => tM_or q
theorem x_not (ha : XE X a ma) : XE X (.UnaryOp .Not a pos) (eNot ma) := pe_imp (pe_not ha) fun _ _ _ q => tM_not q
abbrev XW (X : Cx) (e : Expr) (m : BM) : Prop := PW X e (bM X.K m)
theorem pw_imp {X : Cx} {e : Expr} {t t' : TT} (h : PW X e t) (i : ∀ σ H Q, t' σ H Q → t σ H Q) : PW X e t' := ⟨fun wh pins s σ H Q I q => h.run wh pins s σ H Q I (i σ H Q q)⟩
theorem w_and1 (h : XT X a ta) : XW X (.BoolOp .And [a] pos) ta := pw_and1 h
theorem w_or1 (h : XT X a ta) : XW X (.BoolOp .Or [a] pos) ta := pw_or1 h
theorem w_and (ha : XT X a ta) (hb : XW X (.BoolOp .And (b :: rest) pos) tb) : XW X (.BoolOp .And (a :: b :: rest) pos) (bAnd ta tb) := pw_imp (pw_and ha hb) fun _ _ _ q => bM_and q
theorem w_or (ha : XT X a ta) (hb : XW X (.BoolOp .Or (b :: rest) pos) tb) : XW X (.BoolOp .Or (a :: b :: rest) pos) (bOr ta tb) := pw_imp (pw_or ha hb) fun _ _ _ q => bM_or q
theorem t_w (h : XW X a ta) : XT X a ta := h.pt
theorem t_not (ha : XT X a ta) : XT X (.UnaryOp .Not a pos) (bNot ta) := pt_imp (pt_not ha) fun _ _ _ q => bM_not q
/-- an expression that is True or False, no comparison, no not, and, or -/
theorem t_val (ha : XE X a ma) (he : ∀ whole, isTrue a X.env whole = (do let v ← whole; standAt a.pos; holding [v] (truthy v)) := by intro _; rfl) : XT X a (bOf ma) := pt_imp (pt_val ha he) fun _ _ _ q => bM_of q
theorem t_cmp {op : CmpOp} {r : R2} {g : List PyData → Option Sl} {oa ob : Opd} (ho : OpR X (compareOp op) r) (hg : FnD X.K (r2 r) g) (ha : XO X a oa) (hb : XO X b ob) (hm : behindInMarks op b = false) : XT X (.Compare a [op] [b] pos) (bOf (eFn g [oa, ob])) :=
  pt_imp (pt_cmpR ho ha hb hm) fun _ _ _ q => tM_op hg (bM_of q)
theorem x_if (hc : XT X c ta) (ha : XE X a ma) (hb : XE X b mb) : XE X (.IfExp c a b pos) (eIf ta ma mb) := pe_imp (pe_ifExp hc ha hb) fun _ _ _ q => tM_if q
end

/-! ### statements -/
section
variable {K : PySem.W.Frag} {M : Addr → Prop} {ρ ρ' : Rho} {σ : L2.St} {H H' : Hp}
theorem OO_put {i : Nat} {r : Sl} {v : V} {b : Addr} (h : OO (ρ.set i r) (σ.set i (some v)) b) : OO ρ σ b ∧ (∃ j, j ≠ i ∧ Ows ρ j ∧ σ[j]? = some (some (.ref b))) ∨ (v = .ref b ∧ ∃ d, r = .ow d ∨ r = .io d) := by
  obtain ⟨j, ⟨d, e⟩, q⟩ := h
  by_cases hj : i = j
  · subst hj
    have hlt : i < ρ.length := by
      rcases e with e | e <;> (have := (List.getElem?_eq_some_iff.mp e).1; simpa using this)
    have hlt2 : i < σ.length := by have := (List.getElem?_eq_some_iff.mp q).1; simpa using this
    rw [List.getElem?_set_self hlt] at e
    rw [List.getElem?_set_self hlt2] at q
    exact .inr ⟨Option.some.inj (Option.some.inj q), d, e.imp Option.some.inj Option.some.inj⟩
  · rw [List.getElem?_set_ne hj] at e q
    exact .inl ⟨⟨j, ⟨d, e⟩, q⟩, j, fun z => hj z.symm, ⟨d, e⟩, q⟩
/-- a slot is stored: data -/
theorem Sr.putF (S : Sr K M ρ σ H) {i : Nat} {v : V} {d : PyData} (r : Rep K (fun b => M b ∨ OO ρ σ b) H v d) (hi : i < ρ.length) : Sr K M (ρ.set i (.fz d)) (σ.set i (some v)) H := by
  have sub : ∀ b, OO (ρ.set i (.fz d)) (σ.set i (some v)) b → OO ρ σ b := fun b z => by
    rcases OO_put z with z | ⟨_, d', z | z⟩
    · exact z.1
    · cases z
    · cases z
  have own : ∀ j, Ows (ρ.set i (.fz d)) j → j ≠ i ∧ Ows ρ j := fun j z => Ows_set (.inr ⟨d, rfl⟩) z
  have hi2 : i < σ.length := by rw [S.len]; exact hi
  refine ⟨by simpa using S.len, fun j d' e => ?_, fun j d' e => ?_, fun j k p h1 h2 h3 h4 => ?_, S.mt⟩
  · by_cases hj : i = j
    · subst hj
      rw [List.getElem?_set_self hi] at e
      cases e
      exact ⟨v, List.getElem?_set_self hi2, r.less fun b z => z.imp id (sub b)⟩
    · rw [List.getElem?_set_ne hj] at e ⊢
      obtain ⟨v', h1, h2⟩ := S.fz j d' e
      exact ⟨v', h1, h2.less fun b z => z.imp id (sub b)⟩
  · obtain ⟨hj, _⟩ := own j ⟨d', e⟩
    rw [List.getElem?_set_ne (Ne.symm hj)] at e ⊢
    obtain ⟨p, h1, h2, h3⟩ := S.ow j d' e
    exact ⟨p, h1, h2, h3.move (fun b o e n => ⟨e, fun z => n (z.imp id (sub b))⟩) rfl⟩
  · obtain ⟨hj, g1⟩ := own j h1
    obtain ⟨hk, g2⟩ := own k h2
    rw [List.getElem?_set_ne (Ne.symm hj)] at h3
    rw [List.getElem?_set_ne (Ne.symm hk)] at h4
    exact S.inj j k p g1 g2 h3 h4
/-- .. an own thing that nothing else knows -/
theorem Sr.putO {p : Addr} (S : Sr K (fun b => M b ∨ b = p) ρ σ H) {i : Nat} {d : PyData} (r : Own K (fun b => (M b ∨ b = p) ∨ OO ρ σ b) H p d) (np : ¬ M p) (hi : i < ρ.length) : Sr K M (ρ.set i (.ow d)) (σ.set i (some (.ref p))) H := by
  have sub : ∀ b, (M b ∨ OO (ρ.set i (.ow d)) (σ.set i (some (.ref p))) b) → (M b ∨ b = p) ∨ OO ρ σ b := fun b z => by
    rcases z with z | z
    · exact .inl (.inl z)
    · rcases OO_put z with z | ⟨z, _⟩
      · exact .inr z.1
      · cases z; exact .inl (.inr rfl)
  have hi2 : i < σ.length := by rw [S.len]; exact hi
  have own : ∀ j, Ows (ρ.set i (.ow d)) j → j ≠ i → Ows ρ j := fun j ⟨d', z⟩ hj => by
    rw [List.getElem?_set_ne (Ne.symm hj)] at z
    exact ⟨d', z⟩
  have far : ∀ j q, Ows ρ j → σ[j]? = some (some (.ref q)) → q ≠ p := fun j q ⟨d', z⟩ h => by
    obtain ⟨q', h1, h2, _⟩ := S.ow j d' z
    rw [h] at h1; cases h1
    exact fun z => h2 (.inr z)
  refine ⟨by simpa using S.len, fun j d' e => ?_, fun j d' e => ?_, fun j k q h1 h2 h3 h4 => ?_, fun b z => S.mt b (.inl z)⟩
  · have hj : i ≠ j := by
      rintro rfl
      rw [List.getElem?_set_self hi] at e
      cases e
    rw [List.getElem?_set_ne hj] at e ⊢
    obtain ⟨v', h1, h2⟩ := S.fz j d' e
    exact ⟨v', h1, h2.less sub⟩
  · by_cases hj : i = j
    · subst hj
      rw [List.getElem?_set_self hi] at e
      have e : d = d' := by
        rcases e with e | e
        · cases e; rfl
        · cases e
      subst e
      exact ⟨p, List.getElem?_set_self hi2, np, r.move (fun b o e n => ⟨e, fun z => n (sub b z)⟩) rfl⟩
    · rw [List.getElem?_set_ne hj] at e ⊢
      obtain ⟨q, h1, h2, h3⟩ := S.ow j d' e
      exact ⟨q, h1, fun z => h2 (.inl z), h3.move (fun b o e n => ⟨e, fun z => n (sub b z)⟩) rfl⟩
  · by_cases hj : j = i
    · by_cases hk : k = i
      · rw [hj, hk]
      · subst hj
        rw [List.getElem?_set_self hi2] at h3
        cases h3
        rw [List.getElem?_set_ne (Ne.symm hk)] at h4
        exact absurd rfl (far k p (own k h2 hk) h4)
    · by_cases hk : k = i
      · subst hk
        rw [List.getElem?_set_self hi2] at h4
        cases h4
        rw [List.getElem?_set_ne (Ne.symm hj)] at h3
        exact absurd rfl (far j p (own j h1 hj) h3)
      · rw [List.getElem?_set_ne (Ne.symm hj)] at h3
        rw [List.getElem?_set_ne (Ne.symm hk)] at h4
        exact S.inj j k q (own j h1 hj) (own k h2 hk) h3 h4
end
/-- a slot that may be stored -/
def Free (ρ : Rho) (i : Nat) : Prop := i < ρ.length ∧ ∀ d, ρ[i]? ≠ some (.io d)
def put (i : Nat) (r : Sl) (ρ : Rho) : Option Rho := match ρ[i]? with
  | some (.io _) => none
  | some _ => some (ρ.set i r)
  | none => none
theorem put_some {i : Nat} {r : Sl} {ρ ρ' : Rho} (e : put i r ρ = some ρ') : Free ρ i ∧ ρ' = ρ.set i r := by
  unfold put at e
  split at e
  · cases e
  · rename_i s hn hs
    cases e
    exact ⟨⟨(List.getElem?_eq_some_iff.mp hs).1, fun d z => by rw [z] at hs; exact hn d (Option.some.inj hs).symm⟩, rfl⟩
  · cases e
theorem put_aft {K : PySem.W.Frag} {M O : Addr → Prop} {ρ ρ' : Rho} {σ : L2.St} {H0 H : Hp} {i : Nat} {r : Sl} {v : V} (e : put i r ρ = some ρ') (hr : Res K M O H0 ρ σ v H r) (lv : ∀ b, H0 b ≠ none → H b ≠ none) :
    Sr K M ρ' (σ.set i (some v)) H ∧ IoK ρ ρ' ∧ (∀ b, OO ρ' (σ.set i (some v)) b → OO ρ σ b ∨ O b ∨ H0 b = none) ∧ ∀ (j : Nat) (d : PyData), ρ[j]? = some (.io d) → (σ.set i (some v))[j]? = σ[j]? := by
  obtain ⟨⟨hi, hn⟩, rfl⟩ := put_some e
  have io : IoK ρ (ρ.set i r) := IoK.set hn
  have st : ∀ (j : Nat) (d : PyData), ρ[j]? = some (.io d) → (σ.set i (some v))[j]? = σ[j]? := fun j d h => by
    rw [List.getElem?_set_ne]
    rintro rfl
    exact hn d h
  cases r with
  | fz d =>
    refine ⟨Sr.putF hr.1 hr.2 hi, io, fun b z => ?_, st⟩
    rcases OO_put z with z | ⟨_, d', z | z⟩
    · exact .inl z.1
    · cases z
    · cases z
  | ow d =>
    obtain ⟨p, rfl, h1, h2, h3, h4⟩ := hr
    refine ⟨Sr.putO h3 h4 h2 hi, io, fun b z => ?_, st⟩
    rcases OO_put z with z | ⟨z, _⟩
    · exact .inl z.1
    · cases z; exact .inr h1
  | un => exact hr.elim
  | io d => exact hr.elim

def sSet (i : Nat) (m : EM) : SM := fun ρ => (m ρ).bind fun p => (put i p.1 p.2).map .nx
def sSeq (a b : SM) : SM := fun ρ => (a ρ).bind fun o => match o with
  | .nx ρ' => b ρ'
  | o => some o
def sNil : SM := fun ρ => some (.nx ρ)
def sIf (t : BM) (a b : SM) : SM := fun ρ => (t ρ).bind fun p => if p.1 = true then a p.2 else b p.2
def sRet (m : EM) : SM := fun ρ => (m ρ).map fun p => .rt p.1 p.2
def sRetN : SM := fun ρ => some (.rt (.fz .none) ρ)
def sDrop (m : EM) : SM := fun ρ => (m ρ).map fun p => .nx p.2
def sBreak : SM := fun ρ => some (.bk ρ)
def sCont : SM := fun ρ => some (.ct ρ)
def sNever : SM := fun _ => none
section
variable {K : PySem.W.Frag} {σ : L2.St} {H : Hp} {D : Ends}
theorem sM_set {i : Nat} {m : EM} (q : sM K (sSet i m) D σ H) : tAsg (tM K m) (gName i) D σ H := by
  obtain ⟨M, ρ, o, S, e, w⟩ := q
  unfold sSet at e
  cases e1 : m ρ with
  | none => rw [e1] at e; cases e
  | some p =>
    obtain ⟨r, ρ1⟩ := p
    rw [e1] at e
    simp only [Option.bind_some] at e
    cases e2 : put i r ρ1 with
    | none => rw [e2] at e; cases e
    | some ρ2 =>
      rw [e2] at e
      cases e
      refine ⟨M, ρ, r, ρ1, S, e1, fun v H1 x1 x2 R => ?_⟩
      obtain ⟨S2, io, hO, st⟩ := put_aft e2 R x1.live
      refine w _ _ ⟨⟨x1.keep, fun b z => ?_, x1.live⟩, x2.trans io, fun j d h => ?_⟩ S2
      · rcases hO b z with z | z | z
        · exact x1.nw b z
        · exact .inl z
        · exact .inr z
      · obtain ⟨d', h'⟩ := x2.2 j d h
        exact st j d' h'
theorem sM_seq {a b : SM} (q : sM K (sSeq a b) D σ H) : tSeq (sM K a) (sM K b) D σ H := by
  obtain ⟨M, ρ, o, S, e, w⟩ := q
  unfold sSeq at e
  cases e1 : a ρ with
  | none => rw [e1] at e; cases e
  | some o1 =>
    rw [e1] at e
    simp only [Option.bind_some] at e
    refine ⟨M, ρ, o1, S, e1, ?_⟩
    cases o1 with
    | nx ρ1 => exact fun σ1 H1 a1 S1 => ⟨M, ρ1, o, S1, e, Wish.after a1 w⟩
    | bk ρ1 => cases e; exact w
    | ct ρ1 => cases e; exact w
    | rt r ρ1 => cases e; exact w
theorem sM_nil (q : sM K sNil D σ H) : tNext D σ H := by
  obtain ⟨M, ρ, o, S, e, w⟩ := q
  cases e
  exact w σ H Aft.refl S
theorem sM_if {t : BM} {a b : SM} (q : sM K (sIf t a b) D σ H) : tIfS (bM K t) (sM K a) (sM K b) D σ H := by
  obtain ⟨M, ρ, o, S, e, w⟩ := q
  unfold sIf at e
  cases e1 : t ρ with
  | none => rw [e1] at e; cases e
  | some p =>
    obtain ⟨c, ρ1⟩ := p
    rw [e1] at e
    simp only [Option.bind_some] at e
    refine ⟨M, ρ, c, ρ1, S, e1, fun H1 x1 x2 S1 => ?_⟩
    have A1 : Aft K M ρ σ H ρ1 σ H1 := Aft.of x1 x2
    cases c with
    | true => exact iteT ⟨M, ρ1, o, S1, by simpa using e, Wish.after A1 w⟩
    | false => exact iteF ⟨M, ρ1, o, S1, by simpa using e, Wish.after A1 w⟩
theorem sM_ret {m : EM} (q : sM K (sRet m) D σ H) : tRet (tM K m) D σ H := by
  obtain ⟨M, ρ, o, S, e, w⟩ := q
  unfold sRet at e
  cases e1 : m ρ with
  | none => rw [e1] at e; cases e
  | some p =>
    obtain ⟨r, ρ1⟩ := p
    rw [e1] at e
    cases e
    exact ⟨M, ρ, r, ρ1, S, e1, fun v H1 x1 x2 R => w v σ H1 (Aft.of x1 x2) R⟩
theorem sM_retN (q : sM K sRetN D σ H) : tRetN D σ H := by
  obtain ⟨M, ρ, o, S, e, w⟩ := q
  cases e
  exact w .non σ H Aft.refl ⟨S, .non⟩
theorem sM_drop {m : EM} (q : sM K (sDrop m) D σ H) : tDrop (tM K m) D σ H := by
  obtain ⟨M, ρ, o, S, e, w⟩ := q
  unfold sDrop at e
  cases e1 : m ρ with
  | none => rw [e1] at e; cases e
  | some p =>
    obtain ⟨r, ρ1⟩ := p
    rw [e1] at e
    cases e
    refine ⟨M, ρ, r, ρ1, S, e1, fun v H1 x1 x2 R => ?_⟩
    obtain ⟨_, _, S1, _⟩ := R.fz
    exact w σ H1 (Aft.of x1 x2) S1
theorem sM_break (q : sM K sBreak D σ H) : tBreak D σ H := by
  obtain ⟨M, ρ, o, S, e, w⟩ := q
  cases e
  exact w σ H Aft.refl S
theorem sM_cont (q : sM K sCont D σ H) : tCont D σ H := by
  obtain ⟨M, ρ, o, S, e, w⟩ := q
  cases e
  exact w σ H Aft.refl S
end
section
variable {X : Cx} {st : Stmt} {rest sa sb : List Stmt} {e c : Expr} {m : EM} {a b : SM} {t : BM} {pos : Pos}
theorem ss_nil : XSs X [] sNil := pss_imp pss_nil fun _ _ _ q => sM_nil q
theorem ss_cons (h1 : XS X st a) (h2 : XSs X rest b) : XSs X (st :: rest) (sSeq a b) := pss_imp (pss_cons h1 h2) fun _ _ _ q => sM_seq q
theorem ss_one (h1 : XS X st a) : XSs X [st] a := pss_one h1
theorem s_set {i : Nat} {x : Str} {pos' : Pos} (hN : X.N.Nodup) (hi : X.N[i]? = some x) (hx : Loc X.env.scope x) (he : XE X e m) (hs : swapsWith e (some (.Name x pos')) pos.line X.env = pure false := by rfl) (hf : X.fn x = true ∨ X.env.scope.names.lookup x = some .local := by first | exact .inl rfl | exact .inr rfl | assumption) :
    XS X (.Assign [.Name x pos'] e pos) (sSet i m) := ps_imp (ps_set hN hi hx he hs hf) fun _ _ _ q => sM_set q
theorem s_if (hc : XT X c t) (ha : XSs X sa a) (hb : XSs X sb b) : XS X (.If c sa sb pos) (sIf t a b) := ps_imp (ps_if hc ha hb) fun _ _ _ q => sM_if q
theorem s_ret (he : XE X e m) : XS X (.Return (some e) pos) (sRet m) := ps_imp (ps_ret he) fun _ _ _ q => sM_ret q
theorem s_retN : XS X (.Return none pos) sRetN := ps_imp ps_retN fun _ _ _ q => sM_retN q
theorem s_expr (he : XE X e m) (hs : swapsWith e none pos.line X.env = pure false := by rfl) : XS X (.Expr e pos) (sDrop m) := ps_imp (ps_expr he hs) fun _ _ _ q => sM_drop q
theorem s_pass : XS X (.Pass pos) sNil := ps_imp ps_pass fun _ _ _ q => sM_nil q
theorem s_break : XS X (.Break pos) sBreak := ps_imp ps_break fun _ _ _ q => sM_break q
theorem s_continue : XS X (.Continue pos) sCont := ps_imp ps_continue fun _ _ _ q => sM_cont q
theorem s_never : XS X st sNever := ps_imp ps_never fun _ _ _ q => by obtain ⟨_, _, _, _, e, _⟩ := q; cases e
end
end Vw

set_option Elab.async false
set_option linter.all false
set_option maxRecDepth 100000
/-! targets, loops, comprehensions -/
namespace Vw
open PySem L2 PyProof.Rows

/-! ### targets -/
abbrev GM := PyData → Rho → Option Rho
/-- the slots ts alone are stored -/
def Only' (ts : List Nat) (σ σ' : L2.St) : Prop := σ'.length = σ.length ∧ ∀ j : Nat, j ∉ ts → σ'[j]? = σ[j]?
theorem Only'.trans {a b : List Nat} {σ σ1 σ2 : L2.St} (h : Only' a σ σ1) (k : Only' b σ1 σ2) : Only' (a ++ b) σ σ2 := ⟨k.1.trans h.1, fun j n => (k.2 j fun z => n (List.mem_append_right _ z)).trans (h.2 j fun z => n (List.mem_append_left _ z))⟩
def gM (K : PySem.W.Frag) (ts : List Nat) (g : GM) : TG := fun v σ H Q => ∃ M ρ d ρ', Sr K M ρ σ H ∧ Rep K (fun b => M b ∨ OO ρ σ b) H v d ∧ g d ρ = some ρ' ∧ ∀ σ', Only' ts σ σ' → Aft K M ρ σ H ρ' σ' H → Sr K M ρ' σ' H → Q σ' H
def gsM (K : PySem.W.Frag) (ts : List Nat) (g : List PyData → Rho → Option Rho) : TGs := fun v σ H Q => ∃ M ρ d ρ', Sr K M ρ σ H ∧ RepAll K (fun b => M b ∨ OO ρ σ b) H v d ∧ g d ρ = some ρ' ∧ ∀ σ', Only' ts σ σ' → Aft K M ρ σ H ρ' σ' H → Sr K M ρ' σ' H → Q σ' H
def gN (i : Nat) : GM := fun d ρ => put i (.fz d) ρ
def gsNil : List PyData → Rho → Option Rho := fun ds ρ => match ds with | [] => some ρ | _ => none
def gsCons (g : GM) (gs : List PyData → Rho → Option Rho) : List PyData → Rho → Option Rho := fun ds ρ => match ds with
  | d :: ds => (g d ρ).bind (gs ds)
  | [] => none
def gT (gs : List PyData → Rho → Option Rho) : GM := fun d ρ => match d with
  | .tuple ds => gs ds ρ
  | _ => none
abbrev XG (X : Cx) (tg : Expr) (ts : List Nat) (g : GM) : Prop := PG X tg (gM X.K ts g)
abbrev XGs (X : Cx) (tg : List Expr) (ts : List Nat) (g : List PyData → Rho → Option Rho) : Prop := PGs X tg (gsM X.K ts g)
theorem pg_imp {X : Cx} {e : Expr} {t t' : TG} (h : PG X e t) (i : ∀ v σ H Q, t' v σ H Q → t v σ H Q) : PG X e t' := ⟨fun pins s σ H v u Q I r q => h.run pins s σ H v u Q I r (i v σ H Q q)⟩
theorem pgs_imp {X : Cx} {e : List Expr} {t t' : TGs} (h : PGs X e t) (i : ∀ v σ H Q, t' v σ H Q → t v σ H Q) : PGs X e t' := ⟨fun pins s σ H v u Q I r q => h.run pins s σ H v u Q I r (i v σ H Q q)⟩
theorem RepAll.ext {K : PySem.W.Frag} {M O O' : Addr → Prop} {H H' : Hp} (e : Ext O H O' H') {v : List V} {d : List PyData} (r : RepAll K (fun b => M b ∨ O b) H v d) : RepAll K (fun b => M b ∨ O' b) H' v d := r.move e.mv
section
variable {K : PySem.W.Frag} {σ : L2.St} {H : Hp} {v : V} {vs : List V} {Q : L2.St → Hp → Prop}
theorem gM_name {i : Nat} (q : gM K [i] (gN i) v σ H Q) : gName i v σ H Q := by
  obtain ⟨M, ρ, d, ρ', S, r, e, k⟩ := q
  obtain ⟨S2, io, hO, st⟩ := put_aft (O := OO ρ σ) (H0 := H) e (show Res K M _ H ρ σ v H (.fz d) from ⟨S, r⟩) fun _ h => h
  obtain ⟨_, rfl⟩ := put_some e
  refine k _ ⟨by simp, fun j hj => by rw [List.getElem?_set_ne]; rintro rfl; exact hj (by simp)⟩ ⟨⟨fun _ _ e _ => e, fun b z => ?_, fun _ h => h⟩, io, st⟩ S2
  rcases hO b z with z | z | z
  · exact .inl z
  · exact .inl z
  · exact .inr z
theorem gsM_nil (q : gsM K [] gsNil vs σ H Q) : gNil vs σ H Q := by
  obtain ⟨M, ρ, d, ρ', S, r, e, k⟩ := q
  cases r with
  | nil => cases e; exact ⟨rfl, k σ ⟨rfl, fun _ _ => rfl⟩ Aft.refl S⟩
  | cons _ _ => cases e
theorem gsM_cons {t1 t2 : List Nat} {g : GM} {gs : List PyData → Rho → Option Rho} (q : gsM K (t1 ++ t2) (gsCons g gs) vs σ H Q) : gCons (gM K t1 g) (gsM K t2 gs) vs σ H Q := by
  obtain ⟨M, ρ, d, ρ', S, r, e, k⟩ := q
  cases r with
  | nil => cases e
  | @cons v vs d ds r t =>
    unfold gsCons at e
    simp only at e
    cases e1 : g d ρ with
    | none => rw [e1] at e; cases e
    | some ρ1 =>
      rw [e1] at e
      exact ⟨v, vs, rfl, M, ρ, d, ρ1, S, r, e1, fun σ1 o1 a1 S1 => ⟨M, ρ1, ds, ρ', S1, t.ext a1.ext, e, fun σ2 o2 a2 S2 => k σ2 (o1.trans o2) (a1.trans a2) S2⟩⟩
theorem gM_tup {ts : List Nat} {gs : List PyData → Rho → Option Rho} {n : Nat} (hn : ∀ ds ρ ρ', gs ds ρ = some ρ' → ds.length = n) (q : gM K ts (gT gs) v σ H Q) : gTup K n (gsM K ts gs) v σ H Q := by
  obtain ⟨M, ρ, d, ρ', S, r, e, k⟩ := q
  unfold gT at e
  split at e
  · obtain ⟨p, xs, rfl, h, t⟩ := RepT.tup (.inl r)
    exact ⟨p, xs, rfl, h, t.length.trans (hn _ _ _ e), M, ρ, _, ρ', S, t, e, k⟩
  · cases e
end
section
variable {X : Cx} {e : Expr} {es : List Expr} {g : GM} {gs : List PyData → Rho → Option Rho} {pos : Pos}
theorem g_name {i : Nat} {x : Str} (hN : X.N.Nodup) (hi : X.N[i]? = some x) (hx : Loc X.env.scope x) (hf : X.fn x = true ∨ X.env.scope.names.lookup x = some .local := by first | exact .inl rfl | exact .inr rfl | assumption) : XG X (.Name x pos) [i] (gN i) := pg_imp (pg_name hN hi hx hf) fun _ _ _ _ q => gM_name q
theorem gs_nil : XGs X [] [] gsNil := pgs_imp pgs_nil fun _ _ _ _ q => gsM_nil q
theorem gs_cons {t1 t2 : List Nat} (h1 : XG X e t1 g) (h2 : XGs X es t2 gs) (hs : (assignEach (e :: es) X.env).map (·.2) = assign e X.env :: (assignEach es X.env).map (·.2) := by rfl) : XGs X (e :: es) (t1 ++ t2) (gsCons g gs) := pgs_imp (pgs_cons h1 h2 hs) fun _ _ _ _ q => gsM_cons q
theorem gsNil_len : ∀ ds ρ ρ', gsNil ds ρ = some ρ' → ds.length = 0 := fun ds ρ ρ' e => by
  unfold gsNil at e
  split at e
  · rfl
  · cases e
theorem gsCons_len {n : Nat} (h : ∀ ds ρ ρ', gs ds ρ = some ρ' → ds.length = n) : ∀ ds ρ ρ', gsCons g gs ds ρ = some ρ' → ds.length = n + 1 := fun ds ρ ρ' e => by
  unfold gsCons at e
  split at e
  · rename_i d ds
    cases e1 : g d ρ with
    | none => rw [e1] at e; cases e
    | some ρ1 =>
      rw [e1] at e
      simp [h ds ρ1 ρ' e]
  · cases e
theorem g_tup {ts : List Nat} {k : Nat} {n : Nat} (hc : X.calm = true) (h : XGs X es ts gs) (hl : ∀ ds ρ ρ', gs ds ρ = some ρ' → ds.length = n) (hn : (assignEach es X.env).length = n := by rfl) (hst : (assignEach es X.env).findIdx? (·.1) = none := by rfl) : XG X (.Tuple es k pos) ts (gT gs) :=
  pg_imp (pg_tup hc h hn hst) fun _ _ _ _ q => gM_tup hl q
end

/-! ### what is walked -/
abbrev IM := Rho → Option (List PyData × Rho)
/-- what stands apart from what may change stays -/
def Mv (M O : Addr → Prop) (H : Hp) (O' : Addr → Prop) (H' : Hp) : Prop := ∀ b o, H b = some o → ¬ (M b ∨ O b) → H' b = some o ∧ ¬ (M b ∨ O' b)
/-- turn by turn these data, whatever else is done meanwhile -/
def Yld (K : PySem.W.Frag) (M O : Addr → Prop) (H : Hp) (J : It) (ds : List PyData) : Prop :=
  ∀ (O' : Addr → Prop) (H' : Hp), Mv M O H O' H' → Live (fun b => M b ∨ O' b) H' → ∀ i : Nat, (i < ds.length → J.go i H' ∧ ∀ x H'', J.yld i H' x H'' → Same H' H'' ∧ ∃ d, ds[i]? = some d ∧ Rep K (fun b => M b ∨ O' b) H'' x d) ∧ (ds.length ≤ i → J.stop i H')
def jM (K : PySem.W.Frag) (src : IM) : TI := fun σ H R => ∃ M ρ ds ρ', Sr K M ρ σ H ∧ src ρ = some (ds, ρ') ∧
  ∀ J H', Ext (OO ρ σ) H (OO ρ' σ) H' → IoK ρ ρ' → Sr K M ρ' σ H' → Yld K M (OO ρ' σ) H' J ds → R J H'
abbrev XI (X : Cx) (tg iter : Expr) (src : IM) : Prop := PI X tg iter (jM X.K src)
theorem pi_imp {X : Cx} {tg e : Expr} {t t' : TI} (h : PI X tg e t) (i : ∀ σ H Q, t' σ H Q → t σ H Q) : PI X tg e t' := ⟨fun pins s σ H Q I q => h.run pins s σ H Q I (i σ H Q q)⟩
/-! ### for -/
def forM (g : GM) (b : SM) : List PyData → SM
  | [], ρ => some (.nx ρ)
  | d :: ds, ρ => (g d ρ).bind fun ρ1 => (b ρ1).bind fun o => match o with
    | .nx ρ2 => forM g b ds ρ2
    | .ct ρ2 => forM g b ds ρ2
    | .bk ρ2 => some (.nx ρ2)
    | .rt r ρ2 => some (.rt r ρ2)
def sFor (src : IM) (g : GM) (b : SM) : SM := fun ρ => (src ρ).bind fun p => forM g b p.1 p.2
theorem sM_for {K : PySem.W.Frag} {ts : List Nat} {src : IM} {g : GM} {b : SM} {D : Ends} {σ : L2.St} {H : Hp} (q : sM K (sFor src g b) D σ H) : tFor (jM K src) (gM K ts g) (sM K b) D σ H := by
  obtain ⟨M, ρ, o, S, e, w⟩ := q
  unfold sFor at e
  cases e1 : src ρ with
  | none => rw [e1] at e; cases e
  | some p =>
    obtain ⟨ds, ρ1⟩ := p
    rw [e1] at e
    simp only [Option.bind_some] at e
    refine ⟨M, ρ, ds, ρ1, S, e1, fun J H1 x1 x2 S1 Y => ?_⟩
    have A1 : Aft K M ρ σ H ρ1 σ H1 := Aft.of x1 x2
    refine ⟨fun i m σ' H' => ∃ ρ', Sr K M ρ' σ' H' ∧ Aft K M ρ1 σ H1 ρ' σ' H' ∧ forM g b (ds.drop i) ρ' = some o ∧ m = ds.length - i ∧ i ≤ ds.length, ⟨_, ρ1, S1, Aft.refl, by simpa using e, rfl, Nat.zero_le _⟩, fun i m σ' H' ⟨ρ', S', A', ef, hm, hi⟩ => ?_⟩
    by_cases hlt : i < ds.length
    · refine .inr ⟨((Y _ H' A'.ext.mv S'.liveA i).1 hlt).1, fun σ2 H2 => ∃ ρ', Sr K M ρ' σ2 H2 ∧ Aft K M ρ1 σ H1 ρ' σ2 H2 ∧ forM g b (ds.drop (i + 1)) ρ' = some o, fun σ2 H2 ⟨ρ2, h1, h2, h3⟩ => ⟨ds.length - (i + 1), by omega, ρ2, h1, h2, h3, rfl, hlt⟩, fun x H2 y => ?_⟩
      obtain ⟨sm, d, ed, rd⟩ := ((Y _ H' A'.ext.mv S'.liveA i).1 hlt).2 x H2 y
      have edrop : ds.drop i = d :: ds.drop (i + 1) := by
        rw [List.drop_eq_getElem_cons hlt]
        rw [List.getElem?_eq_getElem hlt] at ed
        cases ed
        rfl
      rw [edrop] at ef
      simp only [forM] at ef
      cases e2 : g d ρ' with
      | none => rw [e2] at ef; cases ef
      | some ρ2 =>
        rw [e2] at ef
        simp only [Option.bind_some] at ef
        have A2 : Aft K M ρ' σ' H' ρ' σ' H2 := Aft.of (Ext.same sm) (IoK.refl _)
        refine ⟨M, ρ', d, ρ2, S'.same sm, rd, e2, fun σ3 _ A3 S3 => ?_⟩
        have A13 := (A'.trans A2).trans A3
        cases e3 : b ρ2 with
        | none => rw [e3] at ef; cases ef
        | some ob =>
          rw [e3] at ef
          simp only [Option.bind_some] at ef
          refine ⟨M, ρ2, ob, S3, e3, ?_⟩
          cases ob with
          | nx ρ4 => exact fun σ4 H4 A4 S4 => ⟨ρ4, S4, A13.trans A4, ef⟩
          | ct ρ4 => exact fun σ4 H4 A4 S4 => ⟨ρ4, S4, A13.trans A4, ef⟩
          | bk ρ4 =>
            cases ef
            exact fun σ4 H4 A4 S4 => w σ4 H4 ((A1.trans A13).trans A4) S4
          | rt r ρ4 =>
            cases ef
            exact fun v σ4 H4 A4 R => w v σ4 H4 ((A1.trans A13).trans A4) (R.after (A1.trans A13).ext)
    · have hi' : i = ds.length := by omega
      subst hi'
      rw [List.drop_length] at ef
      cases ef
      exact .inl ⟨(Y _ H' A'.ext.mv S'.liveA _).2 (Nat.le_refl _), w σ' H' (A1.trans A') S'⟩
section
variable {X : Cx} {tg iter : Expr} {body : List Stmt} {src : IM} {g : GM} {b : SM} {pos : Pos}
theorem s_for {ts : List Nat} (hp : PassesOwn (model X.prog X.w) X.A X.env X.xe) (hc : X.calm = true) (hi : XI X tg iter src) (hg : XG X tg ts g) (hb : XSs X body b) (hs : ∀ x, foldedSetIterable iter X.env x = pure x := by intro _; rfl) : XS X (.For tg iter body [] pos) (sFor src g b) :=
  ps_imp (ps_for hp hc hi hg hb hs) fun _ _ _ q => sM_for q
end

/-! ### while -/
def wIter (t : BM) (b : SM) : Nat → SM
  | 0, _ => none
  | n + 1, ρ => (t ρ).bind fun p => if p.1 = true then (b p.2).bind fun o => match o with
      | .nx ρ2 => wIter t b n ρ2
      | .ct ρ2 => wIter t b n ρ2
      | .bk ρ2 => some (.nx ρ2)
      | .rt r ρ2 => some (.rt r ρ2)
    else some (.nx p.2)
theorem wIter_more (t : BM) (b : SM) : ∀ (n : Nat) (ρ : Rho) (o : Out), wIter t b n ρ = some o → wIter t b (n + 1) ρ = some o
  | 0, ρ, o, e => by cases e
  | n + 1, ρ, o, e => by
    rw [wIter] at e ⊢
    cases e1 : t ρ with
    | none => rw [e1] at e; cases e
    | some p =>
      rw [e1] at e
      simp only [Option.bind_some] at e ⊢
      split
      · rename_i hp
        rw [if_pos hp] at e
        cases e2 : b p.2 with
        | none => rw [e2] at e; cases e
        | some ob =>
          rw [e2] at e
          simp only [Option.bind_some] at e ⊢
          cases ob with
          | nx ρ2 => exact wIter_more t b n ρ2 o e
          | ct ρ2 => exact wIter_more t b n ρ2 o e
          | bk ρ2 => exact e
          | rt r ρ2 => exact e
      · rename_i hp
        rw [if_neg hp] at e
        exact e
theorem wIter_le {t : BM} {b : SM} {n m : Nat} {ρ : Rho} {o : Out} (h : n ≤ m) (e : wIter t b n ρ = some o) : wIter t b m ρ = some o := by
  induction h with
  | refl => exact e
  | step _ ih => exact wIter_more t b _ ρ o ih
open Classical in
noncomputable def sWhile (t : BM) (b : SM) : SM := fun ρ => if h : ∃ o n, wIter t b n ρ = some o then some (choose h) else none
theorem sWhile_iff {t : BM} {b : SM} {ρ : Rho} {o : Out} : sWhile t b ρ = some o ↔ ∃ n, wIter t b n ρ = some o := by
  unfold sWhile
  constructor
  · intro e
    split at e
    · rename_i h
      cases e
      exact Classical.choose_spec h
    · cases e
  · rintro ⟨n, e⟩
    have h : ∃ o n, wIter t b n ρ = some o := ⟨o, n, e⟩
    rw [dif_pos h]
    obtain ⟨m, e'⟩ := Classical.choose_spec h
    have h1 := wIter_le (Nat.le_max_left n m) e
    have h2 := wIter_le (Nat.le_max_right n m) e'
    rw [h1] at h2
    exact h2.symm
/-- one turn -/
theorem sWhile_eq (t : BM) (b : SM) (ρ : Rho) : sWhile t b ρ = (t ρ).bind fun p => if p.1 = true then (b p.2).bind fun o => match o with
      | .nx ρ2 => sWhile t b ρ2
      | .ct ρ2 => sWhile t b ρ2
      | .bk ρ2 => some (.nx ρ2)
      | .rt r ρ2 => some (.rt r ρ2)
    else some (.nx p.2) := by
  have key : ∀ o, sWhile t b ρ = some o ↔ ((t ρ).bind fun p => if p.1 = true then (b p.2).bind fun o => match o with
      | .nx ρ2 => sWhile t b ρ2
      | .ct ρ2 => sWhile t b ρ2
      | .bk ρ2 => some (.nx ρ2)
      | .rt r ρ2 => some (.rt r ρ2)
    else some (.nx p.2)) = some o := fun o => by
    rw [sWhile_iff]
    constructor
    · rintro ⟨n, e⟩
      cases n with
      | zero => cases e
      | succ n =>
        rw [wIter] at e
        cases e1 : t ρ with
        | none => rw [e1] at e; cases e
        | some p =>
          rw [e1] at e
          simp only [Option.bind_some] at e ⊢
          split
          · rename_i hp
            rw [if_pos hp] at e
            cases e2 : b p.2 with
            | none => rw [e2] at e; cases e
            | some ob =>
              rw [e2] at e
              simp only [Option.bind_some] at e ⊢
              cases ob with
              | nx ρ2 => exact sWhile_iff.mpr ⟨n, e⟩
              | ct ρ2 => exact sWhile_iff.mpr ⟨n, e⟩
              | bk ρ2 => exact e
              | rt r ρ2 => exact e
          · rename_i hp
            rw [if_neg hp] at e
            exact e
    · intro e
      cases e1 : t ρ with
      | none => rw [e1] at e; cases e
      | some p =>
        rw [e1] at e
        simp only [Option.bind_some] at e
        by_cases hp : p.1 = true
        · rw [if_pos hp] at e
          cases e2 : b p.2 with
          | none => rw [e2] at e; cases e
          | some ob =>
            rw [e2] at e
            simp only [Option.bind_some] at e
            cases ob with
            | nx ρ2 =>
              obtain ⟨n, e3⟩ := sWhile_iff.mp e
              exact ⟨n + 1, by rw [wIter, e1]; simp only [Option.bind_some]; rw [if_pos hp, e2]; exact e3⟩
            | ct ρ2 =>
              obtain ⟨n, e3⟩ := sWhile_iff.mp e
              exact ⟨n + 1, by rw [wIter, e1]; simp only [Option.bind_some]; rw [if_pos hp, e2]; exact e3⟩
            | bk ρ2 => exact ⟨1, by rw [wIter, e1]; simp only [Option.bind_some]; rw [if_pos hp, e2]; exact e⟩
            | rt r ρ2 => exact ⟨1, by rw [wIter, e1]; simp only [Option.bind_some]; rw [if_pos hp, e2]; exact e⟩
        · rw [if_neg hp] at e
          exact ⟨1, by rw [wIter, e1]; simp only [Option.bind_some]; rw [if_neg hp]; exact e⟩
  cases h : sWhile t b ρ with
  | some o => exact ((key o).mp h).symm
  | none =>
    generalize hr : (Option.bind _ _) = r at key ⊢
    cases r with
    | none => rfl
    | some o => rw [(key o).mpr rfl] at h; cases h
theorem sM_while {K : PySem.W.Frag} {t : BM} {b : SM} {D : Ends} {σ : L2.St} {H : Hp} (q : sM K (sWhile t b) D σ H) : tWhile (bM K t) (sM K b) D σ H := by
  obtain ⟨M, ρ, o, S, e, w⟩ := q
  obtain ⟨n, e⟩ := sWhile_iff.mp e
  refine ⟨fun m σ' H' => ∃ ρ', Sr K M ρ' σ' H' ∧ Aft K M ρ σ H ρ' σ' H' ∧ wIter t b m ρ' = some o, ⟨n, ρ, S, Aft.refl, e⟩, fun m σ' H' ⟨ρ', S', A', ef⟩ => ?_⟩
  cases m with
  | zero => cases ef
  | succ m =>
    rw [wIter] at ef
    cases e1 : t ρ' with
    | none => rw [e1] at ef; cases ef
    | some p =>
      obtain ⟨c, ρ1⟩ := p
      rw [e1] at ef
      simp only [Option.bind_some] at ef
      refine ⟨M, ρ', c, ρ1, S', e1, fun H1 x1 x2 S1 => ?_⟩
      have A1 : Aft K M ρ σ H ρ1 σ' H1 := A'.trans (Aft.of x1 x2)
      cases c with
      | false =>
        simp only [Bool.false_eq_true, if_false] at ef
        cases ef
        exact iteF (w σ' H1 A1 S1)
      | true =>
        simp only [if_true] at ef
        refine iteT ⟨fun σ2 H2 => ∃ ρ', Sr K M ρ' σ2 H2 ∧ Aft K M ρ σ H ρ' σ2 H2 ∧ wIter t b m ρ' = some o, fun σ2 H2 h => ⟨m, Nat.lt_succ_self m, h⟩, ?_⟩
        cases e3 : b ρ1 with
        | none => rw [e3] at ef; cases ef
        | some ob =>
          rw [e3] at ef
          simp only [Option.bind_some] at ef
          refine ⟨M, ρ1, ob, S1, e3, ?_⟩
          cases ob with
          | nx ρ4 => exact fun σ4 H4 A4 S4 => ⟨ρ4, S4, A1.trans A4, ef⟩
          | ct ρ4 => exact fun σ4 H4 A4 S4 => ⟨ρ4, S4, A1.trans A4, ef⟩
          | bk ρ4 =>
            cases ef
            exact fun σ4 H4 A4 S4 => w σ4 H4 (A1.trans A4) S4
          | rt r ρ4 =>
            cases ef
            exact fun v σ4 H4 A4 R => w v σ4 H4 (A1.trans A4) (R.after A1.ext)
theorem s_while {X : Cx} {c : Expr} {body : List Stmt} {t : BM} {b : SM} {pos : Pos} (hp : PassesOwn (model X.prog X.w) X.A X.env X.xe) (hc : XT X c t) (hb : XSs X body b) : XS X (.While c body [] pos) (sWhile t b) :=
  ps_imp (ps_while hp hc hb) fun _ _ _ q => sM_while q
end Vw

set_option Elab.async false
set_option linter.all false
set_option maxRecDepth 100000
/-! what is walked; comprehensions -/
namespace Vw
open PySem L2 PyProof.Rows

/-! ### lists, tuples -/
def jVal (m : EM) : IM := fun ρ => (m ρ).bind fun p => match p.1.dat with
  | some (.list ds) => some (ds, p.2)
  | some (.tuple ds) => some (ds, p.2)
  | _ => none
theorem pi_seq {X : Cx} {tg l : Expr} {tl : TE} (hl : PE X l tl) : PI X tg l (fun σ H R => tl σ H fun x H1 => ∃ a, x = .ref a ∧ ((∃ xs, SqL X.K H1 a xs) ∧ R (Itl X.K a) H1 ∨ (∃ xs, SqT X.K H1 a xs) ∧ R (Itt X.K a) H1)) := by
  refine ⟨fun pins s σ H R I h => ?_⟩
  refine thn (hl.run pins s σ H _ I h) fun v s1 ⟨x, H1, I1, r1, q1⟩ => ?_
  obtain ⟨a, e, q1⟩ := q1
  subst e
  cases r1
  rcases q1 with ⟨⟨xs, hq⟩, q⟩ | ⟨⟨xs, hq⟩, q⟩
  · obtain ⟨its, rv, p, hz⟩ := I1.list hq
    refine wpAny_pyIter_list p.isList ?_
    refine ⟨s1.heap.objs.size, [s1.heap.objs.size], _, _, H1, rfl, I1.kept (t' := s1.toks) fun b o e => Heap.get?_push_of_some _ e, turn_list a _, ⟨_, Heap.get?_push_size _ rfl, rfl, rfl⟩, fun b hb => ?_, q⟩
    have e : b = s1.heap.objs.size := by simpa using hb
    subst e
    exact I1.fpOk (Nat.le_refl _) (I1.hok.fresh (Nat.le_refl _))
  · obtain ⟨its, rv, p, hz⟩ := I1.tuple hq
    refine wpAny_pyIter_tuple (show s1.heap.IsTuple a its.toArray from p) ?_
    refine ⟨s1.heap.objs.size, [s1.heap.objs.size], _, _, H1, rfl, I1.kept (t' := s1.toks) fun b o e => Heap.get?_push_of_some _ e, turn_tuple a _, ⟨_, Heap.get?_push_size _ rfl, rfl, rfl⟩, fun b hb => ?_, q⟩
    have e : b = s1.heap.objs.size := by simpa using hb
    subst e
    exact I1.fpOk (Nat.le_refl _) (I1.hok.fresh (Nat.le_refl _))
section
variable {K : PySem.W.Frag} {M O : Addr → Prop} {H : Hp}
theorem rep_list {v : V} {ds : List PyData} (r : Rep K (fun b => M b ∨ O b) H v (.list ds)) : ∃ a xs, v = .ref a ∧ SqL K H a xs ∧ (∀ (O' : Addr → Prop) (H' : Hp), Mv M O H O' H' → SqL K H' a xs ∧ RepAll K (fun b => M b ∨ O' b) H' xs ds) := by
  cases r with
  | lst na h t => exact ⟨_, _, rfl, SqL.of h, fun O' H' e => ⟨SqL.of (e _ _ h na).1, t.move e⟩⟩
theorem rep_tuple {v : V} {ds : List PyData} (r : Rep K (fun b => M b ∨ O b) H v (.tuple ds)) : ∃ a xs, v = .ref a ∧ SqT K H a xs ∧ (∀ (O' : Addr → Prop) (H' : Hp), Mv M O H O' H' → SqT K H' a xs ∧ RepAll K (fun b => M b ∨ O' b) H' xs ds) := by
  cases r with
  | tup na h t =>
    refine ⟨_, _, rfl, .inl h, fun O' H' e => ⟨.inl ?_, t.move e⟩⟩
    rcases h with h | ⟨o, h⟩
    · exact .inl (e _ _ h na).1
    · exact .inr ⟨o, (e _ _ h na).1⟩
  | tupK h t => exact ⟨_, _, rfl, .inr h, fun O' H' e => ⟨.inr h, t.move e⟩⟩
theorem yld_list {a : Addr} {xs : List V} {ds : List PyData} (h : ∀ (O' : Addr → Prop) (H' : Hp), Mv M O H O' H' → SqL K H' a xs ∧ RepAll K (fun b => M b ∨ O' b) H' xs ds) : Yld K M O H (Itl K a) ds := fun O' H' e _ i => by
  obtain ⟨h1, h2⟩ := h O' H' e
  have hl := h2.length
  refine ⟨fun hi => ⟨⟨xs, xs[i]'(by omega), h1, List.getElem?_eq_getElem _⟩, fun x H'' y => ?_⟩, fun hi => ⟨xs, h1, by omega⟩⟩
  obtain ⟨rfl, y⟩ := y
  obtain ⟨v, hv, r⟩ := h2.get (List.getElem?_eq_getElem hi)
  have := y xs h1
  rw [hv] at this
  cases this
  exact ⟨Same.refl _, _, List.getElem?_eq_getElem hi, r⟩
theorem yld_tuple {a : Addr} {xs : List V} {ds : List PyData} (h : ∀ (O' : Addr → Prop) (H' : Hp), Mv M O H O' H' → SqT K H' a xs ∧ RepAll K (fun b => M b ∨ O' b) H' xs ds) : Yld K M O H (Itt K a) ds := fun O' H' e _ i => by
  obtain ⟨h1, h2⟩ := h O' H' e
  have hl := h2.length
  refine ⟨fun hi => ⟨⟨xs, xs[i]'(by omega), h1, List.getElem?_eq_getElem _⟩, fun x H'' y => ?_⟩, fun hi => ⟨xs, h1, by omega⟩⟩
  obtain ⟨rfl, y⟩ := y
  obtain ⟨v, hv, r⟩ := h2.get (List.getElem?_eq_getElem hi)
  have := y xs h1
  rw [hv] at this
  cases this
  exact ⟨Same.refl _, _, List.getElem?_eq_getElem hi, r⟩
end
theorem i_val {X : Cx} {tg l : Expr} {m : EM} (h : XE X l m) : XI X tg l (jVal m) := pi_imp (pi_seq h) fun σ H R q => by
  obtain ⟨M, ρ, ds, ρ', S, e, k⟩ := q
  unfold jVal at e
  refine tM_bind (R := fun _ _ _ => True) S e fun r ρ1 v H1 _ e1 x1 x2 R => ?_
  obtain ⟨d, hd, S1, rp⟩ := R.fz
  simp only [hd] at e1
  split at e1
  · rename_i ds' hds
    cases e1
    cases hds
    obtain ⟨a, xs, rfl, h1, h2⟩ := rep_list rp
    exact ⟨a, rfl, .inl ⟨⟨xs, h1⟩, k _ _ x1 x2 S1 (yld_list h2)⟩⟩
  · rename_i ds' hds
    cases e1
    cases hds
    obtain ⟨a, xs, rfl, h1, h2⟩ := rep_tuple rp
    exact ⟨a, rfl, .inr ⟨⟨xs, h1⟩, k _ _ x1 x2 S1 (yld_tuple h2)⟩⟩
  · cases e1

/-! ### from operands -/
def jArgs (f : List PyData → Option (List PyData)) (os : List Opd) : IM := fun ρ => (pres os ρ).bind fun p => (fins os p.1 p.2).bind fun ds => (f ds).map fun es => (es, p.2)
theorem jM_args {K : PySem.W.Frag} {f : List PyData → Option (List PyData)} {os : List Opd} {σ : L2.St} {H : Hp} {R : It → Hp → Prop} {r : List V → Hp → Prop} (q : jM K (jArgs f os) σ H R)
    (h : ∀ M ρ' vs H' ds es, Sr K M ρ' σ H' → RepTs K (fun b => M b ∨ OO ρ' σ b) H' vs ds → (os.all Opd.isVal = true → RepAll K (fun b => M b ∨ OO ρ' σ b) H' vs ds) → f ds = some es → (∀ J, Yld K M (OO ρ' σ) H' J es → R J H') → r vs H') : pM K os σ H r := by
  obtain ⟨M, ρ, ds, ρ', S, e, k⟩ := q
  unfold jArgs at e
  cases e1 : pres os ρ with
  | none => rw [e1] at e; cases e
  | some p =>
    obtain ⟨xs, ρ1⟩ := p
    rw [e1] at e
    simp only [Option.bind_some] at e
    cases e2 : fins os xs ρ1 with
    | none => rw [e2] at e; cases e
    | some es =>
      rw [e2] at e
      simp only [Option.bind_some] at e
      cases e3 : f es with
      | none => rw [e3] at e; cases e
      | some s' =>
        rw [e3] at e
        cases e
        exact ⟨M, ρ, xs, _, S, e1, fun vs H1 x1 x2 S1 p1 => h M _ vs H1 es _ S1 (fins_rep S1 p1 e2) (fun hv => fins_vals hv p1 e2) e3 fun J Y => k J H1 x1 x2 S1 Y⟩
/-- lo, lo + 1, .. -/
def rangeD (lo : Int) (n : Nat) : List PyData := (List.range n).map fun i => .int (lo + (i : Nat))
theorem rangeD_length (lo : Int) (n : Nat) : (rangeD lo n).length = n := by simp [rangeD]
theorem rangeD_get {lo : Int} {n i : Nat} (h : i < n) : (rangeD lo n)[i]? = some (.int (lo + (i : Nat))) := by simp [rangeD, h]
def fRng1 : List PyData → Option (List PyData)
  | [.int j] => if -(2 ^ 62) ≤ j ∧ j < 2 ^ 62 then some (rangeD 0 j.toNat) else none
  | _ => none
def fRng2 : List PyData → Option (List PyData)
  | [.int i, .int j] => if -(2 ^ 62) ≤ i ∧ i < 2 ^ 62 ∧ -(2 ^ 62) ≤ j ∧ j < 2 ^ 62 then some (rangeD i (j - i).toNat) else none
  | _ => none
theorem yld_rng {K : PySem.W.Frag} {M O : Addr → Prop} {H : Hp} {lo : Int} {n : Nat} : Yld K M O H (Itr lo n) (rangeD lo n) := fun O' H' e _ i => by
  rw [rangeD_length]
  refine ⟨fun hi => ⟨hi, fun x H'' y => ?_⟩, fun hi => hi⟩
  obtain ⟨rfl, rfl⟩ := y
  exact ⟨Same.refl _, _, rangeD_get hi, .int _⟩
section
variable {X : Cx} {tg a b : Expr} {oa ob : Opd} {os : List Opd} {p pos tpos : Pos}
theorem i_range1 (hg : Gl X "range") (hm : X.mg "range" = none) (ha : XA X [a] os) (hs : starEach [a] X.env = [(false, eval a X.env)] := by rfl) : XI X tg (.Call (.Name "range" p) [a] [] pos) (jArgs fRng1 os) :=
  pi_imp (pi_range1 hg hm ha hs) fun σ H R q => jM_args q fun M ρ' vs H' ds es S r hv0 e k => by
    unfold fRng1 at e
    split at e
    · rename_i j
      split at e
      · rename_i hj
        cases e
        cases r with
        | cons r t =>
          cases t
          exact ⟨j, by rw [r.int], hj.1, hj.2, k _ yld_rng⟩
      · cases e
    · cases e
theorem i_range2 (hg : Gl X "range") (hm : X.mg "range" = none) (ha : XA X [a, b] os) (hs : starEach [a, b] X.env = [(false, eval a X.env), (false, eval b X.env)] := by rfl) (hs2 : starEach [b] X.env = [(false, eval b X.env)] := by rfl) : XI X tg (.Call (.Name "range" p) [a, b] [] pos) (jArgs fRng2 os) :=
  pi_imp (pi_range2 hg hm ha hs hs2) fun σ H R q => jM_args q fun M ρ' vs H' ds es S r hv0 e k => by
    unfold fRng2 at e
    split at e
    · rename_i i j
      split at e
      · rename_i hj
        cases e
        cases r with
        | cons r t =>
          cases t with
          | cons r2 t =>
            cases t
            exact ⟨i, j, by rw [r.int, r2.int], hj, k _ yld_rng⟩
      · cases e
    · cases e
/-- enumerate of a list -/
def enumD (ds : List PyData) : List PyData := ds.zipIdx.map fun p => .tuple [.int (p.2 : Nat), p.1]
def fEnum : List PyData → Option (List PyData)
  | [.list ds] => some (enumD ds)
  | _ => none
theorem enumD_get {ds : List PyData} {i : Nat} (h : i < ds.length) : (enumD ds)[i]? = some (.tuple [.int (i : Nat), ds[i]]) := by simp [enumD, h]
theorem yld_pair {K : PySem.W.Frag} {M O' : Addr → Prop} {H' H'' : Hp} (hl : Live (fun b => M b ∨ O' b) H') {T : Addr} {x y : V} {d e : PyData} (n : H' T = none) (h : H'' = upd H' T (.tup [x, y])) (rx : Rep K (fun b => M b ∨ O' b) H' x d) (ry : Rep K (fun b => M b ∨ O' b) H' y e) :
    Same H' H'' ∧ Rep K (fun b => M b ∨ O' b) H'' (.ref T) (.tuple [d, e]) := by
  subst h
  exact ⟨same_upd n _, new_tup (.cons rx (.cons ry .nil)) hl n⟩
theorem yld_enum {K : PySem.W.Frag} {M O : Addr → Prop} {H : Hp} {a : Addr} {xs : List V} {ds : List PyData} (h : ∀ (O' : Addr → Prop) (H' : Hp), Mv M O H O' H' → SqL K H' a xs ∧ RepAll K (fun b => M b ∨ O' b) H' xs ds) : Yld K M O H (Ite K a) (enumD ds) := fun O' H2 e2 lv i => by
  obtain ⟨g1, g2⟩ := h O' H2 e2
  have hl := g2.length
  have hz : (enumD ds).length = ds.length := by simp [enumD]
  rw [hz]
  refine ⟨fun hi => ⟨⟨xs, xs[i]'(by omega), g1, List.getElem?_eq_getElem _⟩, fun x H3 y => ?_⟩, fun hi => ⟨xs, g1, by omega⟩⟩
  obtain ⟨T, z, rfl, n, hH, y⟩ := y
  obtain ⟨v, hv', rv⟩ := g2.get (List.getElem?_eq_getElem hi)
  have := y xs g1
  rw [hv'] at this
  cases this
  obtain ⟨s1, s2⟩ := yld_pair lv n hH (.int _) rv
  exact ⟨s1, _, enumD_get hi, s2⟩
theorem i_enum {elts : List Expr} {kk : Nat} (hg : Gl X "enumerate") (hm : X.mg "enumerate" = none) (ha : XA X [a] os) (hv : os.all Opd.isVal = true) (hs : starEach [a] X.env = [(false, eval a X.env)] := by rfl) : XI X (.Tuple elts kk tpos) (.Call (.Name "enumerate" p) [a] [] pos) (jArgs fEnum os) :=
  pi_imp (pi_enum hg hm ha hs) fun σ H R q => jM_args q fun M ρ' vs H' ds es S r0 r e k => by
    unfold fEnum at e
    split at e
    · rename_i ds
      cases e
      have rr := r hv
      cases rr with
      | cons r1 t =>
        cases t
        obtain ⟨b, xs, rfl, h1, h2⟩ := rep_list (M := M) (O := OO ρ' σ) r1
        exact ⟨b, xs, rfl, h1, k _ (yld_enum h2)⟩
    · cases e
def zipD (as bs : List PyData) : List PyData := (as.zip bs).map fun p => .tuple [p.1, p.2]
def fZip : List PyData → Option (List PyData)
  | [.list as, .list bs] => some (zipD as bs)
  | [.tuple as, .tuple bs] => some (zipD as bs)
  | _ => none
theorem zipD_get {as bs : List PyData} {i : Nat} (h : i < (as.zip bs).length) : (zipD as bs)[i]? = some (.tuple [as[i]'(by simp at h; omega), bs[i]'(by simp at h; omega)]) := by
  rw [zipD, List.getElem?_map, List.getElem?_eq_getElem h]
  simp
theorem i_zip {elts : List Expr} {kk : Nat} (hg : Gl X "zip") (hm : X.mg "zip" = none) (ha : XA X [a, b] os) (hv : os.all Opd.isVal = true)
    (hs : starEach [a, b] X.env = (false, eval a X.env) :: starEach [b] X.env := by rfl) (hpl : (backTo pos (starEach [b] X.env)).any (·.1) = false := by rfl) : XI X (.Tuple elts kk tpos) (.Call (.Name "zip" p) [a, b] [] pos) (jArgs fZip os) :=
  pi_imp (RZ.pi_zipA hg hm ha hs hpl) fun σ H R q => jM_args q fun M ρ' vs H' ds es S r0 r e k => by
    unfold fZip at e
    split at e
    · rename_i as bs
      cases e
      have rr := r hv
      cases rr with
      | cons r1 t =>
        cases t with
        | cons r2 t =>
          cases t
          obtain ⟨p1, xs, rfl, h1, h2⟩ := rep_list (M := M) (O := OO ρ' σ) r1
          obtain ⟨p2, ys, rfl, h3, h4⟩ := rep_list (M := M) (O := OO ρ' σ) r2
          refine ⟨p1, p2, xs, ys, rfl, .inl ⟨h1, h3, k _ fun O' H2 e2 lv i => ?_⟩⟩
          obtain ⟨g1, g2⟩ := h2 O' H2 e2
          obtain ⟨g3, g4⟩ := h4 O' H2 e2
          have hl := g2.length
          have hl' := g4.length
          have hz : (zipD as bs).length = (as.zip bs).length := by simp [zipD]
          rw [hz]
          refine ⟨fun hi => ?_, fun hi => ⟨xs, ys, g1, g3, by simp only [List.length_zip] at hi; omega⟩⟩
          have hi' := hi
          simp only [List.length_zip] at hi'
          refine ⟨⟨xs, ys, xs[i]'(by omega), ys[i]'(by omega), g1, g3, List.getElem?_eq_getElem _, List.getElem?_eq_getElem _⟩, fun x H3 y => ?_⟩
          obtain ⟨T, z, z', rfl, n, hH, y, y'⟩ := y
          obtain ⟨v, hv', rv⟩ := g2.get (i := i) (List.getElem?_eq_getElem (by omega))
          obtain ⟨v', hv'', rv'⟩ := g4.get (i := i) (List.getElem?_eq_getElem (by omega))
          have a1 := y xs g1
          rw [hv'] at a1
          cases a1
          have a2 := y' ys g3
          rw [hv''] at a2
          cases a2
          obtain ⟨s1, s2⟩ := yld_pair lv n hH rv rv'
          exact ⟨s1, _, zipD_get hi, s2⟩
    · rename_i as bs
      cases e
      have rr := r hv
      cases rr with
      | cons r1 t =>
        cases t with
        | cons r2 t =>
          cases t
          obtain ⟨p1, xs, rfl, h1, h2⟩ := rep_tuple (M := M) (O := OO ρ' σ) r1
          obtain ⟨p2, ys, rfl, h3, h4⟩ := rep_tuple (M := M) (O := OO ρ' σ) r2
          refine ⟨p1, p2, xs, ys, rfl, .inr ⟨h1, h3, k _ fun O' H2 e2 lv i => ?_⟩⟩
          obtain ⟨g1, g2⟩ := h2 O' H2 e2
          obtain ⟨g3, g4⟩ := h4 O' H2 e2
          have hl := g2.length
          have hl' := g4.length
          have hz : (zipD as bs).length = (as.zip bs).length := by simp [zipD]
          rw [hz]
          refine ⟨fun hi => ?_, fun hi => ⟨xs, ys, g1, g3, by simp only [List.length_zip] at hi; omega⟩⟩
          have hi' := hi
          simp only [List.length_zip] at hi'
          refine ⟨⟨xs, ys, xs[i]'(by omega), ys[i]'(by omega), g1, g3, List.getElem?_eq_getElem _, List.getElem?_eq_getElem _⟩, fun x H3 y => ?_⟩
          obtain ⟨T, z, z', rfl, n, hH, y, y'⟩ := y
          obtain ⟨v, hv', rv⟩ := g2.get (i := i) (List.getElem?_eq_getElem (by omega))
          obtain ⟨v', hv'', rv'⟩ := g4.get (i := i) (List.getElem?_eq_getElem (by omega))
          have a1 := y xs g1
          rw [hv'] at a1
          cases a1
          have a2 := y' ys g3
          rw [hv''] at a2
          cases a2
          obtain ⟨s1, s2⟩ := yld_pair lv n hH rv rv'
          exact ⟨s1, _, zipD_get hi, s2⟩
    · cases e
end
end Vw

set_option Elab.async false
set_option linter.all false
set_option maxRecDepth 100000
/-! list comprehensions -/
namespace Vw
open PySem L2 PyProof.Rows

def wipeR (ρ : Rho) : List Nat → Rho
  | [] => ρ
  | v :: vs => (wipeR ρ vs).set v .un
/-- the comprehension's own names as they were ahead of it -/
def backR (ρ ρ' : Rho) : List Nat → Rho
  | [] => ρ'
  | v :: vs => (backR ρ ρ' vs).set v (ρ.getD v .un)
def plainS (ρ : Rho) (own : List Nat) : Bool := own.all fun v => match ρ[v]? with
  | some (.fz _) => true
  | some .un => true
  | _ => false
theorem wipeR_len (ρ : Rho) : ∀ vs, (wipeR ρ vs).length = ρ.length
  | [] => rfl
  | v :: vs => by rw [wipeR, List.length_set, wipeR_len ρ vs]
theorem backR_len (ρ ρ' : Rho) : ∀ vs, (backR ρ ρ' vs).length = ρ'.length
  | [] => rfl
  | v :: vs => by rw [backR, List.length_set, backR_len ρ ρ' vs]
theorem wipeR_out (ρ : Rho) {i : Nat} : ∀ {vs : List Nat}, i ∉ vs → (wipeR ρ vs)[i]? = ρ[i]?
  | [], _ => rfl
  | v :: vs, h => by
    rw [wipeR, List.getElem?_set_ne (fun z => h (by simp [z])), wipeR_out ρ fun z => h (List.mem_cons_of_mem _ z)]
theorem wipeR_in (ρ : Rho) {i : Nat} : ∀ {vs : List Nat}, i ∈ vs → ∀ s, (wipeR ρ vs)[i]? = some s → s = .un
  | v :: vs, h, s, e => by
    rw [wipeR] at e
    by_cases hv : v = i
    · subst hv
      have hlt : v < (wipeR ρ vs).length := by have := (List.getElem?_eq_some_iff.mp e).1; simpa using this
      rw [List.getElem?_set_self hlt] at e
      exact (Option.some.inj e).symm
    · rw [List.getElem?_set_ne hv] at e
      exact wipeR_in ρ ((List.mem_cons.mp h).resolve_left fun z => hv z.symm) s e
theorem backR_out (ρ ρ' : Rho) {i : Nat} : ∀ {vs : List Nat}, i ∉ vs → (backR ρ ρ' vs)[i]? = ρ'[i]?
  | [], _ => rfl
  | v :: vs, h => by
    rw [backR, List.getElem?_set_ne (fun z => h (by simp [z])), backR_out ρ ρ' fun z => h (List.mem_cons_of_mem _ z)]
theorem backR_in (ρ ρ' : Rho) (hl : ρ'.length = ρ.length) {i : Nat} : ∀ {vs : List Nat}, i ∈ vs → i < ρ.length → (backR ρ ρ' vs)[i]? = ρ[i]?
  | v :: vs, h, hi => by
    rw [backR]
    by_cases hv : v = i
    · subst hv
      rw [List.getElem?_set_self (by rw [backR_len, hl]; exact hi), List.getElem?_eq_getElem hi]
      simp [List.getD, List.getElem?_eq_getElem hi]
    · rw [List.getElem?_set_ne hv]
      exact backR_in ρ ρ' hl ((List.mem_cons.mp h).resolve_left fun z => hv z.symm) hi
theorem wipe_out (σ : L2.St) {i : Nat} : ∀ {vs : List Nat}, i ∉ vs → (wipe σ vs)[i]? = σ[i]?
  | [], _ => rfl
  | v :: vs, h => by
    rw [wipe, List.getElem?_set_ne (fun z => h (by simp [z])), wipe_out σ fun z => h (List.mem_cons_of_mem _ z)]
theorem wipe_in (σ : L2.St) {i : Nat} : ∀ {vs : List Nat}, i ∈ vs → (wipe σ vs)[i]? = if i < σ.length then some none else none
  | v :: vs, h => by
    rw [wipe]
    by_cases hv : v = i
    · subst hv
      by_cases hlt : v < σ.length
      · rw [List.getElem?_set_self (by rw [wipe_length]; exact hlt), if_pos hlt]
      · rw [if_neg hlt, List.getElem?_eq_none]; simpa [wipe_length] using hlt
    · rw [List.getElem?_set_ne hv]
      exact wipe_in σ ((List.mem_cons.mp h).resolve_left fun z => hv z.symm)
theorem wipe_eq {σ σ2 : L2.St} {vs ts : List Nat} (h : Only' ts (wipe σ vs) σ2) (hs : ∀ t ∈ ts, t ∈ vs) : wipe σ2 vs = wipe σ vs := by
  have hl : σ2.length = σ.length := by rw [h.1, wipe_length]
  apply List.ext_getElem?
  intro i
  by_cases hi : i ∈ vs
  · rw [wipe_in _ hi, wipe_in _ hi, hl]
  · rw [wipe_out _ hi, wipe_out _ hi, h.2 i fun z => hi (hs i z), wipe_out _ hi]
section
variable {K : PySem.W.Frag} {M : Addr → Prop} {ρ ρ1 ρ' : Rho} {σ σ2 : L2.St} {H H' : Hp} {vs : List Nat}
theorem plainS_get (h : plainS ρ vs = true) {i : Nat} (hi : i ∈ vs) : i < ρ.length ∧ ¬ Ows ρ i := by
  have := List.all_eq_true.mp h i hi
  cases e : ρ[i]? with
  | none => rw [e] at this; cases this
  | some s =>
    refine ⟨(List.getElem?_eq_some_iff.mp e).1, fun ⟨d, z⟩ => ?_⟩
    rw [e] at this
    rcases z with z | z <;> (rw [e] at z; cases z; cases this)
/-- a turn begins: the own names are forgotten -/
theorem Sr.wiped (S : Sr K M ρ σ H) (h : plainS ρ vs = true) : Sr K M (wipeR ρ vs) (wipe σ vs) H ∧ ∀ b, OO (wipeR ρ vs) (wipe σ vs) b ↔ OO ρ σ b := by
  have ows : ∀ i, Ows (wipeR ρ vs) i → i ∉ vs ∧ Ows ρ i := fun i ⟨d, e⟩ => by
    have hi : i ∉ vs := fun hi => by
      rcases e with e | e <;> cases wipeR_in ρ hi _ e
    rw [wipeR_out ρ hi] at e
    exact ⟨hi, d, e⟩
  have hoo : ∀ b, OO (wipeR ρ vs) (wipe σ vs) b ↔ OO ρ σ b := fun b => by
    constructor
    · rintro ⟨i, h1, h2⟩
      obtain ⟨hi, h3⟩ := ows i h1
      rw [wipe_out σ hi] at h2
      exact ⟨i, h3, h2⟩
    · rintro ⟨i, h1, h2⟩
      have hi : i ∉ vs := fun hi => (plainS_get h hi).2 h1
      obtain ⟨d, h1⟩ := h1
      exact ⟨i, ⟨d, by rw [wipeR_out ρ hi]; exact h1⟩, by rw [wipe_out σ hi]; exact h2⟩
  refine ⟨⟨by rw [wipe_length, wipeR_len, S.len], fun i d e => ?_, fun i d e => ?_, fun i j p h1 h2 h3 h4 => ?_, S.mt⟩, hoo⟩
  · have hi : i ∉ vs := fun hi => by cases wipeR_in ρ hi _ e
    rw [wipeR_out ρ hi] at e
    obtain ⟨v, h1, h2⟩ := S.fz i d e
    exact ⟨v, by rw [wipe_out σ hi]; exact h1, h2.less fun b z => z.imp id (hoo b).mp⟩
  · obtain ⟨hi, _⟩ := ows i ⟨d, e⟩
    rw [wipeR_out ρ hi] at e
    obtain ⟨p, h1, h2, h3⟩ := S.ow i d e
    exact ⟨p, by rw [wipe_out σ hi]; exact h1, h2, h3.move (fun b o e n => ⟨e, fun z => n (z.imp id (hoo b).mp)⟩) rfl⟩
  · obtain ⟨hi, g1⟩ := ows i h1
    obtain ⟨hj, g2⟩ := ows j h2
    rw [wipe_out σ hi] at h3
    rw [wipe_out σ hj] at h4
    exact S.inj i j p g1 g2 h3 h4
/-- a turn ends -/
theorem Sr.backed (S : Sr K M ρ σ H) (h : plainS ρ vs = true) (e : Ext (OO ρ σ) H (OO ρ' σ2) H') (S' : Sr K M ρ' σ2 H') (hl : ρ'.length = ρ.length) (hw : wipe σ2 vs = wipe σ vs) : Sr K M (backR ρ ρ' vs) σ H' ∧ ∀ b, OO (backR ρ ρ' vs) σ b → OO ρ' σ2 b := by
  have hs : ∀ i, i ∉ vs → σ2[i]? = σ[i]? := fun i hi => by rw [← wipe_out σ2 hi, hw, wipe_out σ hi]
  have ows : ∀ i, Ows (backR ρ ρ' vs) i → i ∉ vs ∧ Ows ρ' i := fun i ⟨d, e⟩ => by
    have hi : i ∉ vs := fun hi => by
      rw [backR_in ρ ρ' hl hi (plainS_get h hi).1] at e
      exact (plainS_get h hi).2 ⟨d, e⟩
    rw [backR_out ρ ρ' hi] at e
    exact ⟨hi, d, e⟩
  have hoo : ∀ b, OO (backR ρ ρ' vs) σ b → OO ρ' σ2 b := fun b ⟨i, h1, h2⟩ => by
    obtain ⟨hi, h3⟩ := ows i h1
    exact ⟨i, h3, by rw [hs i hi]; exact h2⟩
  refine ⟨⟨by rw [backR_len, hl, S.len], fun i d ed => ?_, fun i d ed => ?_, fun i j p h1 h2 h3 h4 => ?_, S'.mt⟩, hoo⟩
  · by_cases hi : i ∈ vs
    · rw [backR_in ρ ρ' hl hi (plainS_get h hi).1] at ed
      obtain ⟨v, h1, h2⟩ := S.fz i d ed
      exact ⟨v, h1, (Rep.ext e h2).less fun b z => z.imp id (hoo b)⟩
    · rw [backR_out ρ ρ' hi] at ed
      obtain ⟨v, h1, h2⟩ := S'.fz i d ed
      exact ⟨v, by rw [← hs i hi]; exact h1, h2.less fun b z => z.imp id (hoo b)⟩
  · obtain ⟨hi, _⟩ := ows i ⟨d, ed⟩
    rw [backR_out ρ ρ' hi] at ed
    obtain ⟨p, h1, h2, h3⟩ := S'.ow i d ed
    exact ⟨p, by rw [← hs i hi]; exact h1, h2, h3.move (fun b o e n => ⟨e, fun z => n (z.imp id (hoo b))⟩) rfl⟩
  · obtain ⟨hi, g1⟩ := ows i h1
    obtain ⟨hj, g2⟩ := ows j h2
    rw [← hs i hi] at h3
    rw [← hs j hj] at h4
    exact S'.inj i j p g1 g2 h3 h4
theorem IoK.backed (h : plainS ρ vs = true) (k : IoK (wipeR ρ vs) ρ') : IoK ρ (backR ρ ρ' vs) := by
  have hl : ρ'.length = ρ.length := k.1.trans (wipeR_len ρ vs)
  refine ⟨by rw [backR_len, hl], fun i d e => ?_⟩
  have hi : i ∉ vs := fun hi => (plainS_get h hi).2 ⟨d, .inr e⟩
  rw [backR_out ρ ρ' hi]
  exact k.2 i d (by rw [wipeR_out ρ hi]; exact e)
end

def lcM (g : GM) (t : BM) (e : EM) (own : List Nat) : List PyData → Rho → Option (List PyData × Rho)
  | [], ρ => some ([], ρ)
  | d :: ds, ρ => if plainS ρ own = true then (g d (wipeR ρ own)).bind fun ρ1 => (t ρ1).bind fun p => if p.1 = true then
        (e p.2).bind fun q => q.1.dat.bind fun y => (lcM g t e own ds (backR ρ q.2 own)).map fun z => (y :: z.1, z.2)
      else lcM g t e own ds (backR ρ p.2 own)
    else none
def eLc (src : IM) (g : GM) (t : BM) (e : EM) (own : List Nat) : EM := fun ρ => (src ρ).bind fun p => (lcM g t e own p.1 p.2).bind fun q => if q.1.length ≤ sizeLine then some (.ow (.list q.1), q.2) else none
theorem bM_yes {K : PySem.W.Frag} {σ : L2.St} {H : Hp} {Q : Bool → Hp → Prop} (q : bM K (fun ρ => some (true, ρ)) σ H Q) : tYes σ H Q := by
  obtain ⟨M, ρ, b, ρ', S, e, k⟩ := q
  cases e
  exact k H Ext.refl (IoK.refl _) S
def bYes : BM := fun ρ => some (true, ρ)
theorem tM_lc {K : PySem.W.Frag} {src : IM} {g : GM} {t : BM} {e : EM} {own ts : List Nat} (hts : ∀ t ∈ ts, t ∈ own) {σ : L2.St} {H : Hp} {Q : VK} (q : tM K (eLc src g t e own) σ H Q) : tLc (jM K src) (gM K ts g) (bM K t) (tM K e) own σ H Q := by
  obtain ⟨M, ρ, r, ρ', S, ee, k⟩ := q
  unfold eLc at ee
  cases e1 : src ρ with
  | none => rw [e1] at ee; cases ee
  | some p =>
    obtain ⟨ds, ρ1⟩ := p
    rw [e1] at ee
    simp only [Option.bind_some] at ee
    cases e2 : lcM g t e own ds ρ1 with
    | none => rw [e2] at ee; cases ee
    | some p2 =>
      obtain ⟨ys, ρ2⟩ := p2
      rw [e2] at ee
      simp only [Option.bind_some] at ee
      split at ee
      case isFalse => cases ee
      rename_i hlen
      cases ee
      refine ⟨M, ρ, ds, ρ1, S, e1, fun J H1 x1 x2 S1 Y D nD => ?_⟩
      have smD : Same H1 (upd H1 D (.lst [])) := same_upd nD _
      have SD : Sr K (fun b => M b ∨ b = D) ρ1 σ (upd H1 D (.lst [])) := S1.moreM smD nD (by rw [upd_same]; exact fun z => nomatch z)
      refine ⟨fun i m H' => ∃ ρi acc done rest, Sr K (fun b => M b ∨ b = D) ρi σ H' ∧ Ext (OO ρ1 σ) H1 (OO ρi σ) H' ∧ IoK ρ1 ρi ∧ H' D = some (.lst acc) ∧ RepAll K (fun b => (M b ∨ b = D) ∨ OO ρi σ b) H' acc done ∧
        lcM g t e own (ds.drop i) ρi = some (rest, ρ') ∧ ys = done ++ rest ∧ m = ds.length - i ∧ i ≤ ds.length,
        ⟨_, ρ1, [], [], ys, SD, Ext.same smD, IoK.refl _, upd_same, .nil, by simpa using e2, rfl, rfl, Nat.zero_le _⟩, ?_⟩
      rintro i m H' ⟨ρi, acc, done, rest, S', E', I', hD, rA, ef, hys, hm, hi⟩
      have lv : Live (fun b => M b ∨ OO ρi σ b) H' := fun b z => S'.liveA b (z.imp .inl id)
      have nDo : ¬ OO ρi σ D := fun z => S'.ooM z (.inr rfl)
      by_cases hlt : i < ds.length
      · refine .inr ⟨((Y _ H' E'.mv lv i).1 hlt).1, fun H' => ∃ ρi acc done rest, Sr K (fun b => M b ∨ b = D) ρi σ H' ∧ Ext (OO ρ1 σ) H1 (OO ρi σ) H' ∧ IoK ρ1 ρi ∧ H' D = some (.lst acc) ∧ RepAll K (fun b => (M b ∨ b = D) ∨ OO ρi σ b) H' acc done ∧
          lcM g t e own (ds.drop (i + 1)) ρi = some (rest, ρ') ∧ ys = done ++ rest, ?_, fun x H2 y => ?_⟩
        · rintro H2 ⟨ρ3, acc3, done3, rest3, h1, h2, h3, h4, h5, h6, h7⟩
          exact ⟨ds.length - (i + 1), by omega, ρ3, acc3, done3, rest3, h1, h2, h3, h4, h5, h6, h7, rfl, hlt⟩
        · obtain ⟨sm, d, ed, rd⟩ := ((Y _ H' E'.mv lv i).1 hlt).2 x H2 y
          have edrop : ds.drop i = d :: ds.drop (i + 1) := by
            rw [List.drop_eq_getElem_cons hlt]
            rw [List.getElem?_eq_getElem hlt] at ed
            cases ed
            rfl
          rw [edrop] at ef
          simp only [lcM] at ef
          split at ef
          case isFalse => cases ef
          rename_i hpl
          have S2 := S'.same sm
          obtain ⟨Sw, hoo⟩ := S2.wiped hpl
          have H2D : H2 D = some (.lst acc) := sm _ _ hD
          -- the item does not reach the new list: it stood, or is a new pair, ahead of it
          have rd' : Rep K (fun b => (M b ∨ b = D) ∨ OO (wipeR ρi own) (wipe σ own) b) H2 x d := by
            have Y2 := ((Y (fun b => OO ρi σ b ∨ b = D) H' (Ext.mv (O := OO ρ1 σ) ⟨fun b o e n => E'.keep b o e fun z => n z, fun b z => z.elim (E'.nw b) fun z => .inr (z ▸ nD), E'.live⟩) (fun b z => ?_) i).1 hlt).2 x H2 y
            · obtain ⟨_, d2, ed2, rd2⟩ := Y2
              rw [ed] at ed2
              cases ed2
              exact rd2.less fun b z => z.elim (fun z => z.elim .inl fun z => .inr (.inr z)) fun z => .inr (.inl ((hoo b).mp z))
            · rcases z with z | z | z
              · exact lv b (.inl z)
              · exact lv b (.inr z)
              · subst z; rw [hD]; exact fun z => nomatch z
          cases e3 : g d (wipeR ρi own) with
          | none => rw [e3] at ef; cases ef
          | some ρ3 =>
            rw [e3] at ef
            simp only [Option.bind_some] at ef
            refine ⟨_, wipeR ρi own, d, ρ3, Sw, rd', e3, fun σ2 hon A3 S3 => ⟨wipe_eq hon hts, ?_⟩⟩
            have hw := wipe_eq hon hts
            cases e4 : t ρ3 with
            | none => rw [e4] at ef; cases ef
            | some p4 =>
              obtain ⟨c, ρ4⟩ := p4
              rw [e4] at ef
              simp only [Option.bind_some] at ef
              refine ⟨_, ρ3, c, ρ4, S3, e4, fun H4 x3 x4 S4 => ?_⟩
              have E2 : Ext (OO ρi σ) H2 (OO (wipeR ρi own) (wipe σ own)) H2 := Ext.refl.less fun b z => (hoo b).mp z
              have E24 : Ext (OO ρi σ) H2 (OO ρ4 σ2) H4 := (E2.trans A3.ext).trans x3
              have I24 : IoK (wipeR ρi own) ρ4 := A3.io.trans x4
              have keepD : ∀ (ρ5 : Rho) (H5 : Hp), Ext (OO ρi σ) H2 (OO ρ5 σ2) H5 → H5 D = some (.lst acc) := fun ρ5 H5 E => E.keep D _ H2D nDo
              cases c with
              | false =>
                simp only [Bool.false_eq_true, if_false] at ef
                refine iteF ?_
                have hl4 : ρ4.length = ρi.length := I24.1.trans (wipeR_len _ _)
                obtain ⟨S5, hoo5⟩ := S2.backed hpl E24 S4 hl4 hw
                have E25 : Ext (OO ρi σ) H2 (OO (backR ρi ρ4 own) σ) H4 := E24.less hoo5
                refine ⟨_, acc, done, rest, S5, (E'.trans (Ext.same sm)).trans E25, I'.trans (I24.backed hpl), keepD _ _ E24, ?_, ef, hys⟩
                exact RepAll.ext (E25) (rA.move (Same.mv sm))
              | true =>
                simp only [if_true] at ef
                refine iteT ?_
                cases e5 : e ρ4 with
                | none => rw [e5] at ef; cases ef
                | some p5 =>
                  obtain ⟨r5, ρ5⟩ := p5
                  rw [e5] at ef
                  simp only [Option.bind_some] at ef
                  refine ⟨_, ρ4, r5, ρ5, S4, e5, fun v H5 x5 x6 R5 => ?_⟩
                  obtain ⟨d5, hd5, S5, rp5⟩ := R5.fz
                  rw [hd5] at ef
                  simp only [Option.bind_some] at ef
                  cases e6 : lcM g t e own (ds.drop (i + 1)) (backR ρi ρ5 own) with
                  | none => rw [e6] at ef; cases ef
                  | some p6 =>
                    obtain ⟨ys6, ρ6⟩ := p6
                    rw [e6] at ef
                    cases ef
                    have E25 : Ext (OO ρi σ) H2 (OO ρ5 σ2) H5 := E24.trans x5
                    have I25 := I24.trans x6
                    have hl5 : ρ5.length = ρi.length := I25.1.trans (wipeR_len _ _)
                    obtain ⟨S6, hoo6⟩ := S2.backed hpl E25 S5 hl5 hw
                    have E26 : Ext (OO ρi σ) H2 (OO (backR ρi ρ5 own) σ) H5 := E25.less hoo6
                    have H5D := keepD _ _ E25
                    have rA5 : RepAll K (fun b => (M b ∨ b = D) ∨ OO (backR ρi ρ5 own) σ b) H5 acc done := RepAll.ext E26 (rA.move (Same.mv sm))
                    refine ⟨acc, H5D, ?_, ?_⟩
                    · have h1 := rA.length
                      rw [hys] at hlen
                      simp only [List.length_append, List.length_cons] at hlen
                      omega
                    · have mvD : ∀ b o, H5 b = some o → ¬ ((M b ∨ b = D) ∨ OO (backR ρi ρ5 own) σ b) → (upd H5 D (.lst (acc ++ [v]))) b = some o ∧ ¬ ((M b ∨ b = D) ∨ OO (backR ρi ρ5 own) σ b) := fun b o e n => ⟨by rw [upd_ne fun z => n (.inl (.inr z))]; exact e, n⟩
                      have Eu : Ext (OO (backR ρi ρ5 own) σ) H5 (OO (backR ρi ρ5 own) σ) H5 := Ext.refl
                      refine ⟨backR ρi ρ5 own, acc ++ [v], done ++ [d5], ys6, ⟨S6.len, fun j d' e' => ?_, fun j d' e' => ?_, S6.inj, fun b z => ?_⟩, ?_, I'.trans (I25.backed hpl), upd_same, ?_, e6, by simp [hys]⟩
                      · obtain ⟨v', g1, g2⟩ := S6.fz j d' e'
                        exact ⟨v', g1, g2.move mvD⟩
                      · obtain ⟨p', g1, g2, g3⟩ := S6.ow j d' e'
                        exact ⟨p', g1, g2, g3.move mvD (upd_ne fun z => g2 (.inr z))⟩
                      · by_cases hb : b = D
                        · subst hb; rw [upd_same]; exact fun z => nomatch z
                        · rw [upd_ne hb]; exact S6.mt b z
                      · have E15 := (E'.trans (Ext.same sm)).trans E26
                        refine ⟨fun b o e n => ?_, E15.nw, fun b h => ?_⟩
                        · rw [upd_ne (ne_of_none e nD)]; exact E15.keep b o e n
                        · by_cases hb : b = D
                          · subst hb; rw [upd_same]; exact fun z => nomatch z
                          · rw [upd_ne hb]; exact E15.live b h
                      · exact (rA5.append (.cons (rp5.less fun b z => z.imp id (hoo6 b)) .nil)).move mvD
      · have hi' : i = ds.length := by omega
        subst hi'
        rw [List.drop_length] at ef
        cases ef
        refine .inl ⟨(Y _ H' E'.mv lv _).2 (Nat.le_refl _), k _ H' (x1.trans E') (x2.trans I') ⟨D, rfl, .inr (Classical.byContradiction fun z => x1.live D z nD), fun z => S1.mt D z nD, S', ?_⟩⟩
        exact ⟨acc, hD, by rw [hys]; simpa using rA⟩
section
variable {X : Cx}
abbrev XTs (X : Cx) (ifs : List Expr) (m : BM) : Prop := PTs X ifs (bM X.K m)
theorem ts_nil : XTs X [] bYes := ⟨fun pins s σ H Q I q => pts_nil.run pins s σ H Q I (bM_yes q)⟩
theorem ts_one {c : Expr} {t : BM} (h : XT X c t) : XTs X [c] t := pts_one h
theorem x_lc {elt tg iter : Expr} {ifs : List Expr} {scope : Scope} {own : List (Str × Nat)} {ts : List Nat} {pos : Pos} {src : IM} {g : GM} {t : BM} {e : EM} (hc : X.calm = true) (hN : X.N.Nodup) (hi : XI X tg iter src) (ok : BlkOk X.N X.env.scope scope own) (hts : ∀ t ∈ ts, t ∈ own.map (·.2))
    (hg : ∀ (s : Shared) (H : Hp) (C : Addr) (cl : List (Str × Addr)) (fp : List Addr), XG (X.blk s H scope (compEnvC scope cl C X.env) fp) tg ts g) (ht : ∀ (s : Shared) (H : Hp) (C : Addr) (cl : List (Str × Addr)) (fp : List Addr), XTs (X.blk s H scope (compEnvC scope cl C X.env) fp) ifs t)
    (he : ∀ (s : Shared) (H : Hp) (C : Addr) (cl : List (Str × Addr)) (fp : List Addr), XE (X.blk s H scope (compEnvC scope cl C X.env) fp) elt e) (hs : ∀ x, foldedSetIterable iter X.env x = pure x := by intro _; rfl) :
    XE X (.ListComp elt [⟨tg, iter, ifs, 0⟩] scope pos) (eLc src g t e (own.map (·.2))) := pe_imp (pe_lc hc hN hi ok hg ht he hs) fun σ H Q q => tM_lc hts q
theorem s_setLc {i : Nat} {y : Str} {py : Pos} {elt tg iter : Expr} {ifs : List Expr} {scope : Scope} {own : List (Str × Nat)} {ts : List Nat} {pos spos : Pos} {src : IM} {g : GM} {t : BM} {e : EM} (hc : X.calm = true) (hN : X.N.Nodup) (hy : X.N[i]? = some y) (hyl : X.env.scope.names.lookup y = some .local)
    (hsw : swapsWith (.ListComp elt [⟨tg, iter, ifs, 0⟩] scope pos) (some (.Name y py)) spos.line X.env = pure true) (hi : XI X tg iter src) (ok : BlkOk X.N X.env.scope scope own) (hts : ∀ t ∈ ts, t ∈ own.map (·.2))
    (hg : ∀ (s : Shared) (H : Hp) (C : Addr) (cl : List (Str × Addr)) (fp : List Addr), XG (X.blk s H scope (compEnvC scope cl C X.env) fp) tg ts g) (ht : ∀ (s : Shared) (H : Hp) (C : Addr) (cl : List (Str × Addr)) (fp : List Addr), XTs (X.blk s H scope (compEnvC scope cl C X.env) fp) ifs t)
    (he : ∀ (s : Shared) (H : Hp) (C : Addr) (cl : List (Str × Addr)) (fp : List Addr), XE (X.blk s H scope (compEnvC scope cl C X.env) fp) elt e) (hs : ∀ x, foldedSetIterable iter X.env x = pure x := by intro _; rfl) :
    XS X (.Assign [.Name y py] (.ListComp elt [⟨tg, iter, ifs, 0⟩] scope pos) spos) (sSet i (eLc src g t e (own.map (·.2)))) := ps_imp (ps_setLc hc hN hy hyl hsw hi ok hg ht he hs) fun D σ H q => by
  have h := sM_set q
  exact tM_lc hts h
end
end Vw

set_option Elab.async false
set_option linter.all false
set_option maxRecDepth 100000
/-! calls of defs; what a def promises -/
namespace Vw
open PySem L2 PyProof.Rows

/-! ### a result held apart -/
def Mx (M : Addr → Prop) (v : V) (r : Sl) : Addr → Prop := fun b => M b ∨ (v = .ref b ∧ ∃ d, r = .ow d)
def Held (K : PySem.W.Frag) (M : Addr → Prop) (O : Addr → Prop) (H : Hp) (v : V) : Sl → Prop
  | .fz d => Rep K (fun b => M b ∨ O b) H v d
  | .ow d => ∃ p, v = .ref p ∧ ¬ M p ∧ Own K (fun b => (M b ∨ b = p) ∨ O b) H p d
  | _ => False
section
variable {K : PySem.W.Frag} {M O O' : Addr → Prop} {H H' H0 : Hp} {ρ ρ' : Rho} {σ σ' : L2.St} {v : V} {r : Sl}
theorem Res.split (h : Res K M O H0 ρ' σ' v H r) : Sr K (Mx M v r) ρ' σ' H ∧ Held K M (OO ρ' σ') H v r ∧ ∀ p, v = .ref p → (∃ d, r = .ow d) → O p ∨ H0 p = none := by
  cases r with
  | fz d => exact ⟨h.1.lessM fun b z => z.elim id (fun z => by obtain ⟨_, d', z⟩ := z; cases z), h.2, fun p _ z => by obtain ⟨d', z⟩ := z; cases z⟩
  | ow d =>
    obtain ⟨p, rfl, h1, h2, h3, h4⟩ := h
    exact ⟨h3.lessM fun b z => z.imp id fun z => by cases z.1; rfl, ⟨p, rfl, h2, h4⟩, fun q e _ => by cases e; exact h1⟩
  | un => exact h.elim
  | io d => exact h.elim
theorem Res.join (S : Sr K (Mx M v r) ρ' σ' H) (h : Held K M (OO ρ' σ') H v r) (f : ∀ p, v = .ref p → (∃ d, r = .ow d) → O p ∨ H0 p = none) : Res K M O H0 ρ' σ' v H r := by
  cases r with
  | fz d => exact ⟨S.lessM fun b => .inl, h⟩
  | ow d =>
    obtain ⟨p, rfl, h2, h4⟩ := h
    exact ⟨p, rfl, f p rfl ⟨d, rfl⟩, h2, S.lessM fun b z => z.imp id fun z => by subst z; exact ⟨rfl, d, rfl⟩, h4⟩
  | un => exact h.elim
  | io d => exact h.elim
theorem Held.ext (h : Held K M O H v r) (n : ∀ p, v = .ref p → (∃ d, r = .ow d) → ¬ O p) (e : Ext O H O' H') : Held K M O' H' v r := by
  cases r with
  | fz d => exact Rep.ext e h
  | ow d =>
    obtain ⟨p, rfl, h2, h4⟩ := h
    have np := n p rfl ⟨d, rfl⟩
    refine ⟨p, rfl, h2, h4.move (e.mv (M := fun b => M b ∨ b = p)) ?_⟩
    cases q : H p with
    | none => exact (h4.there q).elim
    | some o => exact e.keep p o q np
  | un => exact h.elim
  | io d => exact h.elim
end

/-! ### a, b = x, y -/
def sPar (i j : Nat) (a b : EM) : SM := fun ρ => (a ρ).bind fun p => (b p.2).bind fun q => (put i p.1 q.2).bind fun ρ3 => (put j q.1 ρ3).map .nx
/-- two results in a row -/
def tPairOf (ta tb : TE) : TA := fun σ H Q => ta σ H fun x H1 => tb σ H1 fun y H2 => Q [x, y] H2
theorem tPairOf_eq {ta tb : TE} {σ : L2.St} {H : Hp} {Q : List V → Hp → Prop} (h : tPairOf ta tb σ H Q) : tCons ta (tCons tb tNil) σ H Q := h
theorem sM_par {K : PySem.W.Frag} {i j : Nat} (hij : i ≠ j) {a b : EM} {D : Ends} {σ : L2.St} {H : Hp} (q : sM K (sPar i j a b) D σ H) : tPar i j (tCons (tM K a) (tCons (tM K b) tNil)) D σ H := by
  obtain ⟨M, ρ, o, S, e, w⟩ := q
  unfold sPar at e
  cases e1 : a ρ with
  | none => rw [e1] at e; cases e
  | some p =>
    obtain ⟨r1, ρ1⟩ := p
    rw [e1] at e
    simp only [Option.bind_some] at e
    cases e2 : b ρ1 with
    | none => rw [e2] at e; cases e
    | some p =>
      obtain ⟨r2, ρ2⟩ := p
      rw [e2] at e
      simp only [Option.bind_some] at e
      cases e3 : put i r1 ρ2 with
      | none => rw [e3] at e; cases e
      | some ρ3 =>
        rw [e3] at e
        simp only [Option.bind_some] at e
        cases e4 : put j r2 ρ3 with
        | none => rw [e4] at e; cases e
        | some ρ4 =>
          rw [e4] at e
          cases e
          refine ⟨M, ρ, r1, ρ1, S, e1, fun v1 H1 x1 x2 R1 => ?_⟩
          obtain ⟨S1, h1, f1⟩ := R1.split
          refine ⟨Mx M v1 r1, ρ1, r2, ρ2, S1, e2, fun v2 H2 y1 y2 R2 => ?_⟩
          obtain ⟨S2, h2, f2⟩ := R2.split
          refine ⟨v1, v2, rfl, ?_⟩
          -- the first result, held while the second is made; then both stored
          have n1 : ∀ p, v1 = .ref p → (∃ d, r1 = .ow d) → ¬ OO ρ1 σ p := fun p h h' z => S1.ooM z (.inr ⟨h, h'⟩)
          have h1' : Held K (Mx M v2 r2) (OO ρ2 σ) H2 v1 r1 := by
            have hx := h1.ext n1 y1
            have nm : ∀ b, (v2 = .ref b ∧ ∃ d, r2 = .ow d) → OO ρ1 σ b ∨ H1 b = none := fun b h => f2 b h.1 h.2
            cases r1 with
            | fz d =>
              refine (show Rep K (fun b => M b ∨ OO ρ1 σ b) H1 v1 d from h1).move fun b o e n => ⟨(y1.mv b o e n).1, fun z => ?_⟩
              rcases z with (z | z) | z
              · exact n (.inl z)
              · rcases nm b z with z | z
                · exact n (.inr z)
                · rw [z] at e; cases e
              · exact (y1.mv b o e n).2 (.inr z)
            | ow d =>
              obtain ⟨p, rfl, np, ho⟩ := h1
              refine ⟨p, rfl, fun z => ?_, ho.move (fun b o e n => ⟨(y1.mv (M := fun b => M b ∨ b = p) b o e n).1, fun z => ?_⟩) ?_⟩
              · rcases z with z | z
                · exact np z
                · rcases nm p z with z | z
                  · exact n1 p rfl ⟨d, rfl⟩ z
                  · exact ho.there z
              · rcases z with ((z | z) | z) | z
                · exact n (.inl (.inl z))
                · rcases nm b z with z | z
                  · exact n (.inr z)
                  · rw [z] at e; cases e
                · exact n (.inl (.inr z))
                · exact (y1.mv (M := fun b => M b ∨ b = p) b o e n).2 (.inr z)
              · cases q : H1 p with
                | none => exact (ho.there q).elim
                | some o => exact y1.keep p o q (n1 p rfl ⟨d, rfl⟩)
            | un => exact h1.elim
            | io d => exact h1.elim
          have S2' : Sr K (Mx (Mx M v2 r2) v1 r1) ρ2 σ H2 := S2.lessM fun b z => by
            rcases z with (z | z) | z
            · exact .inl (.inl z)
            · exact .inr z
            · exact .inl (.inr z)
          have R1' : Res K (Mx M v2 r2) (OO ρ σ) H ρ2 σ v1 H2 r1 := Res.join S2' h1' f1
          obtain ⟨S3, io3, o3, st3⟩ := put_aft e3 R1' (x1.trans y1).live
          obtain ⟨_, rfl⟩ := put_some e3
          -- the second result stands still meanwhile
          have sub3 : ∀ b, OO (ρ2.set i r1) (σ.set i (some v1)) b → OO ρ2 σ b ∨ (v1 = .ref b ∧ ∃ d, r1 = .ow d) := fun b z => by
            rcases OO_put z with z | ⟨z, d, z' | z'⟩
            · exact .inl z.1
            · exact .inr ⟨z, d, z'⟩
            · subst z'; exact R1.elim
          have h2' : Held K M (OO (ρ2.set i r1) (σ.set i (some v1))) H2 v2 r2 := by
            cases r2 with
            | fz d => exact (show Rep K (fun b => Mx M v1 r1 b ∨ OO ρ2 σ b) H2 v2 d from h2).less fun b z => z.elim (fun z => .inl (.inl z)) fun z => (sub3 b z).elim .inr fun z => .inl (.inr z)
            | ow d =>
              obtain ⟨p, rfl, np, ho⟩ := h2
              refine ⟨p, rfl, fun z => np (.inl z), ho.move (fun b o e n => ⟨e, fun z => n ?_⟩) rfl⟩
              rcases z with (z | z) | z
              · exact .inl (.inl (.inl z))
              · exact .inl (.inr z)
              · exact (sub3 b z).elim .inr fun z => .inl (.inl (.inr z))
            | un => exact h2.elim
            | io d => exact h2.elim
          have R2' : Res K M (OO ρ1 σ) H1 (ρ2.set i r1) (σ.set i (some v1)) v2 H2 r2 := Res.join S3 h2' f2
          obtain ⟨S4, io4, o4, st4⟩ := put_aft e4 R2' y1.live
          refine w _ _ ⟨⟨(x1.trans y1).keep, fun b z => ?_, (x1.trans y1).live⟩, ((x2.trans y2).trans io3).trans io4, fun k d h => ?_⟩ S4
          · have back : OO ρ1 σ b ∨ H1 b = none → OO ρ σ b ∨ H b = none := fun z => z.elim (x1.nw b) fun z => .inr (Classical.byContradiction fun q => x1.live b q z)
            rcases o4 b z with z | z
            · rcases sub3 b z with z | z
              · exact (x1.trans y1).nw b z
              · exact f1 b z.1 z.2
            · exact back z
          · obtain ⟨d2, h'⟩ := (x2.trans y2).2 k d h
            obtain ⟨d3, h''⟩ := io3.2 k d2 h'
            rw [st4 k d3 h'', st3 k d2 h']
theorem s_par {X : Cx} {i j : Nat} {x y : Str} {a b : Expr} {ma mb : EM} {px py pt : Pos} {kt k2 pt2} {pos : Pos} (hc : X.calm = true) (hN : X.N.Nodup) (hi : X.N[i]? = some x) (hj : X.N[j]? = some y) (hij : i ≠ j) (hx : X.env.scope.names.lookup x = some .local) (hy : X.env.scope.names.lookup y = some .local)
    (ha : XE X a ma) (hb : XE X b mb) (hw : swappedStores [.Tuple [.Name x px, .Name y py] kt pt] (.Tuple [a, b] k2 pt2) X.env = pure (some [x, y]))
    (hs : swapsWithSole [.Tuple [.Name x px, .Name y py] kt pt] (.Tuple [a, b] k2 pt2) pos.line X.env = pure false := by rfl) (hst : starEach [a, b] X.env = (false, eval a X.env) :: starEach [b] X.env := by rfl) (hst2 : starEach [b] X.env = (false, eval b X.env) :: starEach [] X.env := by rfl) :
    XS X (.Assign [.Tuple [.Name x px, .Name y py] kt pt] (.Tuple [a, b] k2 pt2) pos) (sPar i j ma mb) :=
  ps_imp (ps_par hc hN hi hj hij hx hy (pa_cons ha (pa_cons hb pa_nil hst2) hst) hw hs) fun _ _ _ q => sM_par hij q

/-! ### calls -/
def slotOf : Opd → Option Nat
  | .val _ => none
  | .bor i => some i
/-- no slot twice -/
def apart (os : List Opd) : Bool := decide ((os.map slotOf).Pairwise fun a b => a = none ∨ a ≠ b)
def outs : List Opd → List PyData → Rho → Option Rho
  | [], [], ρ => some ρ
  | .val _ :: os, ds, ρ => outs os ds ρ
  | .bor i :: os, d :: ds, ρ => match ρ[i]? with
    | some (.ow _) => outs os ds (ρ.set i (.ow d))
    | some (.io _) => outs os ds (ρ.set i (.io d))
    | _ => none
  | _, _, _ => none
/-- handed in things were own ones when they were read -/
def ioOk : List Opd → List (Option PyData) → Bool
  | .bor _ :: _, some _ :: _ => false
  | _ :: os, _ :: xs => ioOk os xs
  | _, _ => true
theorem ioOk_get : ∀ {os : List Opd} {xs : List (Option PyData)}, ioOk os xs = true → ∀ (k i : Nat) (x : Option PyData), os[k]? = some (.bor i) → xs[k]? = some x → x = none
  | [], _, _, k, i, x, e, _ => by simp at e
  | .bor j :: os, [], h, k, i, x, e, e' => by simp at e'
  | .val m :: os, [], h, k, i, x, e, e' => by simp at e'
  | .bor j :: os, some y :: xs, h, k, i, x, e, e' => by cases h
  | .bor j :: os, none :: xs, h, 0, i, x, e, e' => by simp at e'; exact e'.symm
  | .bor j :: os, none :: xs, h, k + 1, i, x, e, e' => ioOk_get (os := os) (xs := xs) h k i x (by simpa using e) (by simpa using e')
  | .val m :: os, y :: xs, h, 0, i, x, e, e' => by simp at e
  | .val m :: os, y :: xs, h, k + 1, i, x, e, e' => ioOk_get (os := os) (xs := xs) (by simpa [ioOk] using h) k i x (by simpa using e) (by simpa using e')
def eCall (f : List PyData → Option (Sl × List PyData)) (os : List Opd) : EM := fun ρ => if apart os = true then (pres os ρ).bind fun p => if ioOk os p.1 = true then (fins os p.1 p.2).bind fun ds => (f ds).bind fun q => (outs os q.2 p.2).map fun ρ' => (q.1, ρ') else none else none
/-- the parameters' slots -/
def parR : List Opd → List PyData → Rho
  | .val _ :: os, d :: ds => .fz d :: parR os ds
  | .bor _ :: os, d :: ds => .io d :: parR os ds
  | _, _ => []
def modes (os : List Opd) : List Bool := os.map fun o => !o.isVal
def initR : List Bool → List PyData → Rho
  | false :: ms, d :: ds => .fz d :: initR ms ds
  | true :: ms, d :: ds => .io d :: initR ms ds
  | _, _ => []
theorem parR_eq : ∀ (os : List Opd) (ds : List PyData), parR os ds = initR (modes os) ds
  | [], _ => rfl
  | .val _ :: os, [] => rfl
  | .bor _ :: os, [] => rfl
  | .val _ :: os, d :: ds => by
    show Sl.fz d :: parR os ds = Sl.fz d :: initR (modes os) ds
    rw [parR_eq os ds]
  | .bor _ :: os, d :: ds => by
    show Sl.io d :: parR os ds = Sl.io d :: initR (modes os) ds
    rw [parR_eq os ds]
/-- behind the call: handed in things as they are now, the others forgotten -/
def outR : List Bool → List PyData → Option Rho
  | [], [] => some []
  | false :: ms, ds => (outR ms ds).map (.un :: ·)
  | true :: ms, d :: ds => (outR ms ds).map (.io d :: ·)
  | _, _ => none
/-- a def's promise: f tells its answer and the handed in things -/
def spM (K : PySem.W.Frag) (ms : List Bool) (f : List PyData → Option (Sl × List PyData)) : Sp := fun vs H Q _ => ∃ M ds r os ρ1, ds.length = ms.length ∧ vs.length = ms.length ∧ Sr K M (initR ms ds) (vs.map some) H ∧ f ds = some (r, os) ∧ outR ms os = some ρ1 ∧
  ∀ v H', Ext (OO (initR ms ds) (vs.map some)) H (OO ρ1 (vs.map some)) H' → Res K M (OO (initR ms ds) (vs.map some)) H ρ1 (vs.map some) v H' r → Q v H'
theorem initR_len : ∀ (ms : List Bool) (ds : List PyData), ds.length = ms.length → (initR ms ds).length = ms.length
  | [], [], _ => rfl
  | false :: ms, d :: ds, h => by simp [initR, initR_len ms ds (by simpa using h)]
  | true :: ms, d :: ds, h => by simp [initR, initR_len ms ds (by simpa using h)]
theorem initR_get : ∀ (ms : List Bool) (ds : List PyData) (k : Nat) (s : Sl), (initR ms ds)[k]? = some s → ∃ d, ds[k]? = some d ∧ ((ms[k]? = some false ∧ s = .fz d) ∨ (ms[k]? = some true ∧ s = .io d))
  | [], _, k, s, e => by simp [initR] at e
  | false :: ms, [], k, s, e => by simp [initR] at e
  | true :: ms, [], k, s, e => by simp [initR] at e
  | false :: ms, d :: ds, 0, s, e => by simp [initR] at e; exact ⟨d, rfl, .inl ⟨rfl, e.symm⟩⟩
  | true :: ms, d :: ds, 0, s, e => by simp [initR] at e; exact ⟨d, rfl, .inr ⟨rfl, e.symm⟩⟩
  | false :: ms, d :: ds, k + 1, s, e => by
    obtain ⟨d', h1, h2⟩ := initR_get ms ds k s (by simpa [initR] using e)
    exact ⟨d', by simpa using h1, by simpa using h2⟩
  | true :: ms, d :: ds, k + 1, s, e => by
    obtain ⟨d', h1, h2⟩ := initR_get ms ds k s (by simpa [initR] using e)
    exact ⟨d', by simpa using h1, by simpa using h2⟩
theorem outR_get : ∀ (ms : List Bool) (os : List PyData) (ρ1 : Rho), outR ms os = some ρ1 → ρ1.length = ms.length ∧ ∀ (k : Nat) (s : Sl), ρ1[k]? = some s → (ms[k]? = some false ∧ s = .un) ∨ (ms[k]? = some true ∧ ∃ d, s = .io d)
  | [], [], ρ1, e => by cases e; exact ⟨rfl, fun k s e => by simp at e⟩
  | [], _ :: _, ρ1, e => by cases e
  | false :: ms, ds, ρ1, e => by
    unfold outR at e
    cases e1 : outR ms ds with
    | none => rw [e1] at e; cases e
    | some ρ2 =>
      rw [e1] at e
      cases e
      obtain ⟨h1, h2⟩ := outR_get ms ds ρ2 e1
      refine ⟨by simp [h1], fun k s e => ?_⟩
      cases k with
      | zero => simp at e; exact .inl ⟨rfl, e.symm⟩
      | succ k => simpa using h2 k s (by simpa using e)
  | true :: ms, [], ρ1, e => by cases e
  | true :: ms, d :: ds, ρ1, e => by
    unfold outR at e
    cases e1 : outR ms ds with
    | none => rw [e1] at e; cases e
    | some ρ2 =>
      rw [e1] at e
      cases e
      obtain ⟨h1, h2⟩ := outR_get ms ds ρ2 e1
      refine ⟨by simp [h1], fun k s e => ?_⟩
      cases k with
      | zero => simp at e; exact .inr ⟨rfl, d, e.symm⟩
      | succ k => simpa using h2 k s (by simpa using e)
theorem outs_spec : ∀ (os : List Opd) (ds : List PyData) (ρ ρ2 : Rho), (os.map slotOf).Pairwise (fun a b => a = none ∨ a ≠ b) → outs os ds ρ = some ρ2 →
    ρ2.length = ρ.length ∧ (∀ j : Nat, (∀ k : Nat, os[k]? ≠ some (.bor j)) → ρ2[j]? = ρ[j]?) ∧ ∃ ρ1, outR (modes os) ds = some ρ1 ∧ ∀ (k i : Nat), os[k]? = some (.bor i) → ∃ d, ρ1[k]? = some (.io d) ∧ ((∃ d0, ρ[i]? = some (.ow d0)) ∧ ρ2[i]? = some (.ow d) ∨ (∃ d0, ρ[i]? = some (.io d0)) ∧ ρ2[i]? = some (.io d))
  | [], [], ρ, ρ2, _, e => by cases e; exact ⟨rfl, fun _ _ => rfl, [], rfl, fun k i h => by simp at h⟩
  | [], _ :: _, ρ, ρ2, _, e => by cases e
  | .val m :: os, ds, ρ, ρ2, hp, e => by
    have e' : outs os ds ρ = some ρ2 := by
      cases ds <;> exact e
    rw [List.map_cons, List.pairwise_cons] at hp
    obtain ⟨h1, h2, ρ1, h3, h4⟩ := outs_spec os ds ρ ρ2 hp.2 e'
    refine ⟨h1, fun j hj => h2 j fun k z => hj (k + 1) (by simpa using z), .un :: ρ1, ?_, fun k i h => ?_⟩
    · show (outR (modes os) ds).map _ = _
      rw [h3]; rfl
    · cases k with
      | zero => simp at h
      | succ k => simpa using h4 k i (by simpa using h)
  | .bor i :: os, [], ρ, ρ2, _, e => by cases e
  | .bor i :: os, d :: ds, ρ, ρ2, hp, e => by
    rw [List.map_cons, List.pairwise_cons] at hp
    have far : ∀ k : Nat, os[k]? ≠ some (.bor i) := fun k z => by
      have h := hp.1 (some i) (by
        have := List.mem_of_getElem? z
        exact List.mem_map.mpr ⟨_, this, rfl⟩)
      rcases h with h | h
      · cases h
      · exact h rfl
    have go : ∀ s, (∃ d0, ρ[i]? = some (.ow d0)) ∧ s = Sl.ow d ∨ (∃ d0, ρ[i]? = some (.io d0)) ∧ s = Sl.io d → outs os ds (ρ.set i s) = some ρ2 →
        ρ2.length = ρ.length ∧ (∀ j : Nat, (∀ k : Nat, (Opd.bor i :: os)[k]? ≠ some (.bor j)) → ρ2[j]? = ρ[j]?) ∧ ∃ ρ1, outR (modes (.bor i :: os)) (d :: ds) = some ρ1 ∧ ∀ (k i' : Nat), (Opd.bor i :: os)[k]? = some (.bor i') → ∃ d, ρ1[k]? = some (.io d) ∧ ((∃ d0, ρ[i']? = some (.ow d0)) ∧ ρ2[i']? = some (.ow d) ∨ (∃ d0, ρ[i']? = some (.io d0)) ∧ ρ2[i']? = some (.io d)) := by
      intro s hs e
      obtain ⟨h1, h2, ρ1, h3, h4⟩ := outs_spec os ds (ρ.set i s) ρ2 hp.2 e
      have hi : i < ρ.length := by
        rcases hs with ⟨⟨d0, h⟩, _⟩ | ⟨⟨d0, h⟩, _⟩ <;> exact (List.getElem?_eq_some_iff.mp h).1
      have hii : ρ2[i]? = some s := by rw [h2 i far, List.getElem?_set_self hi]
      refine ⟨by simpa using h1, fun j hj => ?_, .io d :: ρ1, ?_, fun k i' h => ?_⟩
      · have hne : i ≠ j := fun z => hj 0 (by simp [z])
        rw [h2 j fun k z => hj (k + 1) (by simpa using z), List.getElem?_set_ne hne]
      · show (outR (modes os) ds).map _ = _
        rw [h3]; rfl
      · cases k with
        | zero =>
          simp at h
          subst h
          refine ⟨d, by simp, ?_⟩
          rcases hs with ⟨h, rfl⟩ | ⟨h, rfl⟩
          · exact .inl ⟨h, hii⟩
          · exact .inr ⟨h, hii⟩
        | succ k =>
          have h' : os[k]? = some (.bor i') := by simpa using h
          have hne : i ≠ i' := fun z => far k (z ▸ h')
          obtain ⟨d', g1, g2⟩ := h4 k i' h'
          rw [List.getElem?_set_ne hne] at g2
          exact ⟨d', by simpa using g1, g2⟩
    unfold outs at e
    split at e
    · rename_i d0 h0
      exact go _ (.inl ⟨⟨d0, h0⟩, rfl⟩) e
    · rename_i d0 h0
      exact go _ (.inr ⟨⟨d0, h0⟩, rfl⟩) e
    · cases e
theorem fins_get {ρ : Rho} : ∀ {os : List Opd} {xs : List (Option PyData)} {ds : List PyData}, fins os xs ρ = some ds → os.length = ds.length ∧ ∀ (k : Nat) (o : Opd), os[k]? = some o → ∃ x d, xs[k]? = some x ∧ ds[k]? = some d ∧ fin o x ρ = some d
  | [], [], ds, e => by cases e; exact ⟨rfl, fun k o h => by simp at h⟩
  | [], _ :: _, ds, e => by cases e
  | _ :: _, [], ds, e => by cases e
  | o :: os, x :: xs, ds, e => by
    simp only [fins] at e
    cases e1 : fin o x ρ with
    | none => rw [e1] at e; cases e
    | some d =>
      rw [e1] at e
      simp only [Option.bind_some] at e
      cases e2 : fins os xs ρ with
      | none => rw [e2] at e; cases e
      | some es =>
        rw [e2] at e
        cases e
        obtain ⟨h1, h2⟩ := fins_get e2
        refine ⟨by simp [h1], fun k o' h => ?_⟩
        cases k with
        | zero => simp at h; subst h; exact ⟨x, d, rfl, rfl, e1⟩
        | succ k => simpa using h2 k o' (by simpa using h)
theorem preAll_get {K : PySem.W.Frag} {M : Addr → Prop} {ρ : Rho} {σ : L2.St} {H : Hp} : ∀ {os : List Opd} {vs : List V} {xs : List (Option PyData)}, PreAll K M ρ σ H os vs xs → vs.length = os.length ∧ ∀ (k : Nat) (o : Opd) (x : Option PyData), os[k]? = some o → xs[k]? = some x → ∃ v, vs[k]? = some v ∧ PreAt K M ρ σ H o v x
  | _, _, _, .nil => ⟨rfl, fun k o x h => by simp at h⟩
  | _, _, _, .cons (o := o) (x := x) h t => by
    obtain ⟨h1, h2⟩ := preAll_get t
    refine ⟨by simp [h1], fun k o' x' e1 e2 => ?_⟩
    cases k with
    | zero => simp at e1 e2; subst e1 e2; exact ⟨_, rfl, h⟩
    | succ k => simpa using h2 k o' x' (by simpa using e1) (by simpa using e2)
end Vw

set_option Elab.async false
set_option linter.all false
set_option maxRecDepth 100000
/-! a def's call, a def's body -/
namespace Vw
open PySem L2 PyProof.Rows

theorem apart_ix {os : List Opd} (h : (os.map slotOf).Pairwise fun a b => a = none ∨ a ≠ b) {k k' i : Nat} (e : os[k]? = some (.bor i)) (e' : os[k']? = some (.bor i)) : k = k' := by
  have g : ∀ {k k' : Nat}, os[k]? = some (.bor i) → os[k']? = some (.bor i) → ¬ k < k' := fun {k k'} e e' hlt => by
    obtain ⟨h1, e1⟩ := List.getElem?_eq_some_iff.mp e
    obtain ⟨h2, e2⟩ := List.getElem?_eq_some_iff.mp e'
    have := List.pairwise_iff_getElem.mp h k k' (by simpa using h1) (by simpa using h2) hlt
    simp only [List.getElem_map, e1, e2, slotOf] at this
    rcases this with z | z
    · cases z
    · exact z rfl
  have h1 := g e e'
  have h2 := g e' e
  omega
theorem modes_get {os : List Opd} {k : Nat} {b : Bool} (h : (modes os)[k]? = some b) : ∃ o, os[k]? = some o ∧ b = !o.isVal := by
  unfold modes at h
  rw [List.getElem?_map] at h
  cases e : os[k]? with
  | none => rw [e] at h; cases h
  | some o => rw [e] at h; cases h; exact ⟨o, rfl, rfl⟩
theorem tM_call {K : PySem.W.Frag} {f : List PyData → Option (Sl × List PyData)} {os : List Opd} {σ : L2.St} {H : Hp} {Q : VK} {E : XK} (q : tM K (eCall f os) σ H Q) : pM K os σ H fun vs H1 => spM K (modes os) f vs H1 Q E := by
  obtain ⟨M, ρ, r, ρ', S, e, k⟩ := q
  unfold eCall at e
  split at e
  case isFalse => cases e
  rename_i hap
  have hap := of_decide_eq_true hap
  cases e1 : pres os ρ with
  | none => rw [e1] at e; cases e
  | some p =>
    obtain ⟨xs, ρ1⟩ := p
    rw [e1] at e
    simp only [Option.bind_some] at e
    split at e
    case isFalse => cases e
    rename_i hok
    cases e2 : fins os xs ρ1 with
    | none => rw [e2] at e; cases e
    | some ds =>
      rw [e2] at e
      simp only [Option.bind_some] at e
      cases e3 : f ds with
      | none => rw [e3] at e; cases e
      | some q =>
        obtain ⟨r', outs'⟩ := q
        rw [e3] at e
        simp only [Option.bind_some] at e
        cases e4 : outs os outs' ρ1 with
        | none => rw [e4] at e; cases e
        | some ρ2 =>
          rw [e4] at e
          cases e
          refine ⟨M, ρ, xs, ρ1, S, e1, fun vs H1 x1 x2 S1 p1 => ?_⟩
          obtain ⟨hlen, hget⟩ := fins_get e2
          obtain ⟨hvl, hpre⟩ := preAll_get p1
          obtain ⟨hl2, hstay, ρc, hc, hio⟩ := outs_spec os outs' ρ1 ρ' hap e4
          have hmod : (modes os).length = os.length := by simp [modes]
          obtain ⟨hcl, hcget⟩ := outR_get _ _ _ hc
          have hinl := initR_len (modes os) ds (by rw [hmod, hlen])
          -- a handed in slot
          have ioAt : ∀ (k i : Nat), os[k]? = some (.bor i) → ∃ (p : Addr) (d : PyData), vs[k]? = some (.ref p) ∧ σ[i]? = some (some (.ref p)) ∧ ds[k]? = some d ∧ (ρ1[i]? = some (.ow d) ∨ ρ1[i]? = some (.io d)) := by
            intro k i hk
            obtain ⟨x, d, hx, hd, hf⟩ := hget k _ hk
            obtain ⟨v, hv, hpa⟩ := hpre k _ x hk hx
            obtain ⟨d1, _, hkind⟩ := hio k i hk
            have hnf : ∀ d', ρ1[i]? ≠ some (.fz d') := fun d' z => by
              rcases hkind with ⟨⟨d0, h0⟩, _⟩ | ⟨⟨d0, h0⟩, _⟩ <;> (rw [z] at h0; cases h0)
            cases x with
            | some d' => cases ioOk_get hok k i _ hk hx
            | none =>
              obtain ⟨i', ei, hi'⟩ := hpa
              cases ei
              rcases hkind with ⟨⟨d0, h0⟩, _⟩ | ⟨⟨d0, h0⟩, _⟩
              · obtain ⟨p, g1, g2, g3⟩ := S1.ow i d0 (.inl h0)
                rw [hi'] at g1
                cases g1
                have : d0 = d := by simp [fin, h0] at hf; exact hf
                subst this
                exact ⟨p, d0, hv, hi', hd, .inl h0⟩
              · obtain ⟨p, g1, g2, g3⟩ := S1.ow i d0 (.inr h0)
                rw [hi'] at g1
                cases g1
                have : d0 = d := by simp [fin, h0] at hf; exact hf
                subst this
                exact ⟨p, d0, hv, hi', hd, .inr h0⟩
          have valAt : ∀ (k : Nat) (o : Opd), os[k]? = some o → o.isVal = true → ∃ v d, vs[k]? = some v ∧ ds[k]? = some d ∧ Rep K (fun b => M b ∨ OO ρ1 σ b) H1 v d := by
            intro k o hk ho
            obtain ⟨x, d, hx, hd, hf⟩ := hget k _ hk
            obtain ⟨v, hv, hpa⟩ := hpre k _ x hk hx
            cases x with
            | none =>
              obtain ⟨i, rfl, _⟩ := hpa
              cases ho
            | some d' =>
              have : d' = d := by
                cases o <;> (simp [fin] at hf; exact hf)
              subst this
              exact ⟨v, d', hv, hd, hpa⟩
          let σ0 : L2.St := vs.map some
          let ρ0 := initR (modes os) ds
          have hOO0 : ∀ b, OO ρ0 σ0 b ↔ ∃ k i : Nat, os[k]? = some (.bor i) ∧ σ[i]? = some (some (.ref b)) := by
            intro b
            constructor
            · rintro ⟨k, ⟨d, hk⟩, hb⟩
              have hk' : ρ0[k]? = some (.io d) := by
                rcases hk with hk | hk
                · obtain ⟨d', _, h | h⟩ := initR_get _ _ _ _ hk
                  · cases h.2
                  · cases h.2
                · exact hk
              obtain ⟨d', hd', h | h⟩ := initR_get _ _ _ _ hk'
              · cases h.2
              · obtain ⟨o, ho, hb'⟩ := modes_get h.1
                cases o with
                | val m => cases hb'
                | bor i =>
                  obtain ⟨p, d2, g1, g2, g3, g4⟩ := ioAt k i ho
                  have hb2 : (vs.map some)[k]? = some (some (.ref b)) := hb
                  rw [List.getElem?_map, g1] at hb2
                  cases hb2
                  exact ⟨k, i, ho, g2⟩
            · rintro ⟨k, i, hk, hb⟩
              obtain ⟨p, d2, g1, g2, g3, g4⟩ := ioAt k i hk
              rw [hb] at g2
              cases g2
              have hlt : k < ρ0.length := by
                have : ρ0.length = os.length := hinl.trans hmod
                rw [this]
                exact (List.getElem?_eq_some_iff.mp hk).1
              obtain ⟨d', hd', h⟩ := initR_get _ _ k _ (List.getElem?_eq_getElem hlt)
              have hm : (modes os)[k]? = some true := by
                unfold modes
                rw [List.getElem?_map, hk]; rfl
              refine ⟨k, ⟨d', .inr ?_⟩, ?_⟩
              · rw [List.getElem?_eq_getElem hlt]
                rcases h with h | h
                · rw [hm] at h; cases h.1
                · rw [h.2]
              · show (vs.map some)[k]? = _
                rw [List.getElem?_map, g1]; rfl
          have hio1 : ∀ b, OO ρ0 σ0 b → OO ρ1 σ b := fun b z => by
            obtain ⟨k, i, hk, hb⟩ := (hOO0 b).mp z
            obtain ⟨p, d2, g1, g2, g3, g4⟩ := ioAt k i hk
            exact ⟨i, ⟨d2, g4⟩, hb⟩
          let M' : Addr → Prop := fun b => M b ∨ (OO ρ1 σ b ∧ ¬ OO ρ0 σ0 b)
          have toM : ∀ b, (M' b ∨ OO ρ0 σ0 b) → (M b ∨ OO ρ1 σ b) := fun b z => by
            rcases z with (z | z) | z
            · exact .inl z
            · exact .inr z.1
            · exact .inr (hio1 b z)
          have fromM : ∀ b, (M b ∨ OO ρ1 σ b) → (M' b ∨ OO ρ0 σ0 b) := fun b z => by
            rcases z with z | z
            · exact .inl (.inl z)
            · by_cases h : OO ρ0 σ0 b
              · exact .inr h
              · exact .inl (.inr ⟨z, h⟩)
          have S0 : Sr K M' ρ0 σ0 H1 := by
            refine ⟨?_, fun k d hk => ?_, fun k d hk => ?_, fun k k' p hk hk' hp hp' => ?_, fun b z => z.elim (S1.mt b) fun z => S1.ooT z.1⟩
            · show (vs.map some).length = (initR (modes os) ds).length
              rw [List.length_map, hinl, hmod, hvl]
            · obtain ⟨d', hd', h | h⟩ := initR_get _ _ _ _ hk
              · obtain ⟨o, ho, hb'⟩ := modes_get h.1
                obtain ⟨v, d2, g1, g2, g3⟩ := valAt k o ho (by simpa using hb')
                cases h.2
                rw [hd'] at g2
                cases g2
                refine ⟨v, ?_, g3.less toM⟩
                show (vs.map some)[k]? = _
                rw [List.getElem?_map, g1]; rfl
              · cases h.2
            · have hk' : ρ0[k]? = some (.io d) := by
                rcases hk with hk | hk
                · obtain ⟨d', _, h | h⟩ := initR_get _ _ _ _ hk
                  · cases h.2
                  · cases h.2
                · exact hk
              obtain ⟨d', hd', h | h⟩ := initR_get _ _ _ _ hk'
              · cases h.2
              · obtain ⟨o, ho, hb'⟩ := modes_get h.1
                cases h.2
                cases o with
                | val m => cases hb'
                | bor i =>
                  obtain ⟨p, d2, g1, g2, g3, g4⟩ := ioAt k i ho
                  rw [hd'] at g3
                  cases g3
                  obtain ⟨p', q1, q2, q3⟩ := S1.ow i d g4
                  rw [g2] at q1
                  cases q1
                  refine ⟨p, ?_, fun z => ?_, q3.move (fun b o e n => ⟨e, fun z => n (toM b z)⟩) rfl⟩
                  · show (vs.map some)[k]? = _
                    rw [List.getElem?_map, g1]; rfl
                  · rcases z with z | z
                    · exact q2 z
                    · exact z.2 ((hOO0 p).mpr ⟨k, i, ho, g2⟩)
            · have key : ∀ k, Ows ρ0 k → σ0[k]? = some (some (.ref p)) → ∃ i, os[k]? = some (.bor i) ∧ σ[i]? = some (some (.ref p)) ∧ Ows ρ1 i := by
                rintro k ⟨d, hk⟩ hp
                have hk' : ρ0[k]? = some (.io d) := by
                  rcases hk with hk | hk
                  · obtain ⟨d', _, h | h⟩ := initR_get _ _ _ _ hk
                    · cases h.2
                    · cases h.2
                  · exact hk
                obtain ⟨d', hd', h | h⟩ := initR_get _ _ _ _ hk'
                · cases h.2
                · obtain ⟨o, ho, hb'⟩ := modes_get h.1
                  cases o with
                  | val m => cases hb'
                  | bor i =>
                    obtain ⟨p', d2, g1, g2, g3, g4⟩ := ioAt k i ho
                    have hp2 : (vs.map some)[k]? = some (some (.ref p)) := hp
                    rw [List.getElem?_map, g1] at hp2
                    cases hp2
                    exact ⟨i, ho, g2, d2, g4⟩
              obtain ⟨i, a1, a2, a3⟩ := key k hk hp
              obtain ⟨i', b1, b2, b3⟩ := key k' hk' hp'
              have := S1.inj i i' p a3 b3 a2 b2
              subst this
              exact apart_ix hap a1 b1
          refine ⟨M', ds, r, outs', ρc, by rw [hmod, hlen], by rw [hmod, hvl], S0, e3, hc, fun v H2 y R => ?_⟩
          -- behind the call
          have hows2 : ∀ j : Nat, Ows ρ' j ↔ Ows ρ1 j := fun j => by
            by_cases hj : ∃ k : Nat, os[k]? = some (.bor j)
            · obtain ⟨k, hk⟩ := hj
              obtain ⟨d, _, h | h⟩ := hio k j hk
              · obtain ⟨⟨d0, h0⟩, h1⟩ := h
                exact ⟨fun _ => ⟨d0, .inl h0⟩, fun _ => ⟨d, .inl h1⟩⟩
              · obtain ⟨⟨d0, h0⟩, h1⟩ := h
                exact ⟨fun _ => ⟨d0, .inr h0⟩, fun _ => ⟨d, .inr h1⟩⟩
            · have := hstay j fun k z => hj ⟨k, z⟩
              unfold Ows
              rw [this]
          have hOO2 : ∀ b, OO ρ' σ b ↔ OO ρ1 σ b := fun b => by
            constructor
            · rintro ⟨i, h1, h2⟩; exact ⟨i, (hows2 i).mp h1, h2⟩
            · rintro ⟨i, h1, h2⟩; exact ⟨i, (hows2 i).mpr h1, h2⟩
          have hOOc : ∀ b, OO ρc σ0 b ↔ OO ρ0 σ0 b := fun b => by
            constructor
            · rintro ⟨k, ⟨d, hk⟩, hb⟩
              have hk' : ρc[k]? = some (.io d) := by
                rcases hk with hk | hk
                · rcases hcget _ _ hk with h | ⟨_, d', h⟩
                  · cases h.2
                  · cases h
                · exact hk
              rcases hcget _ _ hk' with h | ⟨h, d', _⟩
              · cases h.2
              · obtain ⟨o, ho, hb'⟩ := modes_get h
                cases o with
                | val m => cases hb'
                | bor i =>
                  obtain ⟨p, d2, g1, g2, g3, g4⟩ := ioAt k i ho
                  have hb2 : (vs.map some)[k]? = some (some (.ref b)) := hb
                  rw [List.getElem?_map, g1] at hb2
                  cases hb2
                  exact (hOO0 b).mpr ⟨k, i, ho, g2⟩
            · intro z
              obtain ⟨k, i, hk, hb⟩ := (hOO0 b).mp z
              obtain ⟨p, d2, g1, g2, g3, g4⟩ := ioAt k i hk
              rw [hb] at g2
              cases g2
              obtain ⟨d, hd, _⟩ := hio k i hk
              refine ⟨k, ⟨d, .inr hd⟩, ?_⟩
              show (vs.map some)[k]? = _
              rw [List.getElem?_map, g1]; rfl
          have E12 : Ext (OO ρ1 σ) H1 (OO ρ' σ) H2 := ⟨fun b o e n => y.keep b o e fun z => n (hio1 b z), fun b z => .inl ((hOO2 b).mp z), y.live⟩
          have io12 : IoK ρ1 ρ' := by
            refine ⟨hl2, fun j d hd => ?_⟩
            by_cases hj : ∃ k : Nat, os[k]? = some (.bor j)
            · obtain ⟨k, hk⟩ := hj
              obtain ⟨d', _, h | h⟩ := hio k j hk
              · obtain ⟨⟨d0, h0⟩, h1⟩ := h
                rw [hd] at h0; cases h0
              · exact ⟨d', h.2⟩
            · exact ⟨d, by rw [hstay j fun k z => hj ⟨k, z⟩]; exact hd⟩
          obtain ⟨Sc, hh, hf⟩ := R.split
          have toM2 : ∀ b, (Mx M v r b ∨ OO ρ' σ b) → (Mx M' v r b ∨ OO ρc σ0 b) := fun b z => by
            rcases z with (z | z) | z
            · exact .inl (.inl (.inl z))
            · exact .inl (.inr z)
            · rcases fromM b (.inr ((hOO2 b).mp z)) with z | z
              · exact .inl (.inl z)
              · exact .inr ((hOOc b).mpr z)
          -- the new thing, if there is one, was nowhere
          have hnew : ∀ p, v = .ref p → (∃ d, r = .ow d) → H1 p = none := fun p h1 h2 => by
            rcases hf p h1 h2 with z | z
            · exact absurd (Sc.ooM ((hOOc p).mpr z)) fun h => h (.inr ⟨h1, h2⟩)
            · exact z
          have mv : ∀ b o, H1 b = some o → ¬ (M b ∨ OO ρ1 σ b) → H2 b = some o ∧ ¬ (Mx M v r b ∨ OO ρ' σ b) := fun b o e n => ⟨E12.keep b o e fun z => n (.inr z), fun z => by
            rcases z with (z | z) | z
            · exact n (.inl z)
            · rw [hnew b z.1 z.2] at e; cases e
            · exact n (.inr ((hOO2 b).mp z))⟩
          have S2 : Sr K (Mx M v r) ρ' σ H2 := by
            refine ⟨by rw [S1.len, hl2], fun j d hd => ?_, fun j d hd => ?_, fun j j' p h1 h2 => S1.inj j j' p ((hows2 j).mp h1) ((hows2 j').mp h2), fun b z => ?_⟩
            · have hj : ∀ k : Nat, os[k]? ≠ some (.bor j) := fun k hk => by
                obtain ⟨d', _, h | h⟩ := hio k j hk
                · rw [h.2] at hd; cases hd
                · rw [h.2] at hd; cases hd
              rw [hstay j hj] at hd
              obtain ⟨w, g1, g2⟩ := S1.fz j d hd
              exact ⟨w, g1, g2.move mv⟩
            · by_cases hj : ∃ k : Nat, os[k]? = some (.bor j)
              · obtain ⟨k, hk⟩ := hj
                obtain ⟨d', hd', hkind⟩ := hio k j hk
                have : d' = d := by
                  rcases hkind with h | h <;> (rw [h.2] at hd; rcases hd with hd | hd <;> cases hd; rfl)
                subst this
                obtain ⟨p, q1, q2, q3⟩ := Sc.ow k d' (.inr hd')
                obtain ⟨p', d2, g1, g2, g3, g4⟩ := ioAt k j hk
                have q1' : (vs.map some)[k]? = some (some (.ref p)) := q1
                rw [List.getElem?_map, g1] at q1'
                cases q1'
                exact ⟨p, g2, fun z => q2 (z.imp .inl id), q3.move (fun b o e n => ⟨e, fun z => n (toM2 b z)⟩) rfl⟩
              · rw [hstay j fun k z => hj ⟨k, z⟩] at hd
                obtain ⟨p, g1, g2, g3⟩ := S1.ow j d hd
                have np : ¬ OO ρ0 σ0 p := fun z => by
                  obtain ⟨k, i, hk, hb⟩ := (hOO0 p).mp z
                  obtain ⟨p', d2, a1, a2, a3, a4⟩ := ioAt k i hk
                  have := S1.inj i j p ⟨d2, a4⟩ ⟨d, hd⟩ hb g1
                  subst this
                  exact hj ⟨k, hk⟩
                refine ⟨p, g1, fun z => ?_, g3.move mv ?_⟩
                · rcases z with z | z
                  · exact g2 z
                  · exact g3.there (hnew p z.1 z.2)
                · cases q : H1 p with
                  | none => exact (g3.there q).elim
                  | some o => exact y.keep p o q np
            · rcases z with z | z
              · exact y.live b (S1.mt b z)
              · exact Sc.mt b (.inr z)
          have hh2 : Held K M (OO ρ' σ) H2 v r := by
            cases r with
            | fz d =>
              refine (show Rep K (fun b => M' b ∨ OO ρc σ0 b) H2 v d from hh).less fun b z => ?_
              · rcases z with z | z
                · exact .inl (.inl z)
                · rcases fromM b (.inr ((hOO2 b).mp z)) with z | z
                  · exact .inl z
                  · exact .inr ((hOOc b).mpr z)
            | ow d =>
              obtain ⟨p, rfl, np, ho⟩ := hh
              refine ⟨p, rfl, fun z => np (.inl z), ho.move (fun b o e n => ⟨e, fun z => n ?_⟩) rfl⟩
              rcases z with (z | z) | z
              · exact .inl (.inl (.inl z))
              · exact .inl (.inr z)
              · rcases fromM b (.inr ((hOO2 b).mp z)) with z | z
                · exact .inl (.inl z)
                · exact .inr ((hOOc b).mpr z)
            | un => exact hh.elim
            | io d => exact hh.elim
          exact k v H2 (x1.trans E12) (x2.trans io12) (Res.join S2 hh2 fun p h1 h2 => .inr (Classical.byContradiction fun q => x1.live p q (hnew p h1 h2)))
section
variable {X : Cx} {CX : CXT} {k : Nat} {f : Addr} {fd : FuncData} {ps : List Str} {E : XK} {x : Str} {e : Expr} {es : List Expr} {p pos : Pos} {m : List PyData → Option (Sl × List PyData)} {os : List Opd} {ms : List Bool}
theorem x_call (F : FnOk X.prog X.w X.K X.mg X.base CX k f fd ps (spM X.K ms m)) (hr : Room k X.A) (hg : Gl X x) (hm : X.mg x = some (.ref f)) (hk : PySem.W.keepIn X.K (.ref f) = true) (hb : Binds X.K fd ps []) (hx : Passes CX X E)
    (ha : XA X (e :: es) os) (hms : modes os = ms) (hdb : (x == ("__debug__" : Str)) = false := by decide) (he : starEach (e :: es) X.env = (false, eval e X.env) :: starEach es X.env := by rfl) (hpl : (backTo pos (starEach es X.env)).any (·.1) = false := by rfl) :
    XE X (.Call (.Name x p) (e :: es) [] pos) (eCall m os) := by
  refine pe_imp (pe_call F hr hg hm hk hb .nil hx ha hdb he hpl) fun σ H Q q => ?_
  have h := tM_call (E := E) q
  rw [hms] at h
  show pM X.K os σ H fun vs H1 => spM X.K ms m (vs ++ []) H1 Q E
  simpa using h
theorem x_call0 (F : FnOk X.prog X.w X.K X.mg X.base CX k f fd ps (spM X.K [] m)) (hr : Room k X.A) (hg : Gl X x) (hm : X.mg x = some (.ref f)) (hk : PySem.W.keepIn X.K (.ref f) = true) (hb : Binds X.K fd ps []) (hx : Passes CX X E) (hdb : (x == ("__debug__" : Str)) = false := by decide) :
    XE X (.Call (.Name x p) [] [] pos) (eCall m []) := by
  refine pe_imp (pe_call0 F hr hg hm hk hb .nil hx hdb) fun σ H Q q => ?_
  have h := pM_nil (tM_call (E := E) q)
  exact h
end

/-! ### a def's body -/
def ioOut : List Bool → Rho → Option (List PyData)
  | [], _ => some []
  | false :: ms, _ :: ρ => ioOut ms ρ
  | true :: ms, .io d :: ρ => (ioOut ms ρ).map (d :: ·)
  | _, _ => none
/-- what a def with n names, its parameters by ms, reckons by its body m -/
def fnM (n : Nat) (ms : List Bool) (m : SM) (ds : List PyData) : Option (Sl × List PyData) := if ds.length = ms.length then (m (initR ms ds ++ List.replicate (n - ms.length) .un)).bind fun o => match o with
    | .rt r ρ => (ioOut ms ρ).map fun os => (r, os)
    | .nx ρ => (ioOut ms ρ).map fun os => (.fz .none, os)
    | _ => none
  else none
theorem ioOut_spec : ∀ (ms : List Bool) (ρ : Rho) (os : List PyData), ioOut ms ρ = some os → ∃ ρ1, outR ms os = some ρ1 ∧ ∀ (k : Nat) (d : PyData), ρ1[k]? = some (.io d) → ρ[k]? = some (.io d)
  | [], _, _, e => by cases e; exact ⟨[], rfl, fun k d h => by simp at h⟩
  | false :: ms, [], _, e => by cases e
  | true :: ms, [], _, e => by cases e
  | false :: ms, s :: ρ, os, e => by
    obtain ⟨ρ1, h1, h2⟩ := ioOut_spec ms ρ os e
    refine ⟨.un :: ρ1, ?_, fun k d h => ?_⟩
    · unfold outR
      rw [h1]; rfl
    · cases k with
      | zero => simp at h
      | succ k => simpa using h2 k d (by simpa using h)
  | true :: ms, s :: ρ, os, e => by
    cases s with
    | io d0 =>
      cases e1 : ioOut ms ρ with
      | none => simp [ioOut, e1] at e
      | some os1 =>
        simp [ioOut, e1] at e
        subst e
        obtain ⟨ρ1, h1, h2⟩ := ioOut_spec ms ρ os1 e1
        refine ⟨.io d0 :: ρ1, ?_, fun k d h => ?_⟩
        · unfold outR
          rw [h1]; rfl
        · cases k with
          | zero => simpa using h
          | succ k => simpa using h2 k d (by simpa using h)
    | un => cases e
    | fz _ => cases e
    | ow _ => cases e
/-- unset slots behind -/
theorem Sr.pad {K : PySem.W.Frag} {M : Addr → Prop} {ρ : Rho} {σ : L2.St} {H : Hp} (S : Sr K M ρ σ H) (n : Nat) : Sr K M (ρ ++ List.replicate n .un) (σ ++ List.replicate n none) H ∧ ∀ b, OO (ρ ++ List.replicate n .un) (σ ++ List.replicate n none) b ↔ OO ρ σ b := by
  have get : ∀ (i : Nat) (s : Sl), (ρ ++ List.replicate n Sl.un)[i]? = some s → s ≠ .un → i < ρ.length ∧ ρ[i]? = some s ∧ (σ ++ List.replicate n none)[i]? = σ[i]? := fun i s e hs => by
    by_cases hi : i < ρ.length
    · rw [List.getElem?_append_left hi] at e
      exact ⟨hi, e, List.getElem?_append_left (by rw [S.len]; exact hi)⟩
    · rw [List.getElem?_append_right (by omega), List.getElem?_replicate] at e
      split at e
      · cases e; exact absurd rfl hs
      · cases e
  have ows : ∀ i, Ows (ρ ++ List.replicate n Sl.un) i ↔ Ows ρ i := fun i => by
    constructor
    · rintro ⟨d, e | e⟩
      · exact ⟨d, .inl (get i _ e (fun z => by cases z)).2.1⟩
      · exact ⟨d, .inr (get i _ e (fun z => by cases z)).2.1⟩
    · rintro ⟨d, e⟩
      have hi : i < ρ.length := by rcases e with e | e <;> exact (List.getElem?_eq_some_iff.mp e).1
      exact ⟨d, by rw [List.getElem?_append_left hi]; exact e⟩
  have hσ : ∀ i, Ows ρ i → (σ ++ List.replicate n none)[i]? = σ[i]? := fun i ⟨d, e⟩ => by
    have hi : i < ρ.length := by rcases e with e | e <;> exact (List.getElem?_eq_some_iff.mp e).1
    exact List.getElem?_append_left (by rw [S.len]; exact hi)
  have hoo : ∀ b, OO (ρ ++ List.replicate n .un) (σ ++ List.replicate n none) b ↔ OO ρ σ b := fun b => by
    constructor
    · rintro ⟨i, h1, h2⟩
      have h1 := (ows i).mp h1
      exact ⟨i, h1, by rw [← hσ i h1]; exact h2⟩
    · rintro ⟨i, h1, h2⟩
      exact ⟨i, (ows i).mpr h1, by rw [hσ i h1]; exact h2⟩
  refine ⟨⟨by simp [S.len], fun i d e => ?_, fun i d e => ?_, fun i j p h1 h2 h3 h4 => ?_, S.mt⟩, hoo⟩
  · obtain ⟨_, h1, h2⟩ := get i _ e (fun z => by cases z)
    obtain ⟨v, g1, g2⟩ := S.fz i d h1
    exact ⟨v, h2.trans g1, g2.less fun b z => z.imp id (hoo b).mp⟩
  · have hw := (ows i).mp ⟨d, e⟩
    have e' : ρ[i]? = some (.ow d) ∨ ρ[i]? = some (.io d) := e.imp (fun e => (get i _ e (fun z => by cases z)).2.1) fun e => (get i _ e (fun z => by cases z)).2.1
    obtain ⟨p, g1, g2, g3⟩ := S.ow i d e'
    exact ⟨p, (hσ i hw).trans g1, g2, g3.move (fun b o e n => ⟨e, fun z => n (z.imp id (hoo b).mp)⟩) rfl⟩
  · have w1 := (ows i).mp h1
    have w2 := (ows j).mp h2
    rw [hσ i w1] at h3
    rw [hσ j w2] at h4
    exact S.inj i j p w1 w2 h3 h4
theorem body_run {K : PySem.W.Frag} {n : Nat} {ms : List Bool} {m : SM} {vs : List V} {H : Hp} {Q : VK} {E : XK} (hn : ms.length ≤ n) (q : spM K ms (fnM n ms m) vs H Q E) : sM K m { nx := fun _ H' => Q .non H', rt := Q } (vs.map some ++ List.replicate (n - vs.length) none) H := by
  obtain ⟨M, ds, r, os, ρ1, hl, hvl, S, e, ho, k⟩ := q
  unfold fnM at e
  rw [if_pos hl] at e
  obtain ⟨SP, hoo⟩ := S.pad (n - ms.length)
  rw [hvl]
  cases e1 : m (initR ms ds ++ List.replicate (n - ms.length) .un) with
  | none => rw [e1] at e; cases e
  | some o =>
    rw [e1] at e
    simp only [Option.bind_some] at e
    refine ⟨M, _, o, SP, e1, ?_⟩
    -- what is left of the state at the end
    have fin : ∀ (ρ' : Rho) (r : Sl) (os : List PyData) (ρ1 : Rho), ioOut ms ρ' = some os → outR ms os = some ρ1 → ∀ v σ' H', Aft K M (initR ms ds ++ List.replicate (n - ms.length) .un) (vs.map some ++ List.replicate (n - ms.length) none) H ρ' σ' H' →
        Res K M (OO (initR ms ds ++ List.replicate (n - ms.length) .un) (vs.map some ++ List.replicate (n - ms.length) none)) H ρ' σ' v H' r →
        Ext (OO (initR ms ds) (vs.map some)) H (OO ρ1 (vs.map some)) H' ∧ Res K M (OO (initR ms ds) (vs.map some)) H ρ1 (vs.map some) v H' r := by
      intro ρ' r os ρ1 hio hou v σ' H' A R
      obtain ⟨ρ2, h1, h2⟩ := ioOut_spec ms ρ' os hio
      rw [hou] at h1
      cases h1
      obtain ⟨hcl, hcget⟩ := outR_get _ _ _ hou
      have hin := initR_len ms ds hl
      have kind : ∀ (i : Nat) (d : PyData), (ρ1[i]? = some (.ow d) ∨ ρ1[i]? = some (.io d)) → ρ1[i]? = some (.io d) ∧ ρ'[i]? = some (.io d) ∧ σ'[i]? = (vs.map some)[i]? ∧ Ows (initR ms ds) i := by
        intro i d e
        have e' : ρ1[i]? = some (.io d) := by
          rcases e with e | e
          · rcases hcget _ _ e with h | ⟨_, d', h⟩
            · cases h.2
            · cases h
          · exact e
        have hi : i < ms.length := by rw [← hcl]; exact (List.getElem?_eq_some_iff.mp e').1
        have hm : ms[i]? = some true := by
          rcases hcget _ _ e' with h | h
          · cases h.2
          · exact h.1
        obtain ⟨d0, hd0, hk⟩ := initR_get ms ds i _ (List.getElem?_eq_getElem (by rw [hin]; exact hi))
        have hini : (initR ms ds)[i]? = some (.io d0) := by
          rw [List.getElem?_eq_getElem (by rw [hin]; exact hi)]
          rcases hk with hk | hk
          · rw [hm] at hk; cases hk.1
          · rw [hk.2]
        have hst := A.st i d0 (by rw [List.getElem?_append_left (by rw [hin]; exact hi)]; exact hini)
        refine ⟨e', h2 i d e', ?_, d0, .inr hini⟩
        rw [hst, List.getElem?_append_left (by rw [List.length_map, hvl]; exact hi)]
      have hOO1 : ∀ b, OO ρ1 (vs.map some) b → OO ρ' σ' b ∧ OO (initR ms ds) (vs.map some) b := by
        rintro b ⟨i, ⟨d, e⟩, hb⟩
        obtain ⟨_, k2, k3, k4⟩ := kind i d e
        exact ⟨⟨i, ⟨d, .inr k2⟩, by rw [k3]; exact hb⟩, i, k4, hb⟩
      refine ⟨⟨fun b o e nb => A.ext.keep b o e fun z => nb ((hoo b).mp z), fun b z => .inl (hOO1 b z).2, A.ext.live⟩, ?_⟩
      obtain ⟨S', hh, hf⟩ := R.split
      refine Res.join (ρ' := ρ1) (σ' := vs.map some) ⟨by rw [List.length_map, hvl, hcl], fun i d e => ?_, fun i d e => ?_, fun i j p a b c d => ?_, S'.mt⟩ ?_ fun p h1 h2 => (hf p h1 h2).imp (hoo p).mp id
      · rcases hcget _ _ e with h | ⟨_, d', h⟩
        · cases h.2
        · cases h
      · obtain ⟨_, k2, k3, k4⟩ := kind i d e
        obtain ⟨p, g1, g2, g3⟩ := S'.ow i d (.inr k2)
        exact ⟨p, by rw [← k3]; exact g1, g2, g3.move (fun b o e nb => ⟨e, fun z => nb (z.imp id fun z => (hOO1 b z).1)⟩) rfl⟩
      · obtain ⟨da, a⟩ := a
        obtain ⟨db, b⟩ := b
        obtain ⟨_, a2, a3, _⟩ := kind i da a
        obtain ⟨_, b2, b3, _⟩ := kind j db b
        rw [← a3] at c
        rw [← b3] at d
        exact S'.inj i j p ⟨da, .inr a2⟩ ⟨db, .inr b2⟩ c d
      · cases r with
        | fz d => exact (show Rep K (fun b => M b ∨ OO ρ' σ' b) H' v d from hh).less fun b z => z.imp id fun z => (hOO1 b z).1
        | ow d =>
          obtain ⟨p, rfl, np, hw⟩ := hh
          exact ⟨p, rfl, np, hw.move (fun b o e nb => ⟨e, fun z => nb (z.imp id fun z => (hOO1 b z).1)⟩) rfl⟩
        | un => exact hh.elim
        | io d => exact hh.elim
    cases o with
    | rt r' ρ' =>
      simp only at e
      cases e2 : ioOut ms ρ' with
      | none => rw [e2] at e; cases e
      | some os' =>
        rw [e2] at e
        cases e
        intro v σ' H' A R
        obtain ⟨h1, h2⟩ := fin ρ' r os ρ1 e2 ho v σ' H' A R
        exact k v H' h1 h2
    | nx ρ' =>
      simp only at e
      cases e2 : ioOut ms ρ' with
      | none => rw [e2] at e; cases e
      | some os' =>
        rw [e2] at e
        cases e
        intro σ' H' A S'
        obtain ⟨h1, h2⟩ := fin ρ' (.fz .none) os ρ1 e2 ho .non σ' H' A ⟨S', .non⟩
        exact k .non H' h1 h2
    | bk _ => cases e
    | ct _ => cases e
section
variable {P : Program} {w : World} {K : PySem.W.Frag} {mg : Str → Option Value} {base : Heap}
theorem def_ok {x qual : Str} {st : Stmt} {f : Addr} {fd : FuncData} {N ps : List Str} {k : Nat} {ms : List Bool} {m : SM} (F : Fun K x qual st f fd) (S : FnScope N ps (defScope st)) (hps : ps.length = ms.length) (hN : ms.length ≤ N.length)
    (hbody : ∀ (cdv : Value) (A : Around) (outer : List Env) (s : Shared) (H : Hp) (E : XK), Room k (A.deeper (envOfC qual (defScope st) s.heap.objs.size f cdv)) → XSs (cxOf CX0 P w K mg base N qual (defScope st) f cdv A outer s H E).nox (defBody st) m) :
    FnOk P w K mg base CX0 (k + 1) f fd ps (spM K ms (fnM N.length ms m)) := by
  refine F.ok S (fun vs H Q E h => ?_) (fun cdv A outer s H vs Q E hr h => ?_)
  · obtain ⟨M, ds, r, os, ρ1, hl, hvl, _⟩ := h
    rw [hvl, hps]
  · exact ⟨_, hbody cdv A outer s H E hr, body_run hN h⟩
end
end Vw

set_option Elab.async false
set_option linter.all false
set_option maxRecDepth 100000
/-! operations by values -/
namespace Vw
open PySem L2 PyProof.Rows

/-- two operands -/
theorem fnD2 {K : PySem.W.Frag} {r : R2} {g : List PyData → Option Sl} (h : ∀ (A : Addr → Prop) (x y : V) (ds : List PyData) (H : Hp) (s : Sl) (Q : VK), Live A H → RepTs K A H [x, y] ds → g ds = some s → (∀ v H', Same H H' → VRes K A H v H' s → Q v H') → r x y H Q) : FnD K (r2 r) g := by
  intro A vs ds H s Q hA hr e k x y hv
  subst hv
  exact h A x y ds H s Q hA hr e k
theorem FnD.or {K : PySem.W.Frag} {r r' : R2} {g g' : List PyData → Option Sl} (h : FnD K (r2 r) g) (h' : FnD K (r2 r') g') : FnD K (r2 fun x y H Q => r x y H Q ∨ r' x y H Q) (fun ds => (g ds).or (g' ds)) := by
  intro A vs ds H s Q hA hr e k x y hv
  cases e1 : g ds with
  | some s' =>
    simp only [e1, Option.some_or] at e
    cases e
    exact .inl (h A vs ds H s Q hA hr e1 k x y hv)
  | none =>
    simp only [e1, Option.none_or] at e
    exact .inr (h' A vs ds H s Q hA hr e k x y hv)
section
variable {K : PySem.W.Frag} {A : Addr → Prop} {H : Hp}
theorem RepTs.two {vs : List V} {a b : PyData} (h : RepTs K A H vs [a, b]) : ∃ x y, vs = [x, y] ∧ RepT K A H x a ∧ RepT K A H y b := by
  cases h with
  | cons h t =>
    cases t with
    | cons h' t =>
      cases t
      exact ⟨_, _, rfl, h, h'⟩
theorem RepTs.one {vs : List V} {a : PyData} (h : RepTs K A H vs [a]) : ∃ x, vs = [x] ∧ RepT K A H x a := by
  cases h with
  | cons h t =>
    cases t
    exact ⟨_, rfl, h⟩
theorem RepT.two {x y : V} {a b : PyData} (h : RepTs K A H [x, y] [a, b]) : RepT K A H x a ∧ RepT K A H y b := by
  obtain ⟨x', y', e, h1, h2⟩ := h.two
  cases e
  exact ⟨h1, h2⟩
end
/-! ### whole numbers -/
def gI (c : Int → Int → Bool) (f : Int → Int → Int) : List PyData → Option Sl
  | [.int i, .int j] => if c i j = true then some (.fz (.int (f i j))) else none
  | _ => none
def gIB (f : Int → Int → Bool) : List PyData → Option Sl
  | [.int i, .int j] => some (.fz (.bool (f i j)))
  | _ => none
theorem fnI {K : PySem.W.Frag} {C : Int → Int → Prop} {c : Int → Int → Bool} {f : Int → Int → Int} (hc : ∀ i j, c i j = true → C i j) : FnD K (r2 (rI C fun i j => .int (f i j))) (gI c f) := fnD2 fun A x y ds H s Q hA hr e k => by
  unfold gI at e
  split at e
  · rename_i i j
    split at e
    · rename_i h
      cases e
      obtain ⟨h1, h2⟩ := RepT.two hr
      exact ⟨i, j, h1.int, h2.int, hc i j h, k _ H (Same.refl H) (.int _)⟩
    · cases e
  · cases e
theorem fnI0 {K : PySem.W.Frag} {f : Int → Int → Int} : FnD K (r2 (rI0 fun i j => .int (f i j))) (gI (fun _ _ => true) f) := fnD2 fun A x y ds H s Q hA hr e k => by
  unfold gI at e
  split at e
  · rename_i i j
    cases e
    obtain ⟨h1, h2⟩ := RepT.two hr
    exact ⟨i, j, h1.int, h2.int, k _ H (Same.refl H) (.int _)⟩
  · cases e
theorem fnIB {K : PySem.W.Frag} {f : Int → Int → Bool} : FnD K (r2 (rI0 fun i j => .bl (f i j))) (gIB f) := fnD2 fun A x y ds H s Q hA hr e k => by
  unfold gIB at e
  split at e
  · rename_i i j
    cases e
    obtain ⟨h1, h2⟩ := RepT.two hr
    exact ⟨i, j, h1.int, h2.int, k _ H (Same.refl H) (.bl _)⟩
  · cases e
def gSub : List PyData → Option Sl := gI (fun _ _ => true) (· - ·)
def gMul : List PyData → Option Sl := gI (fun i j => decide (i.natAbs.log2 + j.natAbs.log2 < 1000000)) (· * ·)
def gDiv : List PyData → Option Sl := gI (fun i j => decide (0 < j ∧ j.natAbs.log2 < 9000)) (· / ·)
def gMod : List PyData → Option Sl := gI (fun i j => decide (0 < j)) (· % ·)
def gPow : List PyData → Option Sl := gI (fun i j => decide (0 ≤ j ∧ j ≤ 1000000 ∧ i.natAbs < 2 ^ 64)) (fun i j => i ^ j.toNat)
def gLt : List PyData → Option Sl := gIB fun i j => decide (i < j)
def gLe : List PyData → Option Sl := gIB fun i j => decide (i ≤ j)
def gGt : List PyData → Option Sl := gIB fun i j => decide (j < i)
def gGe : List PyData → Option Sl := gIB fun i j => decide (j ≤ i)
def gNeg : List PyData → Option Sl
  | [.int i] => some (.fz (.int (-i)))
  | _ => none
/-! ### + -/
def gAddS : List PyData → Option Sl
  | [.str x, .str y] => if x.length + y.length ≤ sizeLine then some (.fz (.str (x ++ y))) else none
  | _ => none
def gAddT : List PyData → Option Sl
  | [.tuple x, .tuple y] => if x.length + y.length ≤ sizeLine then some (.fz (.tuple (x ++ y))) else none
  | _ => none
def gAddL : List PyData → Option Sl
  | [.list x, .list y] => if x.length + y.length ≤ sizeLine then some (.ow (.list (x ++ y))) else none
  | _ => none
theorem fnAddS {K : PySem.W.Frag} : FnD K (r2 fun x y H Q => ∃ i j, x = .str i ∧ y = .str j ∧ i.length + j.length ≤ sizeLine ∧ Q (.str (i ++ j)) H) gAddS := fnD2 fun A x y ds H s Q hA hr e k => by
  unfold gAddS at e
  split at e
  · rename_i i j
    split at e
    · rename_i h
      cases e
      obtain ⟨h1, h2⟩ := RepT.two hr
      exact ⟨i, j, h1.str, h2.str, h, k _ H (Same.refl H) (.str _)⟩
    · cases e
  · cases e
theorem fnAddT {K : PySem.W.Frag} : FnD K (r2 (rCatA K)) gAddT := fnD2 fun A x y ds H s Q hA hr e k => by
  unfold gAddT at e
  split at e
  · rename_i i j
    split at e
    · rename_i h
      cases e
      obtain ⟨h1, h2⟩ := RepT.two hr
      have t1 := h1.tupRep
      have t2 := h2.tupRep
      obtain ⟨p, xs, rfl, a1, a2⟩ := h1.tup
      obtain ⟨q, ys, rfl, b1, b2⟩ := h2.tup
      have l1 := a2.length
      have l2 := b2.length
      refine ⟨p, q, xs, ys, rfl, rfl, a1, b1, by omega, fun hx => ?_, fun hx hy => ?_, fun hx hy p' n => k _ _ (same_upd n _) (new_tup (a2.append b2) hA n)⟩
      · subst hx
        cases a2
        exact k _ H (Same.refl H) t2
      · subst hy
        cases b2
        rw [List.append_nil] at k
        exact k _ H (Same.refl H) t1
    · cases e
  · cases e
theorem fnAddL {K : PySem.W.Frag} : FnD K (r2 rCat) gAddL := fnD2 fun A x y ds H s Q hA hr e k => by
  unfold gAddL at e
  split at e
  · rename_i i j
    split at e
    · rename_i h
      cases e
      obtain ⟨h1, h2⟩ := RepT.two hr
      obtain ⟨p, xs, rfl, a1, a2⟩ := h1.lst
      obtain ⟨q, ys, rfl, b1, b2⟩ := h2.lst
      have l1 := a2.length
      have l2 := b2.length
      exact ⟨p, q, xs, ys, rfl, rfl, a1, b1, by omega, fun p' n => k _ _ (same_upd n _) ⟨p', rfl, n, new_lst (a2.append b2) n⟩⟩
    · cases e
  · cases e
/-- + -/
def gAdd (ds : List PyData) : Option Sl := match ds with
  | [.int i, .int j] => some (.fz (.int (i + j)))
  | [.str x, .str y] => if x.length + y.length ≤ sizeLine then some (.fz (.str (x ++ y))) else none
  | [.tuple x, .tuple y] => if x.length + y.length ≤ sizeLine then some (.fz (.tuple (x ++ y))) else none
  | [.list x, .list y] => if x.length + y.length ≤ sizeLine then some (.ow (.list (x ++ y))) else none
  | _ => none
theorem fnAdd {K : PySem.W.Frag} : FnD K (r2 fun x y H Q => (((rI0 fun i j => .int (i + j)) x y H Q ∨ ∃ i j, x = .str i ∧ y = .str j ∧ i.length + j.length ≤ sizeLine ∧ Q (.str (i ++ j)) H) ∨ rCatA K x y H Q) ∨ rCat x y H Q) gAdd := by
  have h := ((fnI0 (K := K) (f := fun i j => i + j)).or fnAddS).or fnAddT |>.or fnAddL
  intro A vs ds H s Q hA hr e k
  refine h A vs ds H s Q hA hr ?_ k
  rw [← e]
  unfold gAdd
  split
  · rfl
  · simp [gI, gAddS, gAddT, gAddL]
  · simp [gI, gAddS, gAddT, gAddL]
  · simp [gI, gAddS, gAddT, gAddL]
  · rename_i h1 h2 h3 h4
    have a1 : gI (fun _ _ => true) (fun i j => i + j) ds = none := by
      unfold gI
      split
      · exact absurd rfl (h1 _ _)
      · rfl
    have a2 : gAddS ds = none := by
      unfold gAddS
      split
      · exact absurd rfl (h2 _ _)
      · rfl
    have a3 : gAddT ds = none := by
      unfold gAddT
      split
      · exact absurd rfl (h3 _ _)
      · rfl
    have a4 : gAddL ds = none := by
      unfold gAddL
      split
      · exact absurd rfl (h4 _ _)
      · rfl
    simp only [a1, a2, a3, a4, Option.none_or]
/-! ### ==, is, in -/
mutual
theorem Rep.dp {K : PySem.W.Frag} {A : Addr → Prop} {H : Hp} : ∀ {v : V} {d : PyData}, Rep K A H v d → d.canLay0 = true → Dp K H v d
  | _, _, .non, _ => .non
  | _, _, .bl b, _ => .bl b
  | _, _, .int b, _ => .int b
  | _, _, .str b, _ => .str b
  | _, _, .lst _ h t, e => .lst (SqL.of h) (RepAll.dp t (by simpa [PyData.canLay0] using e))
  | _, _, .tup _ h t, e => .tup (.inl h) (RepAll.dp t (by simpa [PyData.canLay0] using e))
  | _, _, .tupK h t, e => .tup (.inr h) (RepAll.dp t (by simpa [PyData.canLay0] using e))
  | _, _, .dG _ _ _ _ _, e => by simp [PyData.canLay0] at e
  | _, _, .obj _ _ _ _ _ _ _ _, e => by simp [PyData.canLay0] at e
  | _, _, .obj0 _ _ _, e => by simp [PyData.canLay0] at e
theorem RepAll.dp {K : PySem.W.Frag} {A : Addr → Prop} {H : Hp} : ∀ {vs : List V} {ds : List PyData}, RepAll K A H vs ds → PyData.canLayAll0 ds = true → DpAll K H vs ds
  | _, _, .nil, _ => .nil
  | _, _, .cons h t, e => by
    simp only [PyData.canLayAll0, Bool.and_eq_true] at e
    exact .cons (Rep.dp h e.1) (RepAll.dp t e.2)
end
theorem RepT.dp {K : PySem.W.Frag} {A : Addr → Prop} {H : Hp} {v : V} {d : PyData} (h : RepT K A H v d) (e : SeqAt.shaped d = true) : Dp K H v d := by
  have e' := SeqAt.canLay_of_shaped e
  rcases h with h | ⟨p, rfl, h⟩
  · exact h.dp e'
  · cases d with
    | list ds =>
      obtain ⟨xs, h1, h2⟩ := h
      exact .lst (SqL.of h1) (h2.dp (by simpa [PyData.canLay0] using e'))
    | dict ds => simp [PyData.canLay0] at e'
    | _ => exact h.elim
def bothStr : PyData → PyData → Bool
  | .str _, .str _ => true
  | _, _ => false
theorem bothStr_of {a b : PyData} (h : bothStr a b = true) : ∃ x y, a = .str x ∧ b = .str y := by
  unfold bothStr at h
  split at h
  · exact ⟨_, _, rfl, rfl⟩
  · cases h
def gEq : List PyData → Option Sl
  | [a, b] => if bothStr a b = true ∨ (SeqAt.shaped a = true ∧ SeqAt.shaped b = true) then some (.fz (.bool (PyData.eqv a b))) else none
  | _ => none
def gNe : List PyData → Option Sl
  | [a, b] => if bothStr a b = true ∨ (SeqAt.shaped a = true ∧ SeqAt.shaped b = true) then some (.fz (.bool (!PyData.eqv a b))) else none
  | _ => none
theorem fnEq {K : PySem.W.Frag} : FnD K (r2 (fun x y H Q => rEqD K x y H Q ∨ rEq x y H Q)) gEq := fnD2 fun A x y ds H s Q hA hr e k => by
  unfold gEq at e
  split at e
  · rename_i a b
    split at e
    · rename_i h
      cases e
      obtain ⟨h1, h2⟩ := RepT.two hr
      rcases h with h | h
      · obtain ⟨i, j, rfl, rfl⟩ := bothStr_of h
        rw [h1.str, h2.str]
        refine .inr ⟨rfl, ?_⟩
        rw [dec_str]
        exact k _ H (Same.refl H) (.bl _)
      · exact .inl ⟨a, b, h1.dp h.1, h2.dp h.2, h.1, h.2, k _ H (Same.refl H) (.bl _)⟩
    · cases e
  · cases e
theorem fnNe {K : PySem.W.Frag} : FnD K (r2 (fun x y H Q => rNeD K x y H Q ∨ rNe x y H Q)) gNe := fnD2 fun A x y ds H s Q hA hr e k => by
  unfold gNe at e
  split at e
  · rename_i a b
    split at e
    · rename_i h
      cases e
      obtain ⟨h1, h2⟩ := RepT.two hr
      rcases h with h | h
      · obtain ⟨i, j, rfl, rfl⟩ := bothStr_of h
        rw [h1.str, h2.str]
        refine .inr ⟨rfl, ?_⟩
        rw [dec_str]
        exact k _ H (Same.refl H) (.bl _)
      · exact .inl ⟨a, b, h1.dp h.1, h2.dp h.2, h.1, h.2, k _ H (Same.refl H) (.bl _)⟩
    · cases e
  · cases e
def isNone : PyData → Bool
  | .none => true
  | _ => false
theorem RepT.isNone {K : PySem.W.Frag} {A : Addr → Prop} {H : Hp} {v : V} {d : PyData} (h : RepT K A H v d) : decide (v = .non) = isNone d := by
  rcases h with h | ⟨p, rfl, h⟩
  · cases h <;> rfl
  · cases d with
    | list ds => rfl
    | dict ds => rfl
    | _ => exact h.elim
def gIsN : List PyData → Option Sl
  | [d, .none] => some (.fz (.bool (isNone d)))
  | _ => none
def gNotN : List PyData → Option Sl
  | [d, .none] => some (.fz (.bool (!isNone d)))
  | _ => none
theorem fnIsN {K : PySem.W.Frag} : FnD K (r2 fun x y H Q => y = .non ∧ Q (.bl (decide (x = .non))) H) gIsN := fnD2 fun A x y ds H s Q hA hr e k => by
  unfold gIsN at e
  split at e
  · cases e
    obtain ⟨h1, h2⟩ := RepT.two hr
    exact ⟨h2.non, by rw [h1.isNone]; exact k _ H (Same.refl H) (.bl _)⟩
  · cases e
theorem fnNotN {K : PySem.W.Frag} : FnD K (r2 fun x y H Q => y = .non ∧ Q (.bl (!decide (x = .non))) H) gNotN := fnD2 fun A x y ds H s Q hA hr e k => by
  unfold gNotN at e
  split at e
  · cases e
    obtain ⟨h1, h2⟩ := RepT.two hr
    exact ⟨h2.non, by rw [h1.isNone]; exact k _ H (Same.refl H) (.bl _)⟩
  · cases e
def flatD : PyData → Bool
  | .none | .bool _ | .int _ | .str _ => true
  | _ => false
theorem rep_flat {K : PySem.W.Frag} {A : Addr → Prop} {H : Hp} {v : V} {d : PyData} (h : Rep K A H v d) (f : flatD d = true) : flatV v = true := by
  cases h <;> first | rfl | cases f
theorem rep_eqV {K : PySem.W.Frag} {A : Addr → Prop} {H : Hp} {v w : V} {d e : PyData} (h : Rep K A H v d) (h' : Rep K A H w e) (f : flatD d = true) (f' : flatD e = true) : eqV v w = PyData.eqv d e := by
  cases h <;> first | (cases f; done) | (cases h' <;> first | (cases f'; done) | simp [eqV, PyData.eqv])
theorem RepT.flat {K : PySem.W.Frag} {A : Addr → Prop} {H : Hp} {v : V} {d : PyData} (h : RepT K A H v d) (f : flatD d = true) : Rep K A H v d := by
  rcases h with h | ⟨p, rfl, h⟩
  · exact h
  · cases d <;> first | exact h.elim | cases f
theorem repAll_flat {K : PySem.W.Frag} {A : Addr → Prop} {H : Hp} : ∀ {vs : List V} {ds : List PyData}, RepAll K A H vs ds → ds.all flatD = true → vs.all flatV = true
  | _, _, .nil, _ => rfl
  | _, _, .cons h t, f => by
    simp only [List.all_cons, Bool.and_eq_true] at f ⊢
    exact ⟨rep_flat h f.1, repAll_flat t f.2⟩
theorem repAll_in {K : PySem.W.Frag} {A : Addr → Prop} {H : Hp} {x : V} {d : PyData} (hx : Rep K A H x d) (fx : flatD d = true) : ∀ {vs : List V} {ds : List PyData}, RepAll K A H vs ds → ds.all flatD = true → inV x vs = ds.any fun e => PyData.eqv e d
  | _, _, .nil, _ => rfl
  | _, _, .cons h t, f => by
    simp only [List.all_cons, Bool.and_eq_true] at f
    have ih := repAll_in hx fx t f.2
    unfold inV at ih ⊢
    rw [List.any_cons, List.any_cons, ih, rep_eqV h hx f.1 fx]
def inD (neg : Bool) : List PyData → Option Sl
  | [d, .list ds] => if SeqAt.shaped d = true ∧ SeqAt.shaped (.list ds) = true then some (.fz (.bool (neg ^^ ds.any fun e => PyData.eqv e d))) else none
  | [d, .tuple ds] => if flatD d = true ∧ ds.all flatD = true then some (.fz (.bool (neg ^^ ds.any fun e => PyData.eqv e d))) else none
  | [.str x, .str y] => some (.fz (.bool (neg ^^ !(Builtin.Str.occurrences y x 0 y.length 1).isEmpty)))
  | _ => none
def gIn := inD false
def gNotIn := inD true
def rInA (K : PySem.W.Frag) (neg : Bool) : R2 := fun x y H Q => (if neg then rNotInD K x y H Q else rInD K x y H Q) ∨ rIn K neg x y H Q ∨ ∃ i j, x = .str i ∧ y = .str j ∧ Q (.bl (neg ^^ !(Builtin.Str.occurrences j i 0 j.length 1).isEmpty)) H
theorem op_inA {X : Cx} (hu : X.A.units + 65 < cLine) : OpR X (compareOp .In) (rInA X.K false) := by
  intro pins s σ H x y v u Q I rx ry h
  rcases h with h | h | h
  · exact op_inD hu pins s σ H x y v u Q I rx ry h
  · exact op_in_seq pins s σ H x y v u Q I rx ry h
  · obtain ⟨i, j, h1, h2, h3⟩ := h
    exact op_in_str pins s σ H x y v u Q I rx ry ⟨i, j, h1, h2, by simpa using h3⟩
theorem op_notInA {X : Cx} (hu : X.A.units + 65 < cLine) : OpR X (compareOp .NotIn) (rInA X.K true) := by
  intro pins s σ H x y v u Q I rx ry h
  rcases h with h | h | h
  · exact op_notInD hu pins s σ H x y v u Q I rx ry h
  · exact op_notIn_seq pins s σ H x y v u Q I rx ry h
  · obtain ⟨i, j, h1, h2, h3⟩ := h
    exact op_notin_str pins s σ H x y v u Q I rx ry ⟨i, j, h1, h2, by simpa using h3⟩
theorem fnInA {K : PySem.W.Frag} {neg : Bool} : FnD K (r2 (rInA K neg)) (inD neg) := fnD2 fun A x y ds H s Q hA hr e k => by
  unfold inD at e
  split at e
  · rename_i d es
    split at e
    · rename_i h
      cases e
      obtain ⟨h1, h2⟩ := RepT.two hr
      refine .inl ?_
      cases neg with
      | false => exact ⟨d, es, h1.dp h.1, h2.dp h.2, h.1, h.2, by simpa using k _ H (Same.refl H) (.bl _)⟩
      | true => exact ⟨d, es, h1.dp h.1, h2.dp h.2, h.1, h.2, by simpa using k _ H (Same.refl H) (.bl _)⟩
    · cases e
  · rename_i d es
    split at e
    · rename_i h
      cases e
      obtain ⟨h1, h2⟩ := RepT.two hr
      have h1' := h1.flat h.1
      obtain ⟨p, xs, rfl, a1, a2⟩ := h2.tup
      refine .inr (.inl ⟨p, xs, rfl, .inr a1, rep_flat h1' h.1, repAll_flat a2 h.2, ?_⟩)
      rw [repAll_in h1' h.1 a2 h.2]
      have := k (.bl (neg ^^ es.any fun e => PyData.eqv e d)) H (Same.refl H) (.bl _)
      cases neg <;> simpa using this
    · cases e
  · rename_i i j
    cases e
    obtain ⟨h1, h2⟩ := RepT.two hr
    exact .inr (.inr ⟨i, j, h1.str, h2.str, k _ H (Same.refl H) (.bl _)⟩)
  · cases e
/-! ### items, parts -/
def gIx : List PyData → Option Sl
  | [.list ds, .int i] => (atI ds i).map .fz
  | [.tuple ds, .int i] => (atI ds i).map .fz
  | [.str z, .int i] => if z.length ≤ sizeLine then (atI z.cps.toList i).map fun c => .fz (.str ⟨#[c]⟩) else none
  | _ => none
theorem atI_rep {K : PySem.W.Frag} {A : Addr → Prop} {H : Hp} {xs : List V} {ds : List PyData} {i : Int} {d : PyData} (h : RepAll K A H xs ds) (e : atI ds i = some d) : ∃ v, atI xs i = some v ∧ Rep K A H v d := by
  unfold atI at e ⊢
  rw [h.length]
  cases e1 : ixN ds.length i with
  | none => rw [e1] at e; cases e
  | some j =>
    rw [e1] at e
    simp only [Option.bind_some] at e ⊢
    exact h.get e
theorem fnIx {K : PySem.W.Frag} : FnD K (r2 (rIx K)) gIx := fnD2 fun A x y ds H s Q hA hr e k => by
  unfold gIx at e
  split at e
  · rename_i es i
    cases e1 : atI es i with
    | none => rw [e1] at e; cases e
    | some d =>
      rw [e1] at e
      cases e
      obtain ⟨h1, h2⟩ := RepT.two hr
      obtain ⟨p, xs, rfl, a1, a2⟩ := h1.lst
      obtain ⟨v, b1, b2⟩ := atI_rep a2 e1
      exact .inl ⟨p, xs, i, v, rfl, h2.int, SqL.of a1, b1, k _ H (Same.refl H) b2⟩
  · rename_i es i
    cases e1 : atI es i with
    | none => rw [e1] at e; cases e
    | some d =>
      rw [e1] at e
      cases e
      obtain ⟨h1, h2⟩ := RepT.two hr
      obtain ⟨p, xs, rfl, a1, a2⟩ := h1.tup
      obtain ⟨v, b1, b2⟩ := atI_rep a2 e1
      exact .inr (.inl ⟨p, xs, i, v, rfl, h2.int, a1, b1, k _ H (Same.refl H) b2⟩)
  · rename_i z i
    split at e
    · rename_i hz
      cases e1 : atI z.cps.toList i with
      | none => rw [e1] at e; cases e
      | some c =>
        rw [e1] at e
        cases e
        obtain ⟨h1, h2⟩ := RepT.two hr
        exact .inr (.inr ⟨z, i, c, h1.str, h2.int, hz, e1, k _ H (Same.refl H) (.str _)⟩)
    · cases e
  · cases e
end Vw

set_option Elab.async false
set_option linter.all false
set_option maxRecDepth 100000
/-! parts, built-in functions -/
namespace Vw
open PySem L2 PyProof.Rows

theorem oM_mono {K : PySem.W.Frag} {o : Opd} {σ : L2.St} {H : Hp} {Q Q' : VK} (q : oM K o σ H Q) (h : ∀ v H', Q v H' → Q' v H') : oM K o σ H Q' := by
  obtain ⟨M, ρ, x, ρ', S, e, k⟩ := q
  exact ⟨M, ρ, x, ρ', S, e, fun v H' x1 x2 x3 x4 => h v H' (k v H' x1 x2 x3 x4)⟩
/-! ### slices -/
def cutD {α : Type} (xs : List α) (lo hi : Option Int) : List α := (xs.drop (HT.sIx xs.length 0 lo)).take (HT.sIx xs.length xs.length hi - HT.sIx xs.length 0 lo)
def gCut (lo hi : Option Int) : PyData → Option Sl
  | .list ds => some (.ow (.list (cutD ds lo hi)))
  | .tuple ds => some (.fz (.tuple (cutD ds lo hi)))
  | .str z => if z.length ≤ sizeLine then some (.fz (.str (cutS z lo hi))) else none
  | _ => none
theorem repAll_cut {K : PySem.W.Frag} {A : Addr → Prop} {H : Hp} {xs : List V} {ds : List PyData} (h : RepAll K A H xs ds) (lo hi : Option Int) : RepAll K A H (cutV xs lo hi) (cutD ds lo hi) := by
  unfold cutV cutD
  rw [h.length]
  exact (h.drop _).take _
theorem cut_whole {α : Type} {xs : List α} {lo hi : Option Int} (h : HT.sIx xs.length 0 lo = 0 ∧ HT.sIx xs.length xs.length hi = xs.length) : cutD xs lo hi = xs := by
  unfold cutD
  rw [h.1, h.2]
  simp
def rSlD (K : PySem.W.Frag) : V → Option Int → Option Int → Hp → VK → Prop := fun x lo hi H Q => (rSlL K x lo hi H Q ∨ rSlA K x lo hi H Q) ∨ rSlS x lo hi H Q
theorem sl_D {X : Cx} : SlR X (rSlD X.K) := (sl_list.or sl_tupA).or sl_str
theorem cut_ok {K : PySem.W.Frag} {A : Addr → Prop} {H : Hp} {x : V} {d : PyData} {lo hi : Option Int} {s : Sl} {Q : VK} (hA : Live A H) (h : RepT K A H x d) (e : gCut lo hi d = some s) (k : ∀ v H', Same H H' → VRes K A H v H' s → Q v H') : rSlD K x lo hi H Q := by
  unfold gCut at e
  split at e
  · cases e
    obtain ⟨p, xs, rfl, a1, a2⟩ := h.lst
    exact .inl (.inl ⟨p, xs, rfl, SqL.of a1, fun p' n => k _ _ (same_upd n _) ⟨p', rfl, n, new_lst (repAll_cut a2 lo hi) n⟩⟩)
  · cases e
    have t := h.tupRep
    obtain ⟨p, xs, rfl, a1, a2⟩ := h.tup
    refine .inl (.inr ⟨p, xs, rfl, a1, fun hw => ?_, fun hw p' n => k _ _ (same_upd n _) (new_tup (repAll_cut a2 lo hi) hA n)⟩)
    rw [a2.length] at hw
    rw [cut_whole hw] at k
    exact k _ H (Same.refl H) t
  · rename_i z
    split at e
    · rename_i hz
      cases e
      exact .inr ⟨z, h.str, hz, k _ H (Same.refl H) (.str _)⟩
    · cases e
  · cases e
/-- a slice's bound -/
def partM : Option EM → Rho → Option (Option Int × Rho)
  | none, ρ => some (none, ρ)
  | some m, ρ => (m ρ).bind fun p => match p.1 with
    | .fz (.int i) => some (some i, p.2)
    | _ => none
def tO (K : PySem.W.Frag) (p : Option EM) : TO := fun σ H Q => ∃ M ρ o ρ', Sr K M ρ σ H ∧ partM p ρ = some (o, ρ') ∧ ∀ H', Ext (OO ρ σ) H (OO ρ' σ) H' → IoK ρ ρ' → Sr K M ρ' σ H' → Q o H'
theorem po_imp {X : Cx} {e : Option Expr} {t t' : TO} (h : PO X e t) (i : ∀ σ H Q, t' σ H Q → t σ H Q) : PO X e t' := ⟨fun pins s σ H Q I q => h.run pins s σ H Q I (i σ H Q q)⟩
abbrev XPO (X : Cx) (e : Option Expr) (p : Option EM) : Prop := PO X e (tO X.K p)
def eSl (o : Opd) (lo hi : Option EM) : EM := fun ρ => (pre o ρ).bind fun p => (partM lo p.2).bind fun l => (partM hi l.2).bind fun u => (fin o p.1 u.2).bind fun d => (gCut l.1 u.1 d).map fun s => (s, u.2)
section
variable {X : Cx} {a : Expr} {lo hi : Option Expr} {o : Opd} {ml mh : Option EM} {pos p2 : Pos}
theorem o_none : XPO X none none := po_imp po_none fun σ H Q q => by
  obtain ⟨M, ρ, x, ρ', S, e, k⟩ := q
  cases e
  exact k H Ext.refl (IoK.refl _) S
theorem o_some {e : Expr} {m : EM} (h : XE X e m) : XPO X (some e) (some m) := po_imp (po_some h) fun σ H Q q => by
  obtain ⟨M, ρ, x, ρ', S, e, k⟩ := q
  unfold partM at e
  simp only at e
  refine tM_bind (R := fun _ _ _ => True) S e fun r ρ1 v H1 _ e1 x1 x2 R => ?_
  split at e1
  · rename_i i hi
    have hi' : r = .fz (.int i) := hi
    subst hi'
    cases e1
    obtain ⟨S1, rp⟩ := R
    cases rp
    exact ⟨i, rfl, k H1 x1 x2 S1⟩
  · cases e1
theorem x_slice (ha : XO X a o) (hl : XPO X lo ml) (hh : XPO X hi mh) : XE X (.Subscript a (.Slice lo hi none p2) pos) (eSl o ml mh) := pe_imp (pe_slice sl_D ha hl hh) fun σ H Q q => by
  obtain ⟨M, ρ, s, ρ', S, e, k⟩ := q
  unfold eSl at e
  cases e1 : pre o ρ with
  | none => rw [e1] at e; cases e
  | some p =>
    obtain ⟨x, ρ1⟩ := p
    rw [e1] at e
    simp only [Option.bind_some] at e
    cases e2 : partM ml ρ1 with
    | none => rw [e2] at e; cases e
    | some p =>
      obtain ⟨l, ρ2⟩ := p
      rw [e2] at e
      simp only [Option.bind_some] at e
      cases e3 : partM mh ρ2 with
      | none => rw [e3] at e; cases e
      | some p =>
        obtain ⟨u, ρ3⟩ := p
        rw [e3] at e
        simp only [Option.bind_some] at e
        cases e4 : fin o x ρ3 with
        | none => rw [e4] at e; cases e
        | some d =>
          rw [e4] at e
          simp only [Option.bind_some] at e
          cases e5 : gCut l u d with
          | none => rw [e5] at e; cases e
          | some s' =>
            rw [e5] at e
            cases e
            refine ⟨M, ρ, x, ρ1, S, e1, fun v H1 x1 x2 S1 p1 => ⟨M, ρ1, l, ρ2, S1, e2, fun H2 y1 y2 S2 => ⟨M, ρ2, u, _, S2, e3, fun H3 z1 z2 S3 => ?_⟩⟩⟩
            have ex := (x1.trans y1).trans z1
            exact cut_ok S3.liveA (fin_rep S3 ((p1.ext y1).ext z1) e4) e5 fun v' H4 sm hv => k v' H4 (ex.trans (Ext.same sm)) ((x2.trans y2).trans z2) (hv.res S3 ex.live sm)
end
/-! ### x < y < z -/
def eChain (g g' : List PyData → Option Sl) (a b c : Opd) : EM := fun ρ => (pre a ρ).bind fun p => (pre b p.2).bind fun q => (fin a p.1 q.2).bind fun d => (fin b q.1 q.2).bind fun e => (g [d, e]).bind fun s => match s with
  | .fz (.bool k) => if k = true then (pre c q.2).bind fun r => (fin b q.1 r.2).bind fun e' => (fin c r.1 r.2).bind fun f => (g' [e', f]).map fun s => (s, r.2)
      else some (.fz (.bool false), q.2)
  | _ => none
theorem tM_chain {K : PySem.W.Frag} {r r' : R2} {g g' : List PyData → Option Sl} (hg : FnD K (r2 r) g) (hg' : FnD K (r2 r') g') {a b c : Opd} {σ : L2.St} {H : Hp} {Q : VK} (q : tM K (eChain g g' a b c) σ H Q) : tChain r r' (oM K a) (oM K b) (oM K c) σ H Q := by
  obtain ⟨M, ρ, s, ρ', S, e, k⟩ := q
  unfold eChain at e
  cases e1 : pre a ρ with
  | none => rw [e1] at e; cases e
  | some p =>
    obtain ⟨x, ρ1⟩ := p
    rw [e1] at e
    simp only [Option.bind_some] at e
    cases e2 : pre b ρ1 with
    | none => rw [e2] at e; cases e
    | some p =>
      obtain ⟨y, ρ2⟩ := p
      rw [e2] at e
      simp only [Option.bind_some] at e
      cases e3 : fin a x ρ2 with
      | none => rw [e3] at e; cases e
      | some d =>
        rw [e3] at e
        simp only [Option.bind_some] at e
        cases e4 : fin b y ρ2 with
        | none => rw [e4] at e; cases e
        | some d2 =>
          rw [e4] at e
          simp only [Option.bind_some] at e
          cases e5 : g [d, d2] with
          | none => rw [e5] at e; cases e
          | some s1 =>
            rw [e5] at e
            simp only [Option.bind_some] at e
            refine ⟨M, ρ, x, ρ1, S, e1, fun v H1 x1 x2 S1 p1 => ⟨M, ρ1, y, ρ2, S1, e2, fun w H2 y1 y2 S2 p2 => ?_⟩⟩
            refine hg _ [v, w] [d, d2] H2 s1 _ S2.liveA (.cons (fin_rep S2 (p1.ext y1) e3) (.cons (fin_rep S2 p2 e4) .nil)) e5 (fun z H3 sm hz => ?_) v w rfl
            split at e
            · rename_i kk
              cases hz
              have S3 := S2.same sm
              have ex := (x1.trans y1).trans (Ext.same sm)
              refine ⟨kk, rfl, ?_⟩
              cases kk with
              | false =>
                simp only [Bool.false_eq_true, if_false] at e
                cases e
                exact iteF (k _ H3 ex (x2.trans y2) ⟨S3, .bl false⟩)
              | true =>
                simp only [if_true] at e
                refine iteT ?_
                cases e6 : pre c ρ2 with
                | none => rw [e6] at e; cases e
                | some p =>
                  obtain ⟨z, ρ3⟩ := p
                  rw [e6] at e
                  simp only [Option.bind_some] at e
                  cases e7 : fin b y ρ3 with
                  | none => rw [e7] at e; cases e
                  | some d3 =>
                    rw [e7] at e
                    simp only [Option.bind_some] at e
                    cases e8 : fin c z ρ3 with
                    | none => rw [e8] at e; cases e
                    | some d4 =>
                      rw [e8] at e
                      simp only [Option.bind_some] at e
                      cases e9 : g' [d3, d4] with
                      | none => rw [e9] at e; cases e
                      | some s9 =>
                        rw [e9] at e
                        cases e
                        refine ⟨M, ρ2, z, _, S3, e6, fun u H4 z1 z2 S4 p4 => ?_⟩
                        refine hg' _ [w, u] [d3, d4] H4 s _ S4.liveA (.cons (fin_rep S4 ((p2.ext (Ext.same sm)).ext z1) e7) (.cons (fin_rep S4 p4 e8) .nil)) e9 (fun v' H5 sm5 hv => ?_) w u rfl
                        exact k v' H5 ((ex.trans z1).trans (Ext.same sm5)) ((x2.trans y2).trans z2) (hv.res S4 (ex.trans z1).live sm5)
            · cases e
section
variable {X : Cx} {a b c : Expr} {oa ob oc : Opd} {pos : Pos} {g g' : List PyData → Option Sl}
theorem x_chain {op op' : CmpOp} {r r' : R2} (ho : OpR X (compareOp op) r) (ho' : OpR X (compareOp op') r') (hg : FnD X.K (r2 r) g) (hg' : FnD X.K (r2 r') g') (ha : XO X a oa) (hb : XO X b ob) (hc : XO X c oc) (hm : lastMarks [op, op'] [b, c] = false := by first | exact nomark2 _ _ (by decide) (by decide) | rfl) : XE X (.Compare a [op, op'] [b, c] pos) (eChain g g' oa ob oc) :=
  pe_imp (pe_chain ho ho' ha hb hc hm) fun _ _ _ q => tM_chain hg hg' q
theorem t_chain {op op' : CmpOp} {r r' : R2} (ho : OpR X (compareOp op) r) (ho' : OpR X (compareOp op') r') (hg : FnD X.K (r2 r) g) (hg' : FnD X.K (r2 r') g') (ha : XO X a oa) (hb : XO X b ob) (hc : XO X c oc) (hm : lastMarks [op, op'] [b, c] = false := by rfl) : XT X (.Compare a [op, op'] [b, c] pos) (bOf (eChain g g' oa ob oc)) :=
  pt_imp (pt_chain ho ho' ha hb hc hm) fun σ H Q q => by
    have h := tM_chain hg hg' (bM_of q)
    exact h
end
/-! ### truth -/
def truD : PyData → Option Bool
  | .none => some false
  | .bool b => some b
  | .int i => some (i != 0)
  | .str y => if y.length ≤ sizeLine then some ((y.length : Int) != 0) else none
  | .list ds => some !ds.isEmpty
  | .tuple ds => some !ds.isEmpty
  | .dict _ => none
def bTru (o : Opd) : BM := fun ρ => (pre o ρ).bind fun p => (fin o p.1 p.2).bind fun d => (truD d).map fun b => (b, p.2)
theorem isEmpty_rep {K : PySem.W.Frag} {A : Addr → Prop} {H : Hp} {xs : List V} {ds : List PyData} (h : RepAll K A H xs ds) : xs.isEmpty = ds.isEmpty := by
  cases h <;> rfl
theorem tru_rep {K : PySem.W.Frag} {A : Addr → Prop} {H : Hp} {x : V} {d : PyData} {b : Bool} (h : RepT K A H x d) (e : truD d = some b) : TruV K x H b := by
  cases d with
  | none => rw [h.non]; cases e; rfl
  | bool k => rw [h.bl]; cases e; rfl
  | int i => rw [h.int]; cases e; rfl
  | str y =>
    rw [h.str]
    simp only [truD] at e
    split at e
    · rename_i hy; cases e; exact ⟨hy, rfl⟩
    · cases e
  | list ds =>
    obtain ⟨p, xs, rfl, a1, a2⟩ := h.lst
    cases e
    exact .inl ⟨xs, SqL.of a1, by rw [isEmpty_rep a2]⟩
  | tuple ds =>
    obtain ⟨p, xs, rfl, a1, a2⟩ := h.tup
    cases e
    exact .inr (.inl ⟨xs, a1, by rw [isEmpty_rep a2]⟩)
  | dict ds => cases e
theorem t_tru {X : Cx} {a : Expr} {o : Opd} (ha : XO X a o) (he : ∀ whole, isTrue a X.env whole = (do let v ← whole; standAt a.pos; holding [v] (truthy v)) := by intro _; rfl) : XT X a (bTru o) := pt_imp (pt_truth ha he) fun σ H Q q => by
  obtain ⟨M, ρ, b, ρ', S, e, k⟩ := q
  unfold bTru at e
  cases e1 : pre o ρ with
  | none => rw [e1] at e; cases e
  | some p =>
    obtain ⟨x, ρ1⟩ := p
    rw [e1] at e
    simp only [Option.bind_some] at e
    cases e2 : fin o x ρ1 with
    | none => rw [e2] at e; cases e
    | some d =>
      rw [e2] at e
      simp only [Option.bind_some] at e
      cases e3 : truD d with
      | none => rw [e3] at e; cases e
      | some b' =>
        rw [e3] at e
        cases e
        exact ⟨M, ρ, x, _, S, e1, fun v H1 x1 x2 S1 p1 => ⟨b, tru_rep (fin_rep S1 p1 e2) e3, k H1 x1 x2 S1⟩⟩
/-! ### len -/
def gLen : List PyData → Option Sl
  | [.str y] => if y.length ≤ sizeLine then some (.fz (.int y.length)) else none
  | [.list ds] => some (.fz (.int ds.length))
  | [.tuple ds] => some (.fz (.int ds.length))
  | _ => none
def rLen (K : PySem.W.Frag) : List V → Hp → VK → Prop := fun xs H Q => ∃ x n, xs = [x] ∧ LenV K x H n ∧ Q (.int n) H
theorem fnLen {K : PySem.W.Frag} : FnD K (rLen K) gLen := fun A vs ds H s Q hA hr e k => by
  unfold gLen at e
  split at e
  · rename_i y
    split at e
    · rename_i hy
      cases e
      obtain ⟨x, rfl, h⟩ := hr.one
      rw [h.str]
      exact ⟨_, y.length, rfl, ⟨hy, rfl⟩, k _ H (Same.refl H) (.int _)⟩
    · cases e
  · rename_i es
    cases e
    obtain ⟨x, rfl, h⟩ := hr.one
    obtain ⟨p, xs, rfl, a1, a2⟩ := h.lst
    exact ⟨_, xs.length, rfl, .inl ⟨xs, SqL.of a1, rfl⟩, k _ H (Same.refl H) (by rw [a2.length]; exact .int _)⟩
  · rename_i es
    cases e
    obtain ⟨x, rfl, h⟩ := hr.one
    obtain ⟨p, xs, rfl, a1, a2⟩ := h.tup
    exact ⟨_, xs.length, rfl, .inr ⟨xs, a1, rfl⟩, k _ H (Same.refl H) (by rw [a2.length]; exact .int _)⟩
  · cases e
theorem c_len {X : Cx} : CallR X (.builtin "len") (rLen X.K) := call_len
/-! ### int, list, tuple, abs, min, max of two -/
def gInt : List PyData → Option Sl
  | [.int i] => some (.fz (.int i))
  | [.bool k] => some (.fz (.int (if k then 1 else 0)))
  | _ => none
def rInt : List V → Hp → VK → Prop := fun xs H Q => (∃ i, xs = [.int i] ∧ Q (.int i) H) ∨ ∃ k, xs = [.bl k] ∧ Q (.int (if k then 1 else 0)) H
theorem fnInt {K : PySem.W.Frag} : FnD K rInt gInt := fun A vs ds H s Q hA hr e k => by
  unfold gInt at e
  split at e
  · cases e
    obtain ⟨x, rfl, h⟩ := hr.one
    exact .inl ⟨_, by rw [h.int], k _ H (Same.refl H) (.int _)⟩
  · cases e
    obtain ⟨x, rfl, h⟩ := hr.one
    exact .inr ⟨_, by rw [h.bl], k _ H (Same.refl H) (.int _)⟩
  · cases e
theorem c_int {X : Cx} : CallR X (.type "int") rInt := call_int1
def gList : List PyData → Option Sl
  | [.list ds] => some (.ow (.list ds))
  | [.tuple ds] => some (.ow (.list ds))
  | _ => none
def rList (K : PySem.W.Frag) : List V → Hp → VK → Prop := fun xs H Q => ∃ p ys, xs = [.ref p] ∧ (SqL K H p ys ∨ SqT K H p ys) ∧ ∀ l, H l = none → Q (.ref l) (upd H l (.lst ys))
theorem fnList {K : PySem.W.Frag} : FnD K (rList K) gList := fun A vs ds H s Q hA hr e k => by
  unfold gList at e
  split at e
  · cases e
    obtain ⟨x, rfl, h⟩ := hr.one
    obtain ⟨p, xs, rfl, a1, a2⟩ := h.lst
    exact ⟨p, xs, rfl, .inl (SqL.of a1), fun l n => k _ _ (same_upd n _) ⟨l, rfl, n, new_lst a2 n⟩⟩
  · cases e
    obtain ⟨x, rfl, h⟩ := hr.one
    obtain ⟨p, xs, rfl, a1, a2⟩ := h.tup
    exact ⟨p, xs, rfl, .inr a1, fun l n => k _ _ (same_upd n _) ⟨l, rfl, n, new_lst a2 n⟩⟩
  · cases e
theorem c_list {X : Cx} : CallR X (.type "list") (rList X.K) := call_list_of
def gTuple : List PyData → Option Sl
  | [.list ds] => some (.fz (.tuple ds))
  | [.tuple ds] => some (.fz (.tuple ds))
  | _ => none
def rTuple (K : PySem.W.Frag) : List V → Hp → VK → Prop := fun xs H Q => ∃ p ys, xs = [.ref p] ∧ ((SqL K H p ys ∧ ∀ l, H l = none → Q (.ref l) (upd H l (.tup ys))) ∨ (SqT K H p ys ∧ Q (.ref p) H))
theorem fnTuple {K : PySem.W.Frag} : FnD K (rTuple K) gTuple := fun A vs ds H s Q hA hr e k => by
  unfold gTuple at e
  split at e
  · cases e
    obtain ⟨x, rfl, h⟩ := hr.one
    obtain ⟨p, xs, rfl, a1, a2⟩ := h.lst
    exact ⟨p, xs, rfl, .inl ⟨SqL.of a1, fun l n => k _ _ (same_upd n _) (new_tup a2 hA n)⟩⟩
  · cases e
    obtain ⟨x, rfl, h⟩ := hr.one
    have t := h.tupRep
    obtain ⟨p, xs, rfl, a1, a2⟩ := h.tup
    exact ⟨p, xs, rfl, .inr ⟨a1, k _ H (Same.refl H) t⟩⟩
  · cases e
theorem c_tuple {X : Cx} : CallR X (.type "tuple") (rTuple X.K) := call_tuple_of
def gAbs : List PyData → Option Sl
  | [.int i] => some (.fz (.int (if i < 0 then -i else i)))
  | _ => none
def rAbs : List V → Hp → VK → Prop := fun xs H Q => ∃ i, xs = [.int i] ∧ Q (.int (if i < 0 then -i else i)) H
theorem fnAbs {K : PySem.W.Frag} : FnD K rAbs gAbs := fun A vs ds H s Q hA hr e k => by
  unfold gAbs at e
  split at e
  · cases e
    obtain ⟨x, rfl, h⟩ := hr.one
    exact ⟨_, by rw [h.int], k _ H (Same.refl H) (.int _)⟩
  · cases e
theorem c_abs {X : Cx} : CallR X (.builtin "abs") rAbs := call_abs
/-! ### ints, bools in a list -/
def intsOf : List PyData → Option (List Int)
  | [] => some []
  | .int i :: ds => (intsOf ds).map (i :: ·)
  | _ => none
def boolsOf : List PyData → Option (List Bool)
  | [] => some []
  | .bool i :: ds => (boolsOf ds).map (i :: ·)
  | _ => none
theorem intsOf_eq : ∀ {ds : List PyData} {ns : List Int}, intsOf ds = some ns → ds = ns.map .int
  | [], ns, e => by cases e; rfl
  | .int i :: ds, ns, e => by
    simp only [intsOf] at e
    cases e1 : intsOf ds with
    | none => rw [e1] at e; cases e
    | some ms => rw [e1] at e; cases e; rw [intsOf_eq e1]; rfl
  | .none :: _, _, e => by cases e
  | .bool _ :: _, _, e => by cases e
  | .str _ :: _, _, e => by cases e
  | .list _ :: _, _, e => by cases e
  | .tuple _ :: _, _, e => by cases e
  | .dict _ :: _, _, e => by cases e
theorem intsOf_map : ∀ ns : List Int, intsOf (ns.map .int) = some ns
  | [] => rfl
  | n :: ns => by
    show (intsOf (ns.map .int)).map (n :: ·) = _
    rw [intsOf_map ns]; rfl
theorem boolsOf_eq : ∀ {ds : List PyData} {ns : List Bool}, boolsOf ds = some ns → ds = ns.map .bool
  | [], ns, e => by cases e; rfl
  | .bool i :: ds, ns, e => by
    simp only [boolsOf] at e
    cases e1 : boolsOf ds with
    | none => rw [e1] at e; cases e
    | some ms => rw [e1] at e; cases e; rw [boolsOf_eq e1]; rfl
  | .none :: _, _, e => by cases e
  | .int _ :: _, _, e => by cases e
  | .str _ :: _, _, e => by cases e
  | .list _ :: _, _, e => by cases e
  | .tuple _ :: _, _, e => by cases e
  | .dict _ :: _, _, e => by cases e
theorem boolsOf_map : ∀ ns : List Bool, boolsOf (ns.map .bool) = some ns
  | [] => rfl
  | n :: ns => by
    show (boolsOf (ns.map .bool)).map (n :: ·) = _
    rw [boolsOf_map ns]; rfl
def gAll : List PyData → Option Sl
  | [.list ds] => (boolsOf ds).map fun bs => .fz (.bool (bs.all id))
  | _ => none
def gAny : List PyData → Option Sl
  | [.list ds] => (boolsOf ds).map fun bs => .fz (.bool (bs.any id))
  | _ => none
theorem fnAll {K : PySem.W.Frag} : FnD K (rAll K) gAll := fun A vs ds H s Q hA hr e k => by
  unfold gAll at e
  split at e
  · rename_i es
    cases e1 : boolsOf es with
    | none => rw [e1] at e; cases e
    | some bs =>
      rw [e1] at e
      cases e
      obtain ⟨x, rfl, h⟩ := hr.one
      obtain ⟨p, xs, rfl, a1, a2⟩ := h.lst
      rw [boolsOf_eq e1] at a2
      exact ⟨p, bs, rfl, by rw [← a2.bls]; exact SqL.of a1, k _ H (Same.refl H) (.bl _)⟩
  · cases e
theorem fnAny {K : PySem.W.Frag} : FnD K (rAny K) gAny := fun A vs ds H s Q hA hr e k => by
  unfold gAny at e
  split at e
  · rename_i es
    cases e1 : boolsOf es with
    | none => rw [e1] at e; cases e
    | some bs =>
      rw [e1] at e
      cases e
      obtain ⟨x, rfl, h⟩ := hr.one
      obtain ⟨p, xs, rfl, a1, a2⟩ := h.lst
      rw [boolsOf_eq e1] at a2
      exact ⟨p, bs, rfl, by rw [← a2.bls]; exact SqL.of a1, k _ H (Same.refl H) (.bl _)⟩
  · cases e
def gSum : List PyData → Option Sl
  | [.list ds] => (intsOf ds).map fun bs => .fz (.int bs.sum)
  | _ => none
theorem fnSum {K : PySem.W.Frag} : FnD K (rSum K) gSum := fun A vs ds H s Q hA hr e k => by
  unfold gSum at e
  split at e
  · rename_i es
    cases e1 : intsOf es with
    | none => rw [e1] at e; cases e
    | some bs =>
      rw [e1] at e
      cases e
      obtain ⟨x, rfl, h⟩ := hr.one
      obtain ⟨p, xs, rfl, a1, a2⟩ := h.lst
      rw [intsOf_eq e1] at a2
      exact ⟨p, bs, rfl, by rw [← a2.ints]; exact SqL.of a1, k _ H (Same.refl H) (.int _)⟩
  · cases e
/-- the least, the greatest of some ints -/
def minI : List Int → Option Int
  | [] => none
  | [a] => some a
  | a :: b :: r => (minI (b :: r)).map fun m => if m < a then m else a
def maxI : List Int → Option Int
  | [] => none
  | [a] => some a
  | a :: b :: r => (maxI (b :: r)).map fun m => if a < m then m else a
theorem minI_spec : ∀ {ns : List Int} {m : Int}, minI ns = some m → m ∈ ns ∧ ∀ y ∈ ns, m ≤ y
  | [], m, e => by cases e
  | [a], m, e => by cases e; simp
  | a :: b :: r, m, e => by
    simp only [minI] at e
    cases e1 : minI (b :: r) with
    | none => rw [e1] at e; cases e
    | some m' =>
      rw [e1] at e
      obtain ⟨h1, h2⟩ := minI_spec e1
      simp only [Option.map_some, Option.some.injEq] at e
      subst e
      split
      · rename_i hlt
        refine ⟨List.mem_cons_of_mem _ h1, fun y hy => ?_⟩
        rcases List.mem_cons.mp hy with rfl | hy
        · omega
        · exact h2 y hy
      · rename_i hlt
        refine ⟨List.mem_cons_self, fun y hy => ?_⟩
        rcases List.mem_cons.mp hy with rfl | hy
        · omega
        · have := h2 y hy; omega
theorem maxI_spec : ∀ {ns : List Int} {m : Int}, maxI ns = some m → m ∈ ns ∧ ∀ y ∈ ns, y ≤ m
  | [], m, e => by cases e
  | [a], m, e => by cases e; simp
  | a :: b :: r, m, e => by
    simp only [maxI] at e
    cases e1 : maxI (b :: r) with
    | none => rw [e1] at e; cases e
    | some m' =>
      rw [e1] at e
      obtain ⟨h1, h2⟩ := maxI_spec e1
      simp only [Option.map_some, Option.some.injEq] at e
      subst e
      split
      · rename_i hlt
        refine ⟨List.mem_cons_of_mem _ h1, fun y hy => ?_⟩
        rcases List.mem_cons.mp hy with rfl | hy
        · omega
        · exact h2 y hy
      · rename_i hlt
        refine ⟨List.mem_cons_self, fun y hy => ?_⟩
        rcases List.mem_cons.mp hy with rfl | hy
        · omega
        · have := h2 y hy; omega
def gMin : List PyData → Option Sl
  | [.list ds] => (intsOf ds).bind fun ns => (minI ns).map fun m => .fz (.int m)
  | [.int i, .int j] => some (.fz (.int (if j < i then j else i)))
  | _ => none
def gMax : List PyData → Option Sl
  | [.list ds] => (intsOf ds).bind fun ns => (maxI ns).map fun m => .fz (.int m)
  | [.int i, .int j] => some (.fz (.int (if j > i then j else i)))
  | _ => none
def rMinA (K : PySem.W.Frag) : List V → Hp → VK → Prop := fun xs H Q => rMin K xs H Q ∨ ∃ i j, xs = [.int i, .int j] ∧ Q (.int (if j < i then j else i)) H
def rMaxA (K : PySem.W.Frag) : List V → Hp → VK → Prop := fun xs H Q => rMax K xs H Q ∨ ∃ i j, xs = [.int i, .int j] ∧ Q (.int (if j > i then j else i)) H
theorem c_min {X : Cx} (hc : X.calm = true) : CallR X (.builtin "min") (rMinA X.K) := (cr_min hc).or (call_min2 hc)
theorem c_max {X : Cx} (hc : X.calm = true) : CallR X (.builtin "max") (rMaxA X.K) := (cr_max hc).or (call_max2 hc)
theorem fnMin {K : PySem.W.Frag} : FnD K (rMinA K) gMin := fun A vs ds H s Q hA hr e k => by
  unfold gMin at e
  split at e
  · rename_i es
    cases e1 : intsOf es with
    | none => rw [e1] at e; cases e
    | some bs =>
      rw [e1] at e
      simp only [Option.bind_some] at e
      cases e2 : minI bs with
      | none => rw [e2] at e; cases e
      | some m =>
        rw [e2] at e
        cases e
        obtain ⟨x, rfl, h⟩ := hr.one
        obtain ⟨p, xs, rfl, a1, a2⟩ := h.lst
        rw [intsOf_eq e1] at a2
        obtain ⟨h1, h2⟩ := minI_spec e2
        refine .inl ⟨p, bs, rfl, by rw [← a2.ints]; exact SqL.of a1, List.length_pos_of_mem h1, fun m' hm hle => ?_⟩
        have : m' = m := Int.le_antisymm (hle m h1) (h2 m' hm)
        subst this
        exact k _ H (Same.refl H) (.int _)
  · cases e
    obtain ⟨x, y, rfl, h, h'⟩ := hr.two
    exact .inr ⟨_, _, by rw [h.int, h'.int], k _ H (Same.refl H) (.int _)⟩
  · cases e
theorem fnMax {K : PySem.W.Frag} : FnD K (rMaxA K) gMax := fun A vs ds H s Q hA hr e k => by
  unfold gMax at e
  split at e
  · rename_i es
    cases e1 : intsOf es with
    | none => rw [e1] at e; cases e
    | some bs =>
      rw [e1] at e
      simp only [Option.bind_some] at e
      cases e2 : maxI bs with
      | none => rw [e2] at e; cases e
      | some m =>
        rw [e2] at e
        cases e
        obtain ⟨x, rfl, h⟩ := hr.one
        obtain ⟨p, xs, rfl, a1, a2⟩ := h.lst
        rw [intsOf_eq e1] at a2
        obtain ⟨h1, h2⟩ := maxI_spec e2
        refine .inl ⟨p, bs, rfl, by rw [← a2.ints]; exact SqL.of a1, List.length_pos_of_mem h1, fun m' hm hle => ?_⟩
        have : m' = m := Int.le_antisymm (h2 m' hm) (hle m h1)
        subst this
        exact k _ H (Same.refl H) (.int _)
  · cases e
    obtain ⟨x, y, rfl, h, h'⟩ := hr.two
    exact .inr ⟨_, _, by rw [h.int, h'.int], k _ H (Same.refl H) (.int _)⟩
  · cases e
/-! ### isinstance of a built-in class -/
def kindD : PyData → String
  | .none => "NoneType"
  | .bool _ => "bool"
  | .int _ => "int"
  | .str _ => "str"
  | .list _ => "list"
  | .tuple _ => "tuple"
  | .dict _ => "dict"
def plainO : PyData → Bool
  | .dict ds => plainD ds
  | _ => true
/-- is a thing of the kind a one of class b -/
def isaD (b : String) (d : PyData) : Bool := (kindD d == b || (b == "int" && kindD d == "bool")) && (b != "dict" || plainO d)
/-- an object of a class of one's own -/
def ObD (K : PySem.W.Frag) (H : Hp) (v : V) (d : PyData) : Prop := ∃ (a C : Addr) (n : Str) (es : List (Str × PyData)), d = .dict (objL n es) ∧ v = .ref a ∧ ObC K n C ∧ ((∃ dx fs, H a = some (exo a C (some dx)) ∧ H dx = some (exd dx fs)) ∨ H a = some (ExO (.ref C) a))
/-- what is known of its type; a dict with tuple keys that is being walked beside the library's own kinds -/
def TyD (K : PySem.W.Frag) (H : Hp) (v : V) (d : PyData) : Prop := (plainO d = true ∧ (TyX K H v (.type (kindD d)) ∨ (kindD d = "dict" ∧ ∃ a es ep, v = .ref a ∧ H a = some (DicO a es ep)))) ∨ ObD K H v d
theorem plain_ok {ds : List (PyData × PyData)} (h : ∀ d ∈ ds.map (·.1), okK d) : plainD ds = true := by
  unfold plainD
  split
  · obtain ⟨k, z, _⟩ := h _ (by simp only [List.map_cons]; exact List.mem_cons_self)
    cases z
  · rfl
theorem kindD_ty {K : PySem.W.Frag} {A : Addr → Prop} {H : Hp} {v : V} {d : PyData} (h : RepT K A H v d) : TyD K H v d := by
  rcases h with h | ⟨p, rfl, h⟩
  · cases h with
    | non => exact .inl ⟨rfl, .inl (.base .non)⟩
    | bl b => exact .inl ⟨rfl, .inl (.base (.bl b))⟩
    | int b => exact .inl ⟨rfl, .inl (.base (.int b))⟩
    | str b => exact .inl ⟨rfl, .inl (.base (.str b))⟩
    | lst na h t => exact .inl ⟨rfl, .inl (.base (.lst h))⟩
    | tup na h t =>
      rcases h with h | ⟨o, h⟩
      · exact .inl ⟨rfl, .inl (.base (.tup h))⟩
      · exact .inl ⟨rfl, .inl (.fTuple h)⟩
    | tupK h t =>
      obtain ⟨o, its, n, h1, h2, _⟩ := h
      exact .inl ⟨rfl, .inl (.kTuple h1 h2)⟩
    | dG na h e t u => exact .inl ⟨plain_ok e.ok, .inr ⟨rfl, _, _, _, rfl, h⟩⟩
    | obj na nd h1 h2 c nf e t => exact .inr ⟨_, _, _, _, rfl, rfl, c, .inl ⟨_, _, h1, h2⟩⟩
    | obj0 na h1 c => exact .inr ⟨_, _, _, [], rfl, rfl, c, .inr h1⟩
  · cases d with
    | list ds => obtain ⟨xs, h1, h2⟩ := h; exact .inl ⟨rfl, .inl (.base (.lst h1))⟩
    | dict ds => obtain ⟨es, ep, ks, vs, h, e, _⟩ := h; exact .inl ⟨plain_ok e.ok, .inr ⟨rfl, _, _, _, rfl, h⟩⟩
    | _ => exact h.elim
theorem kitB_all : ∀ k ∈ ["NoneType", "bool", "int", "str", "list", "tuple", "dict"], ∀ b ∈ ["int", "str", "tuple", "list", "bool", "dict"], kitB k b = some (k == b || (b == "int" && k == "bool")) := by decide +kernel
theorem kitB_isa {d : PyData} (hp : plainO d = true) {b : String} (hb : b = "int" ∨ b = "str" ∨ b = "tuple" ∨ b = "list" ∨ b = "bool" ∨ b = "dict") : kitB (kindD d) b = some (isaD b d) := by
  have h := kitB_all (kindD d) (by cases d <;> simp [kindD]) b (by rcases hb with rfl | rfl | rfl | rfl | rfl | rfl <;> simp)
  unfold isaD
  rw [h, hp, Bool.or_true, Bool.and_true]
def rIsiD (K : PySem.W.Frag) (b : String) : List V → Hp → VK → Prop := fun xs H Q => ∃ x d, xs = [x, .ty b] ∧ TyD K H x d ∧ Q (.bl (isaD b d)) H
theorem exo_inst {X : Cx} {pins : List (Addr × Obj)} {σ : L2.St} {H : Hp} {s : Shared} {a C dx : Addr} {fs : List (Str × V)} (I : Inv X pins σ H s) (h1 : H a = some (exo a C (some dx))) (h2 : H dx = some (exd dx fs)) :
    ∃ ox od, PySem.W.InstAt s.heap a ox C (some od) ∧ (∃ vs, ox.data = .fields vs) ∧ ∃ mA : Str → Option Value, (∀ f, RelO (fs.lookup f) (mA f)) ∧ ∀ n, PySem.W.lookIn n od = some (mA n) := by
  obtain ⟨t1, ho⟩ := exo_at I.hok h1
  obtain ⟨mA, hns, hr⟩ := exd_at I.hok h2
  obtain ⟨od, hod, hl⟩ := lookIn_ns hns
  exact ⟨_, od, ⟨ho, rfl, rfl, hod⟩, ⟨_, rfl⟩, mA, hr, hl⟩
theorem exO_inst {X : Cx} {pins : List (Addr × Obj)} {σ : L2.St} {H : Hp} {s : Shared} {a C : Addr} (I : Inv X pins σ H s) (h1 : H a = some (ExO (.ref C) a)) : ∃ ox, PySem.W.InstAt s.heap a ox C none := by
  obtain ⟨⟨oe, vs, ho, hz, hd, _⟩, _⟩ := I.hok a _ h1
  exact ⟨oe, ho, hz.1, by unfold PySem.W.notCls; rw [hd] <;> rfl, by rw [hz.2]; trivial⟩
theorem ob_kit {X : Cx} {pins : List (Addr × Obj)} {σ : L2.St} {H : Hp} {s : Shared} {a C : Addr} {n : Str} (I : Inv X pins σ H s) (c : ObC X.K n C) (h : (∃ dx fs, H a = some (exo a C (some dx)) ∧ H dx = some (exd dx fs)) ∨ H a = some (ExO (.ref C) a)) :
    ∃ P : Heap → Prop, PySem.W.KitX X.K (.ref a) (.ref C) P ∧ P s.heap := by
  rcases h with ⟨dx, fs, h1, h2⟩ | h1
  · obtain ⟨ox, od, J, _⟩ := exo_inst I h1 h2
    exact ⟨_, PySem.W.kitx_exc c.cl c.ga c.gg c.sub c.ca c.cn c.ct c.cm, J⟩
  · obtain ⟨ox, J⟩ := exO_inst I h1
    exact ⟨_, PySem.W.kitx_exc c.cl c.ga c.gg c.sub c.ca c.cn c.ct c.cm, J⟩
theorem isi_kit {X : Cx} {pins : List (Addr × Obj)} {σ : L2.St} {H : Hp} {s : Shared} {x : V} {d : PyData} {u : Value} (I : Inv X pins σ H s) (r : RelV x u) (ty : TyD X.K H x d) :
    ∃ (t : Value) (P : Heap → Prop), PySem.W.KitX X.K u t P ∧ P s.heap ∧ u ≠ .builtin "__main__.__loader__#opaque" ∧ ∀ b : String, b = "int" ∨ b = "str" ∨ b = "tuple" ∨ b = "list" ∨ b = "bool" ∨ b = "dict" → PySem.W.kitOne X.K t (.type b) = some (isaD b d) := by
  rcases ty with ⟨hp, ty | ⟨hk, a, es, ep, rfl, h⟩⟩ | ⟨a, C, n, es, rfl, rfl, c, h⟩
  · obtain ⟨P, Z, p, hx⟩ := kit_of I r ty
    exact ⟨_, P, Z, p, hx, fun b hb => kit_ty (kitB_isa hp hb)⟩
  · cases (show u = Value.ref a from r)
    obtain ⟨e1, _⟩ := (show ObjOk X.prog X.w H s.heap a (DicO a es ep) from I.hok a _ h)
    refine ⟨.type "dict", _, PySem.W.kitx_dict, ⟨dicObj es ep, e1, rfl⟩, (fun z => by cases z), fun b hb => kit_ty ?_⟩
    rw [← hk]
    exact kitB_isa hp hb
  · cases (show u = Value.ref a from r)
    obtain ⟨P, Z, p⟩ := ob_kit I c h
    refine ⟨_, P, Z, p, (fun z => by cases z), fun b hb => ?_⟩
    rw [c.no b hb]
    rcases hb with rfl | rfl | rfl | rfl | rfl | rfl <;> rfl
theorem c_isi {X : Cx} {b : String} (hb : b = "int" ∨ b = "str" ∨ b = "tuple" ∨ b = "list" ∨ b = "bool" ∨ b = "dict") : CallR X (.builtin "isinstance") (rIsiD X.K b) := by
  intro pins s σ H xs us Q I r h
  obtain ⟨x, d, rfl, ty, q⟩ := h
  obtain ⟨u1, u2, rfl, r1, r2⟩ := vals2 r
  cases (show u2 = Value.type b from r2)
  obtain ⟨t, P, Z, p, hx, hk⟩ := isi_kit I r1 ty
  exact PySem.W.kia_one Z I.kIn p (hk b hb) hx fun tk => ⟨.bl (isaD b d), H, I.tok tk, rfl, q⟩
def gIsi (b : String) : List PyData → Option Sl
  | [d] => some (.fz (.bool (isaD b d)))
  | _ => none
section
variable {X : Cx} {a : Expr} {o : Opd} {p p2 pos : Pos}
theorem x_isi {b : String} {T : Str} (hb : b = "int" ∨ b = "str" ∨ b = "tuple" ∨ b = "list" ∨ b = "bool" ∨ b = "dict") (ha : XO X a o) (gi : Gl X "isinstance") (mi : X.mg "isinstance" = none) (gT : Gl X T) (mT : X.mg T = none) (hT : bootBuiltins T = some (.type b)) (hn : T ≠ "__name__" := by decide) (hdb : (T == ("__debug__" : Str)) = false := by decide)
    (hst : starEach [a, .Name T p2] X.env = (false, eval a X.env) :: starEach [.Name T p2] X.env := by rfl) (hst2 : starEach [.Name T p2] X.env = (false, eval (.Name T p2) X.env) :: starEach [] X.env := by rfl) (hpl : (backTo pos (starEach [.Name T p2] X.env)).any (·.1) = false := by rfl) :
    XE X (.Call (.Name "isinstance" p) [a, .Name T p2] [] pos) (eFn (gIsi b) [o]) :=
  pe_imp (pe_callB (c_isi hb) gi mi (by decide +kernel) (pa_cons ha (pa_cons (pe_bltn gT mT hT (show RelV (.ty b) (.type b) from rfl) hn hdb) pa_nil hst2) hst) (by decide) (by decide) hst hpl) fun σ H Q q => by
    have h := pM1 (tM_fn (r := fun vs H Q => ∀ x, vs = [x] → rIsiD X.K b [x, .ty b] H Q) (fun A vs ds H s Q hA hr e k x hv => by
      subst hv
      unfold gIsi at e
      split at e
      · rename_i d
        cases e
        obtain ⟨x', e', h⟩ := hr.one
        cases e'
        exact ⟨x, d, rfl, kindD_ty h, k _ H (Same.refl H) (.bl _)⟩
      · cases e) q)
    exact oM_mono h fun x H1 h => h x rfl
/-- isinstance(e, (T1, T2)) -/
def rIsiTD (K : PySem.W.Frag) (b c : String) : List V → Hp → VK → Prop := fun xs H Q => ∃ x d tp, xs = [x, .ref tp] ∧ H tp = some (.tup [.ty b, .ty c]) ∧ TyD K H x d ∧ Q (.bl (isaD b d || isaD c d)) H
theorem c_isiT {X : Cx} {b c : String} (hb : b = "int" ∨ b = "str" ∨ b = "tuple" ∨ b = "list" ∨ b = "bool" ∨ b = "dict") (hc : c = "int" ∨ c = "str" ∨ c = "tuple" ∨ c = "list" ∨ c = "bool" ∨ c = "dict") : CallR X (.builtin "isinstance") (rIsiTD X.K b c) := by
  intro pins s σ H xs us Q I r h
  obtain ⟨x, d, tp, rfl, hT, ty, q⟩ := h
  obtain ⟨u1, u2, rfl, r1, r2⟩ := vals2 r
  cases (show u2 = Value.ref tp from r2)
  obtain ⟨t, P, Z, p, hx, hkk⟩ := isi_kit I r1 ty
  obtain ⟨_, its, rv, ob, e1, e2, n, e3⟩ := (show ObjOk X.prog X.w H s.heap tp (.tup [.ty b, .ty c]) from I.hok tp _ hT)
  obtain ⟨w1, w2, rfl, q1, q2⟩ := vals2 rv
  cases (show w1 = Value.type b from q1)
  cases (show w2 = Value.type c from q2)
  obtain ⟨oc, od, dt, sl⟩ := ob
  simp only at e2 e3
  subst e2 e3
  have hk : PySem.W.kitAny X.K t [.type b, .type c] = some (isaD b d || isaD c d) :=
    kitAny_cons (hkk b hb) (fun h => by rw [h, Bool.false_or]; exact kitAny_cons (hkk c hc) (fun h => by rw [h]; exact kitAny_nil) fun h => h) fun h => by rw [h]; rfl
  exact PySem.W.kia_tup Z I.kIn p e1 hk hx fun tk => ⟨.bl (isaD b d || isaD c d), H, I.tok tk, rfl, q⟩
def gIsiT (b c : String) : List PyData → Option Sl
  | [d] => some (.fz (.bool (isaD b d || isaD c d)))
  | _ => none
theorem x_isiT {b c : String} {T U : Str} {p3 p4 : Pos} {kk} (hb : b = "int" ∨ b = "str" ∨ b = "tuple" ∨ b = "list" ∨ b = "bool" ∨ b = "dict") (hc : c = "int" ∨ c = "str" ∨ c = "tuple" ∨ c = "list" ∨ c = "bool" ∨ c = "dict") (ha : XO X a o) (gi : Gl X "isinstance") (mi : X.mg "isinstance" = none)
    (gT : Gl X T) (mT : X.mg T = none) (hT : bootBuiltins T = some (.type b)) (gU : Gl X U) (mU : X.mg U = none) (hU : bootBuiltins U = some (.type c)) (hn : T ≠ "__name__" := by decide) (hdb : (T == ("__debug__" : Str)) = false := by decide) (hn' : U ≠ "__name__" := by decide) (hdb' : (U == ("__debug__" : Str)) = false := by decide)
    (hs1 : starEach [.Name T p2, .Name U p3] X.env = (false, eval (.Name T p2) X.env) :: starEach [.Name U p3] X.env := by rfl) (hs2 : starEach [.Name U p3] X.env = (false, eval (.Name U p3) X.env) :: starEach [] X.env := by rfl)
    (hst : starEach [a, .Tuple [.Name T p2, .Name U p3] kk p4] X.env = (false, eval a X.env) :: starEach [.Tuple [.Name T p2, .Name U p3] kk p4] X.env := by rfl) (hst2 : starEach [.Tuple [.Name T p2, .Name U p3] kk p4] X.env = (false, eval (.Tuple [.Name T p2, .Name U p3] kk p4) X.env) :: starEach [] X.env := by rfl) (hpl : (backTo pos (starEach [.Tuple [.Name T p2, .Name U p3] kk p4] X.env)).any (·.1) = false := by rfl) :
    XE X (.Call (.Name "isinstance" p) [a, .Tuple [.Name T p2, .Name U p3] kk p4] [] pos) (eFn (gIsiT b c) [o]) :=
  pe_imp (pe_callB (c_isiT hb hc) gi mi (by decide +kernel) (pa_cons ha (pa_cons (pe_tup (pa_cons (pe_bltn gT mT hT (show RelV (.ty b) (.type b) from rfl) hn hdb) (pa_cons (pe_bltn gU mU hU (show RelV (.ty c) (.type c) from rfl) hn' hdb') pa_nil hs2) hs1)) pa_nil hst2) hst) (by decide) (by decide) hst hpl) fun σ H Q q => by
    have h := pM1 (tM_fn (r := fun vs H Q => ∀ x, vs = [x] → ∀ tp, H tp = none → rIsiTD X.K b c [x, .ref tp] (upd H tp (.tup [.ty b, .ty c])) Q) (fun A vs ds H s Q hA hr e k x hv tp hn => by
      subst hv
      unfold gIsiT at e
      split at e
      · rename_i d
        cases e
        obtain ⟨x', e', h⟩ := hr.one
        cases e'
        have sm := same_upd hn (.tup [.ty b, .ty c])
        have h' : RepT X.K A (upd H tp (.tup [.ty b, .ty c])) x d := by
          rcases h with h | ⟨p, e, h⟩
          · exact .inl (h.move (Same.mv sm))
          · refine .inr ⟨p, e, h.move (Same.mv sm) ?_⟩
            cases q : H p with
            | none => exact (h.there q).elim
            | some ob => exact sm p ob q
        exact ⟨x, d, tp, rfl, upd_same, kindD_ty h', k _ _ sm (.bl _)⟩
      · cases e) q)
    exact oM_mono h fun x H1 h => ⟨by show 2 ≤ sizeLine; decide, fun tp hn => h x rfl tp hn⟩
end
/-! ### sorted -/
def alikeDs (ds : List PyData) : Bool := ds.all fun d => ds.all fun e => PySem.W.alike d e
def sortableDs (ds : List PyData) : Bool := (ds.all fun d => match d with | .tuple (_ :: _) => true | _ => false) || ds.all fun d => match d with | .none => false | .tuple _ => false | _ => true
def depthDs (ds : List PyData) : Bool := ds.all fun d => decide (d.depth ≤ 60)
/-- in their order -/
def sortD (ds : List PyData) : List PyData := ds.mergeSort (PySem.W.dataLe false id)
def gSorted : List PyData → Option Sl
  | [.list ds] => if alikeDs ds = true ∧ sortableDs ds = true ∧ depthDs ds = true then some (.ow (.list (sortD ds))) else none
  | _ => none
end Vw

set_option Elab.async false
set_option linter.all false
set_option maxRecDepth 100000
/-! own lists that are changed -/
namespace Vw
open PySem L2 PyProof.Rows

section
variable {K : PySem.W.Frag} {M : Addr → Prop} {ρ : Rho} {σ : L2.St} {H : Hp}
/-- the content of an own slot -/
def own? (ρ : Rho) (i : Nat) : Option PyData := match ρ[i]? with
  | some (.ow d) => some d
  | some (.io d) => some d
  | _ => none
def setOwn (ρ : Rho) (i : Nat) (d : PyData) : Rho := match ρ[i]? with
  | some (.ow _) => ρ.set i (.ow d)
  | some (.io _) => ρ.set i (.io d)
  | _ => ρ
theorem own_ows {i : Nat} {d : PyData} (h : own? ρ i = some d) : ρ[i]? = some (.ow d) ∨ ρ[i]? = some (.io d) := by
  unfold own? at h
  split at h
  · rename_i e; cases h; exact .inl e
  · rename_i e; cases h; exact .inr e
  · cases h
theorem setOwn_ows {i : Nat} {d d' : PyData} (h : own? ρ i = some d) : (setOwn ρ i d')[i]? = some (.ow d') ∧ ρ[i]? = some (.ow d) ∨ (setOwn ρ i d')[i]? = some (.io d') ∧ ρ[i]? = some (.io d) := by
  rcases own_ows h with e | e
  · refine .inl ⟨?_, e⟩
    unfold setOwn
    simp only [e]
    exact List.getElem?_set_self (List.getElem?_eq_some_iff.mp e).1
  · refine .inr ⟨?_, e⟩
    unfold setOwn
    simp only [e]
    exact List.getElem?_set_self (List.getElem?_eq_some_iff.mp e).1
theorem setOwn_ne {i j : Nat} {d : PyData} (h : i ≠ j) : (setOwn ρ i d)[j]? = ρ[j]? := by
  unfold setOwn
  split
  · exact List.getElem?_set_ne h
  · exact List.getElem?_set_ne h
  · rfl
theorem setOwn_len {i : Nat} {d : PyData} : (setOwn ρ i d).length = ρ.length := by
  unfold setOwn
  split <;> simp
theorem setOwn_Ows {i j : Nat} {d d' : PyData} (h : own? ρ i = some d) : Ows (setOwn ρ i d') j ↔ Ows ρ j := by
  by_cases hj : i = j
  · subst hj
    rcases setOwn_ows (d' := d') h with ⟨h1, h2⟩ | ⟨h1, h2⟩
    · exact ⟨fun _ => ⟨d, .inl h2⟩, fun _ => ⟨d', .inl h1⟩⟩
    · exact ⟨fun _ => ⟨d, .inr h2⟩, fun _ => ⟨d', .inr h1⟩⟩
  · unfold Ows
    rw [setOwn_ne hj]
theorem setOwn_OO {i : Nat} {d d' : PyData} (h : own? ρ i = some d) {b : Addr} : OO (setOwn ρ i d') σ b ↔ OO ρ σ b := by
  constructor
  · rintro ⟨j, h1, h2⟩; exact ⟨j, (setOwn_Ows h).mp h1, h2⟩
  · rintro ⟨j, h1, h2⟩; exact ⟨j, (setOwn_Ows h).mpr h1, h2⟩
/-- an own thing is changed -/
theorem Sr.mut (S : Sr K M ρ σ H) {i : Nat} {p : Addr} {d d' : PyData} {o : HO} (h : own? ρ i = some d) (hp : σ[i]? = some (some (.ref p))) (ho : Own K (fun b => M b ∨ OO ρ σ b) (upd H p o) p d') :
    Sr K M (setOwn ρ i d') σ (upd H p o) ∧ Ext (OO ρ σ) H (OO (setOwn ρ i d') σ) (upd H p o) ∧ IoK ρ (setOwn ρ i d') := by
  have oo : ∀ b, OO (setOwn ρ i d') σ b ↔ OO ρ σ b := fun b => setOwn_OO h
  have op : OO ρ σ p := ⟨i, ⟨d, own_ows h⟩, hp⟩
  have mv : ∀ b o', H b = some o' → ¬ (M b ∨ OO ρ σ b) → upd H p o b = some o' ∧ ¬ (M b ∨ OO (setOwn ρ i d') σ b) := fun b o' e n => ⟨by rw [upd_ne (show b ≠ p from fun z => n (.inr (z ▸ op)))]; exact e, fun z => n (z.imp id (oo b).mp)⟩
  refine ⟨⟨by rw [S.len, setOwn_len], fun j e he => ?_, fun j e he => ?_, fun j k q h1 h2 => S.inj j k q ((setOwn_Ows h).mp h1) ((setOwn_Ows h).mp h2), fun b z => ?_⟩, ⟨fun b o' e n => by rw [upd_ne (show b ≠ p from fun z => n (z ▸ op))]; exact e, fun b z => .inl ((oo b).mp z), fun b z => ?_⟩, ⟨setOwn_len, fun j e he => ?_⟩⟩
  · have hj : i ≠ j := by
      rintro rfl
      rcases setOwn_ows (d' := d') h with z | z <;> (rw [z.1] at he; cases he)
    rw [setOwn_ne hj] at he
    obtain ⟨v, h1, h2⟩ := S.fz j e he
    exact ⟨v, h1, h2.move mv⟩
  · by_cases hj : i = j
    · subst hj
      have : e = d' := by
        rcases setOwn_ows (d' := d') h with z | z <;> (rw [z.1] at he; rcases he with he | he <;> cases he; rfl)
      subst this
      exact ⟨p, hp, S.ooM op, ho.move (fun b o' e n => ⟨e, fun z => n (z.imp id (oo b).mp)⟩) rfl⟩
    · rw [setOwn_ne hj] at he
      obtain ⟨q, h1, h2, h3⟩ := S.ow j e he
      have hq : q ≠ p := fun z => hj (S.inj i j p ⟨d, own_ows h⟩ ⟨e, he⟩ hp (z ▸ h1))
      exact ⟨q, h1, h2, h3.move mv (upd_ne hq)⟩
  · by_cases hb : b = p
    · subst hb; rw [upd_same]; exact fun z => nomatch z
    · rw [upd_ne hb]; exact S.mt b z
  · by_cases hb : b = p
    · subst hb; rw [upd_same]; exact fun z => nomatch z
    · rw [upd_ne hb]; exact z
  · by_cases hj : i = j
    · subst hj
      rcases setOwn_ows (d' := d') h with z | z
      · rw [z.2] at he; cases he
      · exact ⟨d', z.1⟩
    · exact ⟨e, by rw [setOwn_ne hj]; exact he⟩
end
/-- a change of a thing by values: what is told, what the thing becomes -/
def MutD (K : PySem.W.Frag) (all : Bool) (r : V → List V → Hp → VK → Prop) (h : PyData → List PyData → Option (PyData × PyData)) : Prop :=
  ∀ (A : Addr → Prop) (p : Addr) (d : PyData) (vs : List V) (ds : List PyData) (H : Hp) (e d' : PyData) (Q : VK), Live A H → A p → Own K A H p d → RepTs K A H vs ds → (all = true → RepAll K A H vs ds) → h d ds = some (e, d') →
    (∀ v o, Own K A (upd H p o) p d' → Rep K A (upd H p o) v e → Q v (upd H p o)) → r (.ref p) vs H Q
def eMut (T : String) (h : PyData → List PyData → Option (PyData × PyData)) (i : Nat) (os : List Opd) : EM := fun ρ => (own? ρ i).bind fun d0 => if kindD d0 = T then (pres os ρ).bind fun p => (fins os p.1 p.2).bind fun ds => (own? p.2 i).bind fun d => (h d ds).map fun q => (.fz q.1, setOwn p.2 i q.2) else none
theorem own_ty {K : PySem.W.Frag} {A : Addr → Prop} {H : Hp} {p : Addr} {d : PyData} (h : Own K A H p d) (hd : kindD d ≠ "dict") : tyV K (kindD d) (.ref p) H := by
  cases d with
  | list ds => obtain ⟨xs, h1, _⟩ := h; exact .inl ⟨rfl, xs, SqL.of h1⟩
  | dict ds => exact (hd rfl).elim
  | _ => exact h.elim
theorem own_mut {A : Addr → Prop} {H : Hp} {p : Addr} (hp : A p) (o : HO) : ∀ b u, H b = some u → ¬ A b → (upd H p o) b = some u ∧ ¬ A b := fun b u e n => ⟨by rw [upd_ne (show b ≠ p from fun z => n (z ▸ hp))]; exact e, n⟩
theorem tM_mut {K : PySem.W.Frag} {all : Bool} {r : V → List V → Hp → VK → Prop} {h : PyData → List PyData → Option (PyData × PyData)} (hm : MutD K all r h) {i : Nat} {os : List Opd} (hv : all = true → os.all Opd.isVal = true) {T : String} (hTd : T ≠ "dict") {σ : L2.St} {H : Hp} {Q : VK} (q : tM K (eMut T h i os) σ H Q) : tBM K T r (tVar i) (pM K os) σ H Q := by
  obtain ⟨M, ρ, s, ρ', S, e, k⟩ := q
  unfold eMut at e
  cases e0 : own? ρ i with
  | none => rw [e0] at e; cases e
  | some d0 =>
    rw [e0] at e
    simp only [Option.bind_some] at e
    split at e
    case isFalse => cases e
    rename_i hT
    cases e1 : pres os ρ with
    | none => rw [e1] at e; cases e
    | some p =>
      obtain ⟨xs, ρ1⟩ := p
      rw [e1] at e
      simp only [Option.bind_some] at e
      cases e2 : fins os xs ρ1 with
      | none => rw [e2] at e; cases e
      | some ds =>
        rw [e2] at e
        simp only [Option.bind_some] at e
        cases e3 : own? ρ1 i with
        | none => rw [e3] at e; cases e
        | some d =>
          rw [e3] at e
          simp only [Option.bind_some] at e
          cases e4 : h d ds with
          | none => rw [e4] at e; cases e
          | some q4 =>
            obtain ⟨a, d'⟩ := q4
            rw [e4] at e
            cases e
            obtain ⟨p, h1, h2, h3⟩ := S.ow i d0 (own_ows e0)
            refine ⟨.ref p, h1, ?_, M, ρ, xs, ρ1, S, e1, fun vs H1 x1 x2 S1 p1 => ?_⟩
            · rw [← hT]; exact own_ty h3 (hT ▸ hTd)
            · obtain ⟨p', g1, g2, g3⟩ := S1.ow i d (own_ows e3)
              rw [h1] at g1
              cases g1
              have op : OO ρ1 σ p := ⟨i, ⟨d, own_ows e3⟩, h1⟩
              refine hm _ p d vs ds H1 a d' Q S1.liveA (.inr op) g3 (fins_rep S1 p1 e2) (fun z => fins_vals (hv z) p1 e2) e4 fun v o ho hr => ?_
              obtain ⟨S2, E2, I2⟩ := S1.mut e3 h1 ho
              exact k v _ (x1.trans E2) (x2.trans I2) ⟨S2, hr.less fun b z => z.imp id (setOwn_OO e3).mp⟩
/-- a method of a list -/
def hAppend : PyData → List PyData → Option (PyData × PyData)
  | .list ds, [d] => if ds.length < sizeLine then some (.none, .list (ds ++ [d])) else none
  | _, _ => none
def hExtend : PyData → List PyData → Option (PyData × PyData)
  | .list ds, [.list es] => if ds.length + es.length ≤ sizeLine then some (.none, .list (ds ++ es)) else none
  | _, _ => none
def hPop : PyData → List PyData → Option (PyData × PyData)
  | .list ds, [] => (ds[ds.length - 1]?).map fun d => (d, .list ds.dropLast)
  | _, _ => none
def hPopAt : PyData → List PyData → Option (PyData × PyData)
  | .list ds, [.int i] => if -(2 ^ 63) ≤ i ∧ i < 2 ^ 63 then (seqIndex? i ds.length).bind fun k => (ds[k]?).map fun d => (d, .list (ds.eraseIdx k)) else none
  | _, _ => none
def hInsert : PyData → List PyData → Option (PyData × PyData)
  | .list ds, [.int i, d] => if ds.length < sizeLine ∧ 0 ≤ i ∧ i < 2 ^ 63 then some (.none, .list (ds.take i.toNat ++ [d] ++ ds.drop i.toNat)) else none
  | _, _ => none
def hClear : PyData → List PyData → Option (PyData × PyData)
  | .list ds, [] => some (.none, .list [])
  | _, _ => none
section
variable {K : PySem.W.Frag}
theorem mAppend : MutD K true rAppend hAppend := fun A p d vs ds H e d' Q hA hp ho hr0 hr eq k => by
  unfold hAppend at eq
  split at eq
  · split at eq
    · rename_i hz
      cases eq
      obtain ⟨xs, h1, h2⟩ := ho
      have h := hr rfl
      cases h with
      | cons h t =>
        cases t
        refine ⟨p, xs, _, rfl, rfl, h1, by rw [h2.length]; exact hz, k _ _ ⟨_, upd_same, ?_⟩ .non⟩
        exact (h2.append (.cons h .nil)).move (own_mut hp _)
    · cases eq
  · cases eq
theorem mExtend : MutD K false rExtend hExtend := fun A p d vs ds H e d' Q hA hp ho hr hr0 eq k => by
  unfold hExtend at eq
  split at eq
  · split at eq
    · rename_i hz
      cases eq
      obtain ⟨xs, h1, h2⟩ := ho
      obtain ⟨x, rfl, h⟩ := hr.one
      obtain ⟨q, ys, rfl, a1, a2⟩ := h.lst
      refine ⟨p, q, xs, ys, rfl, rfl, h1, a1, by rw [h2.length, a2.length]; exact hz, k _ _ ⟨_, upd_same, ?_⟩ .non⟩
      exact (h2.append a2).move (own_mut hp _)
    · cases eq
  · cases eq
theorem mPop : MutD K true rPop hPop := fun A p d vs ds H e d' Q hA hp ho hr hr0 eq k => by
  unfold hPop at eq
  split at eq
  · rename_i es
    cases e1 : es[es.length - 1]? with
    | none => rw [e1] at eq; cases eq
    | some y =>
      rw [e1] at eq
      cases eq
      cases hr
      obtain ⟨xs, h1, h2⟩ := ho
      obtain ⟨v, g1, g2⟩ := h2.get e1
      refine ⟨p, xs, v, rfl, rfl, h1, by rw [h2.length]; exact g1, k _ _ ⟨_, upd_same, ?_⟩ (g2.move (own_mut hp _))⟩
      exact h2.dropLast.move (own_mut hp _)
  · cases eq
theorem mPopAt : MutD K true rPopAt hPopAt := fun A p d vs ds H e d' Q hA hp ho hr hr0 eq k => by
  unfold hPopAt at eq
  split at eq
  · rename_i es i
    split at eq
    · rename_i hi
      cases e1 : seqIndex? i es.length with
      | none => rw [e1] at eq; cases eq
      | some j =>
        rw [e1] at eq
        simp only [Option.bind_some] at eq
        cases e2 : es[j]? with
        | none => rw [e2] at eq; cases eq
        | some y =>
          rw [e2] at eq
          cases eq
          obtain ⟨x, rfl, h⟩ := hr.one
          obtain ⟨xs, h1, h2⟩ := ho
          obtain ⟨v, g1, g2⟩ := h2.get e2
          refine ⟨p, xs, i, j, v, rfl, by rw [h.int], h1, hi.1, hi.2, by rw [h2.length]; exact e1, g1, k _ _ ⟨_, upd_same, ?_⟩ (g2.move (own_mut hp _))⟩
          exact (h2.erase j).move (own_mut hp _)
    · cases eq
  · cases eq
theorem mInsert : MutD K true (fun x vs H Q => ∃ (l : Addr) (xs : List V) (i : Int) (y : V), x = .ref l ∧ vs = [.int i, y] ∧ H l = some (.lst xs) ∧ xs.length < sizeLine ∧ 0 ≤ i ∧ i < 2 ^ 63 ∧ Q .non (upd H l (.lst (xs.take i.toNat ++ [y] ++ xs.drop i.toNat)))) hInsert := fun A p d vs ds H e d' Q hA hp ho hr0 hr eq k => by
  unfold hInsert at eq
  split at eq
  · rename_i es i y
    split at eq
    · rename_i hz
      cases eq
      obtain ⟨xs, h1, h2⟩ := ho
      have h := hr rfl
      cases h with
      | cons h t =>
        cases h
        cases t with
        | cons h t =>
          cases t
          refine ⟨p, xs, i, _, rfl, rfl, h1, by rw [h2.length]; exact hz.1, hz.2.1, hz.2.2, k _ _ ⟨_, upd_same, ?_⟩ .non⟩
          exact (((h2.take _).append (.cons h .nil)).append (h2.drop _)).move (own_mut hp _)
    · cases eq
  · cases eq
theorem mClear : MutD K true rClear hClear := fun A p d vs ds H e d' Q hA hp ho hr hr0 eq k => by
  unfold hClear at eq
  split at eq
  · cases eq
    cases hr
    obtain ⟨xs, h1, h2⟩ := ho
    exact ⟨p, xs, rfl, rfl, h1, k _ _ ⟨_, upd_same, .nil⟩ .non⟩
  · cases eq
end
end Vw
namespace Vw
open PySem L2 PyProof.Rows
section
variable {X : Cx} {pos cpos apos p : Pos} {x : Str} {e : Expr} {es : List Expr} {os : List Opd}
/-- a method of an own list, with arguments -/
theorem x_mut {T : String} {name : Str} {id : String} {all : Bool} {r : V → List V → Hp → VK → Prop} {h : PyData → List PyData → Option (PyData × PyData)} (pa : PlainAttrs T) (slot : Slot T name id) (hty : typeOf (.builtin id) = pure (.type "method_descriptor")) (hr : MtR X id r) (hm : MutD X.K all r h) (hv : all = true → os.all Opd.isVal = true)
    (i : Nat) (ha : XA X (e :: es) os) (hN : X.N[i]? = some x := by rfl) (hvis : Vis X.env.scope x := by first | exact Or.inl rfl | exact Or.inr (Or.inl rfl) | exact Or.inr (Or.inr rfl)) (hd : (x == ("__debug__" : Str)) = false := by decide) (hcd : (x == ("__classdict__" : Str)) = false := by decide)
    (hbase : attributeBase (.Name x p) name X.env (eval (.Name x p) X.env) = eval (.Name x p) X.env := by rfl)
    (hfew : ((backTo cpos (starEach (e :: es) X.env)).all (fun x => !x.1) && (backToKw cpos (keywordEach [] X.env)).all (fun x => x.1.isSome)
      && decide ((e :: es).length + ([] : List Keyword).length + (if ([] : List Keyword).isEmpty then 0 else 1) < 30)) = true := by rfl)
    (hline : (apos.endLine == cpos.line) = true := by rfl) (hs : starEach (e :: es) X.env = (false, eval e X.env) :: starEach es X.env := by rfl) (hplain : (backTo cpos (starEach es X.env)).any (·.1) = false := by rfl) (hTd : T ≠ "dict" := by decide) :
    XE X (.Call (.Attribute (.Name x p) name apos) (e :: es) [] cpos) (eMut T h i os) :=
  pe_imp (pe_bm pa slot hty hr (pe_var hN hvis hd hcd) ha hbase hfew hline hs hplain) fun _ _ _ q => tM_mut hm hv hTd q
theorem x_mut0 {T : String} {name : Str} {id : String} {all : Bool} {r : V → List V → Hp → VK → Prop} {h : PyData → List PyData → Option (PyData × PyData)} (pa : PlainAttrs T) (slot : Slot T name id) (hty : typeOf (.builtin id) = pure (.type "method_descriptor")) (hr : MtR X id r) (hm : MutD X.K all r h)
    (i : Nat) (hN : X.N[i]? = some x := by rfl) (hvis : Vis X.env.scope x := by first | exact Or.inl rfl | exact Or.inr (Or.inl rfl) | exact Or.inr (Or.inr rfl)) (hd : (x == ("__debug__" : Str)) = false := by decide) (hcd : (x == ("__classdict__" : Str)) = false := by decide)
    (hbase : attributeBase (.Name x p) name X.env (eval (.Name x p) X.env) = eval (.Name x p) X.env := by rfl) (hline : (apos.endLine == cpos.line) = true := by rfl) (hTd : T ≠ "dict" := by decide) :
    XE X (.Call (.Attribute (.Name x p) name apos) [] [] cpos) (eMut T h i []) :=
  pe_imp (pe_bm0 pa slot hty hr (pe_var hN hvis hd hcd) hbase hline) fun σ H Q q => by
    obtain ⟨v, h1, h2, h3⟩ := tM_mut hm (fun _ => rfl) hTd q
    exact ⟨v, h1, h2, pM_nil h3⟩
end
/-! ### x[i] = e, x an own list -/
def sSetIx (i : Nat) (m : EM) (ix : Opd) : SM := fun ρ => (m ρ).bind fun p => p.1.dat.bind fun y => (own? p.2 i).bind fun _ => (pre ix p.2).bind fun q => (fin ix q.1 q.2).bind fun k => (own? q.2 i).bind fun d => match d, k with
  | .list ds, .int n => (ixN ds.length n).map fun j => .nx (setOwn q.2 i (.list (ds.set j y)))
  | _, _ => none
theorem sM_setIx {K : PySem.W.Frag} {i : Nat} {m : EM} {ix : Opd} {D : Ends} {σ : L2.St} {H : Hp} (q : sM K (sSetIx i m ix) D σ H) : tAsg (tM K m) (L2.gSub (tVar i) (oM K ix) rSetL) D σ H := by
  obtain ⟨M, ρ, o, S, e, w⟩ := q
  unfold sSetIx at e
  cases e1 : m ρ with
  | none => rw [e1] at e; cases e
  | some p1 =>
    obtain ⟨r, ρ1⟩ := p1
    rw [e1] at e
    simp only [Option.bind_some] at e
    cases e2 : r.dat with
    | none => rw [e2] at e; cases e
    | some y =>
      rw [e2] at e
      simp only [Option.bind_some] at e
      cases e3 : own? ρ1 i with
      | none => rw [e3] at e; cases e
      | some d0 =>
        rw [e3] at e
        simp only [Option.bind_some] at e
        cases e4 : pre ix ρ1 with
        | none => rw [e4] at e; cases e
        | some p4 =>
          obtain ⟨x, ρ2⟩ := p4
          rw [e4] at e
          simp only [Option.bind_some] at e
          cases e5 : fin ix x ρ2 with
          | none => rw [e5] at e; cases e
          | some k =>
            rw [e5] at e
            simp only [Option.bind_some] at e
            cases e6 : own? ρ2 i with
            | none => rw [e6] at e; cases e
            | some d =>
              rw [e6] at e
              simp only [Option.bind_some] at e
              split at e
              · rename_i ds n
                cases e7 : ixN ds.length n with
                | none => rw [e7] at e; cases e
                | some j =>
                  rw [e7] at e
                  cases e
                  refine ⟨M, ρ, r, ρ1, S, e1, fun v H1 x1 x2 R => ?_⟩
                  obtain ⟨d1, hd1, S1, rp⟩ := R.fz
                  rw [e2] at hd1
                  cases hd1
                  obtain ⟨p, h1, h2, h3⟩ := S1.ow i d0 (own_ows e3)
                  refine ⟨.ref p, h1, M, ρ1, x, ρ2, S1, e4, fun u H2 y1 y2 S2 p2 => ?_⟩
                  obtain ⟨p', g1, g2, g3⟩ := S2.ow i _ (own_ows e6)
                  rw [h1] at g1
                  cases g1
                  obtain ⟨xs, a1, a2⟩ := g3
                  have hk := fin_rep S2 p2 e5
                  have op : OO ρ2 σ p := ⟨i, ⟨_, own_ows e6⟩, h1⟩
                  refine ⟨p, xs, n, j, rfl, hk.int, a1, by rw [a2.length]; exact e7, ?_⟩
                  have ho : Own K (fun b => M b ∨ OO ρ2 σ b) (upd H2 p (.lst (xs.set j v))) p (.list (ds.set j y)) := ⟨_, upd_same, (a2.set (Rep.ext y1 rp) j).move (own_mut (A := fun b => M b ∨ OO ρ2 σ b) (.inr op) _)⟩
                  obtain ⟨S3, E3, I3⟩ := S2.mut e6 h1 ho
                  exact w _ _ (Aft.of ((x1.trans y1).trans E3) ((x2.trans y2).trans I3)) S3
              · cases e
theorem s_setIx {X : Cx} {x : Str} {p pos pos' : Pos} {e ie : Expr} {m : EM} {ix : Opd} (i : Nat) (he : XE X e m) (hi : XO X ie ix) (hN : X.N[i]? = some x := by rfl) (hvis : Vis X.env.scope x := by first | exact Or.inl rfl | exact Or.inr (Or.inl rfl) | exact Or.inr (Or.inr rfl)) (hd : (x == ("__debug__" : Str)) = false := by decide) (hcd : (x == ("__classdict__" : Str)) = false := by decide)
    (ha : ∀ v, assign (.Subscript (.Name x p) ie pos') X.env v = (do let ov ← holding [v] (eval (.Name x p) X.env); let iv ← holding [v, ov] (eval ie X.env); standAt pos'; holding [v, ov, iv] (setItem ov iv v); release [v, ov, iv] []) := by intro _; rfl)
    (hs : swapsWithSole [.Subscript (.Name x p) ie pos'] e pos.line X.env = pure false := by rfl) (hw : swappedStores [.Subscript (.Name x p) ie pos'] e X.env = pure none := by rfl) (h1 : (assignEach [.Subscript (.Name x p) ie pos'] X.env).map (·.2) = [assign (.Subscript (.Name x p) ie pos') X.env] := by rfl) :
    XS X (.Assign [.Subscript (.Name x p) ie pos'] e pos) (sSetIx i m ix) :=
  ps_imp (ps_asg he (pg_sub (pe_var hN hvis hd hcd) hi set_list ha) hs hw h1) fun _ _ _ q => sM_setIx q
/-! ### x += e -/
def sAug (i : Nat) (f : Int → Int → Int) (m : EM) : SM := fun ρ => match ρ[i]? with
  | some (.fz (.int a)) => (m ρ).bind fun p => match p.1 with
    | .fz (.int b) => (put i (.fz (.int (f a b))) p.2).map .nx
    | _ => none
  | _ => none
theorem sM_aug {K : PySem.W.Frag} {i : Nat} {f : Int → Int → Int} {m : EM} {D : Ends} {σ : L2.St} {H : Hp} (q : sM K (sAug i f m) D σ H) : tAug i (tM K m) (ipI f) D σ H := by
  obtain ⟨M, ρ, o, S, e, w⟩ := q
  unfold sAug at e
  split at e
  · rename_i a ha
    obtain ⟨v, h1, h2⟩ := S.fz i _ ha
    cases h2
    refine ⟨_, h1, ?_⟩
    cases e1 : m ρ with
    | none => rw [e1] at e; cases e
    | some p1 =>
      obtain ⟨r, ρ1⟩ := p1
      rw [e1] at e
      simp only [Option.bind_some] at e
      have key : ∃ b, r = .fz (.int b) := by
        cases r with
        | fz d =>
          cases d with
          | int b => exact ⟨b, rfl⟩
          | _ => cases e
        | _ => cases e
      obtain ⟨b, rfl⟩ := key
      simp only at e
      cases e2 : put i (.fz (.int (f a b))) ρ1 with
      | none => rw [e2] at e; cases e
      | some ρ2 =>
        rw [e2] at e
        cases e
        refine ⟨M, ρ, _, ρ1, S, e1, fun v H1 x1 x2 R => ?_⟩
        obtain ⟨S1, rp⟩ := R
        cases rp
        refine ⟨a, b, rfl, rfl, ?_⟩
        obtain ⟨S2, io, hO, st⟩ := put_aft (K := K) (M := M) (O := OO ρ σ) (H0 := H) (v := .int (f a b)) e2 (show Res K M _ H ρ1 σ _ H1 (.fz (.int (f a b))) from ⟨S1, .int _⟩) x1.live
        refine w _ _ ⟨⟨x1.keep, fun b z => ?_, x1.live⟩, x2.trans io, fun j d h => ?_⟩ S2
        · rcases hO b z with z | z | z
          · exact x1.nw b z
          · exact .inl z
          · exact .inr z
        · obtain ⟨d', h'⟩ := x2.2 j d h
          exact st j d' h'
  · cases e
theorem s_augAdd {X : Cx} {i : Nat} {x : Str} {e : Expr} {m : EM} {pos pos' : Pos} (hN : X.N.Nodup) (hi : X.N[i]? = some x) (hx : Loc X.env.scope x) (he : XE X e m) (hf : X.fn x = true ∨ X.env.scope.names.lookup x = some .local := by first | exact .inl rfl | exact .inr rfl | assumption) :
    XS X (.AugAssign (.Name x pos') .Add e pos) (sAug i (· + ·) m) := ps_imp (ps_aug hN hi hx he ip_add hf) fun _ _ _ q => sM_aug q
end Vw

set_option Elab.async false
set_option linter.all false
set_option maxRecDepth 100000
/-! defs that are called where no repr of a list, tuple or dict is under way: repr of data; the law's end -/
namespace Vw
open PySem L2 PyProof.Rows

/-- a def's promise, asked where no repr is under way -/
structure FnG (P : Program) (w : World) (K : PySem.W.Frag) (mg : Str → Option Value) (base : Heap) (k : Nat) (f : Addr) (fd : FuncData) (ps : List Str) (sp : Sp) : Prop where
  len : ∀ vs H Q E, sp vs H Q E → vs.length = ps.length
  go : ∀ (A : Around) (fr : List Env) (s : Shared) (H : Hp) (g : Args) (us : List Value) (vs : List V) (Q : VK) (E : XK), A.guards = some [] → Room k A → Env0 P w K mg base A fr s H → Vals vs us → BindsTo s fd g (ps.zip us) → sp vs H Q E → codeAny (model P w) A (.call (.ref f) g) (CR CX0 fr P w H s Q E) s
theorem FnG.of {P : Program} {w : World} {K : PySem.W.Frag} {mg : Str → Option Value} {base : Heap} {k : Nat} {f : Addr} {fd : FuncData} {ps : List Str} {sp : Sp} (F : FnOk P w K mg base CX0 k f fd ps sp) : FnG P w K mg base k f fd ps sp :=
  ⟨F.len, fun A fr s H g us vs Q E _ hr e v b q => F.run A fr s H g us vs Q E hr e b v q⟩
section
variable {X : Cx} {k : Nat} {f : Addr} {fd : FuncData} {ps : List Str} {sp : Sp}
theorem run_g {pins : List (Addr × Obj)} {σ : L2.St} {H : Hp} {s : Shared} {Q : VK} {us : List Value} {vs : List V} (F : FnG X.prog X.w X.K X.mg X.base k f fd ps sp) (hg : X.A.guards = some []) (hr : Room k X.A) (hb : Binds X.K fd ps []) (I : Inv X pins σ H s) (r : Vals vs us) (h : sp vs H Q E0) :
    wpAny (model X.prog X.w) X.A (call (.ref f) us) (EP X pins σ Q) X.xe s := by
  have hl : us.length = ps.length := r.length.symm.trans (F.len vs H Q E0 h)
  have hbind : BindsTo s fd ⟨us, []⟩ (ps.zip us) := by
    have z := hb s us I.kIn (by rw [List.append_nil]; exact hl)
    rwa [List.append_nil] at z
  have go := F.go X.A X.stack s H ⟨us, []⟩ us vs Q E0 hg hr I.env0 r hbind h
  refine wpAny_call (codeAny_mono go fun res s2 hres => ?_)
  match res, hres with
  | .ok (.ret u), hres => exact I.after hres
  | .ok .next, hres => exact hres.elim
  | .ok .brk, hres => exact hres.elim
  | .ok .cont, hres => exact hres.elim
  | .error _, hres => exact (show False from hres).elim
theorem pe_g {x : Str} {e : Expr} {es : List Expr} {p pos : Pos} {t : TA} (F : FnG X.prog X.w X.K X.mg X.base k f fd ps sp) (hgd : X.A.guards = some []) (hr : Room k X.A) (hg : Gl X x) (hm : X.mg x = some (.ref f)) (hk : PySem.W.keepIn X.K (.ref f) = true) (hb : Binds X.K fd ps []) (ha : PA X (e :: es) t) (hdb : (x == ("__debug__" : Str)) = false)
    (he : starEach (e :: es) X.env = (false, eval e X.env) :: starEach es X.env) (hpl : (backTo pos (starEach es X.env)).any (·.1) = false) : PE X (.Call (.Name x p) (e :: es) [] pos) (fun σ H Q => t σ H fun vs H1 => sp vs H1 Q E0) where
  run pins s σ H Q I h := wpAny_Call_Name_kw (ld_glob I hg hm (PySem.W.callWith_K (h₀ := X.base) I.ok.mod.kin hk (thn (ha.run pos pins s σ H _ I h) fun us s1 h1 => by
    obtain ⟨vs, H1, I1, r, q⟩ := h1
    exact ⟨I1.kIn, run_g F hgd hr hb I1 r q⟩) he hpl) hdb)
theorem x_callG {x : Str} {e : Expr} {es : List Expr} {p pos : Pos} {m : List PyData → Option (Sl × List PyData)} {os : List Opd} {ms : List Bool} (F : FnG X.prog X.w X.K X.mg X.base k f fd ps (spM X.K ms m)) (hgd : X.A.guards = some []) (hr : Room k X.A) (hg : Gl X x) (hm : X.mg x = some (.ref f)) (hk : PySem.W.keepIn X.K (.ref f) = true) (hb : Binds X.K fd ps [])
    (ha : XA X (e :: es) os) (hms : modes os = ms) (hdb : (x == ("__debug__" : Str)) = false := by decide) (he : starEach (e :: es) X.env = (false, eval e X.env) :: starEach es X.env := by rfl) (hpl : (backTo pos (starEach es X.env)).any (·.1) = false := by rfl) :
    XE X (.Call (.Name x p) (e :: es) [] pos) (eCall m os) := by
  subst hms
  exact pe_imp (pe_g F hgd hr hg hm hk hb ha hdb he hpl) fun σ H Q q => tM_call q
end
section
variable {P : Program} {w : World} {K : PySem.W.Frag} {mg : Str → Option Value} {base : Heap}
theorem Fun.okG {x qual : Str} {st : Stmt} {f : Addr} {fd : FuncData} {N ps : List Str} {k : Nat} {sp : Sp} (F : Fun K x qual st f fd) (S : FnScope N ps (defScope st)) (len : ∀ vs H Q E, sp vs H Q E → vs.length = ps.length)
    (hbody : ∀ (cdv : Value) (A : Around) (outer : List Env) (s : Shared) (H : Hp) (vs : List V) (Q : VK) (E : XK), A.guards = some [] → Room k (A.deeper (envOfC qual (defScope st) s.heap.objs.size f cdv)) → sp vs H Q E →
      ∃ t, PSs (cxOf CX0 P w K mg base N qual (defScope st) f cdv A outer s H E).nox (defBody st) t ∧ t { nx := fun _ H' => Q .non H', rt := Q } (start N vs) H) : FnG P w K mg base (k + 1) f fd ps sp where
  len := len
  go := by
    intro A fr s H g us vs Q E hg hr e0 r hb hsp
    obtain ⟨oc, od, kV, doc, pm, an, cdv, ct, osl, rfl, lk, hcd⟩ := F.ex
    have kept : ∀ b o, base.get? b = some o → s.heap.get? b = some o := fun b o e => (e0.bs b o e).1
    have KX : K.In s.heap := e0.mod.kin.keeps kept
    refine codeAny_call_function hr.depth (KX _ _ lk) rfl S.co S.gen rfl (PySem.W.codeRec_of KX hcd) (hb _ _ _ _ (wpAny_newFunctionEnv_cells S.kind (fun y hy => ?_) fun env he s1 x => ?_))
    · rcases S.par y.1 (List.of_mem_zip hy).1 with q | q
      · exact .inl q
      · exact .inr ⟨q, PySem.W.cellsFrom_some _ _ _ (.inl q)⟩
    · subst he
      obtain ⟨t, ht, hq⟩ := hbody cdv A fr s H vs Q E hg (hr.deeper _) hsp
      have I : Inv (cxOf CX0 P w K mg base N qual (defScope st) f cdv A fr s H E) [] (start N vs) H s1 := inv_start S hr.hd e0 (len vs H Q E hsp) r x
      refine ⟨(e0.mod.nolimit.keeps kept).keeps x.toInCall.keep, codeAny_func (wpAny_mono (ht.nox.run [] s1 (start N vs) H _ I hq) (fun fl s2 hfl => ?_) fun _ _ z => z)⟩
      match fl, hfl with
      | .ret u, ⟨v, σ2, H2, J, rv, q⟩ => exact ⟨v, H2, J.os, J.bare, J.base, J.hok, rv, q⟩
      | .next, ⟨σ2, H2, J, q⟩ => exact ⟨.non, H2, J.os, J.bare, J.base, J.hok, rfl, q⟩
      | .brk, ⟨_, _, _, q⟩ => exact (show False from q).elim
      | .cont, ⟨_, _, _, q⟩ => exact (show False from q).elim
theorem def_okG {x qual : Str} {st : Stmt} {f : Addr} {fd : FuncData} {N ps : List Str} {k : Nat} {ms : List Bool} {m : SM} (F : Fun K x qual st f fd) (S : FnScope N ps (defScope st)) (hps : ps.length = ms.length) (hN : ms.length ≤ N.length)
    (hbody : ∀ (cdv : Value) (A : Around) (outer : List Env) (s : Shared) (H : Hp) (E : XK), (A.deeper (envOfC qual (defScope st) s.heap.objs.size f cdv)).guards = some [] → Room k (A.deeper (envOfC qual (defScope st) s.heap.objs.size f cdv)) → XSs (cxOf CX0 P w K mg base N qual (defScope st) f cdv A outer s H E).nox (defBody st) m) :
    FnG P w K mg base (k + 1) f fd ps (spM K ms (fnM N.length ms m)) := by
  refine Fun.okG F S (fun vs H Q E h => ?_) (fun cdv A outer s H vs Q E hg hr h => ?_)
  · obtain ⟨M, ds, r, os, ρ1, hl, hvl, _⟩ := h
    rw [hvl, hps]
  · exact ⟨_, hbody cdv A outer s H E hg hr, body_run hN h⟩
/-- the law's call, from a state in which at most the script is tracked -/
theorem law_from {mb : Str → Option Value} {k : Nat} {fa a : Addr} {fd : FuncData} {x : Str} {sp : Sp} {s₁ : Shared} {vs : List Value} {H : Hp} (KX : K.In s₁.heap) (hns : s₁.heap.Ns mainGlobals mg) (hb : s₁.heap.Ns builtinsNs mb) (hbb : ∀ x : Str, x ≠ "__name__" → mb x = bootBuiltins x) (hlim : s₁.heap.NoLimit) (hg : s₁.gens = #[])
    (ha : s₁.heap.get? a = some { cls := .type "list", data := .seq vs.toArray }) (hr : Room k callerA)
    (F : ∀ base : Heap, K.In base → base.Ns mainGlobals mg → FnG P w K mg base k fa fd [x] sp) (hbind : ∀ (s : Shared) (u : Value), BindsTo s fd ⟨[u], []⟩ [(x, u)])
    (hO : Only H) (hsp : sp [.ref a] H (fun v _ => v = .bl true) E0) (hok : HOk P w H s₁.heap) (hA : ∀ b, H b ≠ none → b = a) (hK : H a ≠ none → K.lookup a = none) :
    codeAny (model P w) callerA (.call (.ref fa) ⟨[.ref a], []⟩) (fun r s' => r = .ok (.ret (.bool true)) ∧ OldK s₁.heap s'.heap ∧ s'.os = s₁.os ∧ AllBare s'.gens) s₁ := by
  have low : ∀ {b : Addr} {o : Obj}, s₁.heap.get? b = some o → H b = none → (hidT s₁.heap H).get? b = some o := hidT_get
  have dictFree : ∀ {b : Addr} {o : Obj} {es : Array DictEntry} {ep : Nat}, s₁.heap.get? b = some o → o.data = .dict es ep → H b = none := by
    intro b o es ep e d
    refine Classical.byContradiction fun z => ?_
    rw [hA b z, ha] at e
    cases e
    cases (show Data.seq vs.toArray _ = Data.dict es ep from d)
  have nsLow : ∀ {b : Addr} {m : Str → Option Value}, s₁.heap.Ns b m → (hidT s₁.heap H).Ns b m := by
    rintro b m ⟨o, es, ep, e, d, r⟩
    exact ⟨o, es, ep, low e (dictFree e d), d, r⟩
  have kLow : K.In (hidT s₁.heap H) := by
    intro b o e
    refine low (KX b o e) (Classical.byContradiction fun z => ?_)
    have hb : b = a := hA b z
    subst hb
    rw [hK z] at e
    cases e
  obtain ⟨mc, l1, l2⟩ := hlim
  have e0 : Env0 P w K mg (hidT s₁.heap H) callerA [] s₁ H := ⟨rfl, ⟨kLow, nsLow hns, ⟨mb, nsLow hb, hbb⟩, mc, nsLow l1, l2⟩, fun b o e => of_hidT e, Nat.le_of_eq (hidT_size _ _), trivial, (fun b hb => by simp [frs] at hb), hok, .of_eq hg⟩
  have run := (F _ kLow (nsLow hns)).go callerA [] s₁ H ⟨[.ref a], []⟩ [.ref a] [.ref a] _ E0 rfl hr e0 (.cons rfl .nil) (hbind s₁ (.ref a)) hsp
  refine codeAny_mono run fun res s2 hres => ?_
  match res, hres with
  | .error _, hres => exact (show False from hres).elim
  | .ok .next, hres => exact hres.elim
  | .ok .brk, hres => exact hres.elim
  | .ok .cont, hres => exact hres.elim
  | .ok (.ret u), ⟨v, H2, os, bare, un, ok2, rv, q⟩ =>
    subst q
    cases (show u = Value.bool true from rv)
    refine ⟨rfl, OldK.of_keep fun b o e => ?_, os, bare⟩
    rcases hO b with z | ⟨ob, xs, z⟩
    · exact un.keep b o e z (fun h => nomatch h) fun h => nomatch h
    · have h1 := (hok b _ z).1
      have h2 := (ok2 b _ (un.frzs b ob _ z)).1
      rw [e] at h1
      cases h1
      exact h2
/-- the law's row from its promise -/
theorem walk_g {l : PySem.W.OpenLaw} {n k : Nat} {q : Program} {loose : List Str} {XP : (Str → Option Value) → Heap → Prop} {YP : World → Heap → Prop} {d : DefRec} {K : Params → PySem.W.Frag} {sp : PySem.W.Frag → Sp} {x : Str} (hn : l.most = some n) (hn2 : n ≤ sizeLine) (hdf : d.params.defaults = []) (hr : Room k callerA)
    (hY : ∀ (w : World) (h : Heap), YP w h → (K w.params).In h)
    (F : ∀ (w : World) (mg : Str → Option Value) (fa : Addr) (h : Heap), (K w.params).In h → h.Ns mainGlobals mg → mg d.name = some (.ref fa) →
      ∃ fd : FuncData, (∀ (s : Shared) (u : Value), BindsTo s fd ⟨[u], []⟩ [(x, u)]) ∧ ∀ base : Heap, (K w.params).In base → base.Ns mainGlobals mg → FnG l.prog w (K w.params) mg base k fa fd [x] (sp (K w.params)))
    (hsp : ∀ (K : PySem.W.Frag) (H : Hp) (a : Addr) (ns : List Int), ns.length ≤ n → Only H → SqL K H a (ns.map V.int) → sp K [.ref a] H (fun v _ => v = .bl true) E0) :
    PySem.W.WalkO q loose XP YP l.row.toRowW d [] (fun f vs => PySem.call f vs) :=
  Att.attach_call hn hdf fun w s₀ s₁ mg mb fa o pm cd doc a vs ns G Y ho hd hcd hmg hobj hints hlen hgens => by
    have KX := hY w _ Y
    obtain ⟨fd, hb, hF⟩ := F w mg fa _ KX G.T.g hmg
    have lenV := hints.length
    have hz : ns.length ≤ sizeLine := Nat.le_trans hlen hn2
    have rv : Vals (ns.map V.int) vs := vals_of_ints hints
    by_cases hk : (K w.params).lookup a = none
    · let H : Hp := fun b => if b = a then some (.frz { cls := .type "list", data := .seq vs.toArray } (.lst (ns.map V.int))) else none
      have Ha : H a = some (.frz { cls := .type "list", data := .seq vs.toArray } (.lst (ns.map V.int))) := if_pos rfl
      have Hn : ∀ b, b ≠ a → H b = none := fun b hb => if_neg hb
      refine law_from (H := H) KX G.T.g G.T.b G.T.builtins G.T.nolimit hgens hobj hr hF hb (fun b => ?_) (hsp _ H a ns hlen (fun b => ?_) (.inl (.inr ⟨_, Ha⟩))) (fun b u z => ?_) (fun b z => Classical.byContradiction fun hb => z (Hn b hb)) fun _ => hk
      · by_cases hb : b = a
        · subst hb; exact .inr ⟨_, _, Ha⟩
        · exact .inl (Hn b hb)
      · by_cases hb : b = a
        · subst hb; exact .inr ⟨_, _, Ha⟩
        · exact .inl (Hn b hb)
      · by_cases hb : b = a
        · subst hb
          rw [Ha] at z
          cases z
          exact ⟨hobj, by rw [List.length_map]; exact hz, vs, _, rv, hobj⟩
        · rw [Hn b hb] at z
          cases z
    · cases hk' : (K w.params).lookup a with
      | none => exact (hk hk').elim
      | some o' =>
        have e := KX a o' hk'
        rw [hobj] at e
        cases e
        exact law_from (H := fun _ => none) KX G.T.g G.T.b G.T.builtins G.T.nolimit hgens hobj hr hF hb (fun _ => .inl rfl) (hsp _ _ a ns hlen (fun _ => .inl rfl) (.inr ⟨_, vs.toArray, _, hk', rfl, rfl, rfl, by rw [List.size_toArray, lenV]; exact hz, by simpa using rv⟩)) (fun b u z => nomatch z) (fun b z => (z rfl).elim) fun z => (z rfl).elim
end
end Vw

set_option Elab.async false
set_option linter.all false
set_option maxRecDepth 100000
/-! data as it is read off the heap; repr, sorted -/
namespace Vw
open PySem L2 PyProof.Rows

theorem deep_out {h : Heap} {a : Addr} {d : PyData} {n : Nat} {bs : List Addr} (r : RD h (.ref a) d) (hd : n < d.depth) (hb : ReadAtMost h n bs) : a ∉ bs := let ⟨_, r⟩ := r.rd; not_mem_of_deeper r hd hb
theorem deep_in {h : Heap} {a : Addr} {d : PyData} {n : Nat} {bs : List Addr} (r : RD h (.ref a) d) (hd : n ≤ d.depth) (hb : ReadAtMost h n bs) : ReadAtMost h d.depth (a :: bs) := let ⟨_, r⟩ := r.rd; ReadAtMost.cons r hd hb
section
variable {prog : Program} {w : World} {h : Heap}
mutual
theorem RD.k : ∀ {u : Value} {d : PyData}, RD h u d → d.showable = true → d.shown.length ≤ sizeLine → ∃ bs, ReadAtMost h d.depth bs ∧ ReprK prog w bs h d.depth u d.shown
  | _, _, .non, _, _ => ⟨[], fun _ z => (by cases z), by rw [PyData.shown]; exact .of_is ReprIs.none _ _ _⟩
  | _, _, .bl b, _, _ => ⟨[], fun _ z => (by cases z), by rw [PyData.shown]; exact .of_is (ReprIs.bool b) _ _ _⟩
  | _, _, .int i t, hs, _ => ⟨[], fun _ z => (by cases z), by rw [PyData.shown]; exact .of_is (ReprIs.int t (of_decide_eq_true (by rw [PyData.showable] at hs; exact hs))) _ _ _⟩
  | _, _, .str x t, _, hz => ⟨[], fun _ z => (by cases z), by rw [PyData.shown] at hz ⊢; exact .of_is (ReprIs.str x t hz) _ _ _⟩
  | _, _, .list (a := a) (us := us) (ds := ds) h1 h2 h3 h4, hs, hz => by
    rw [PyData.shown] at hz
    rw [PyData.showable] at hs
    obtain ⟨bs, g1, g2⟩ := RDs.k h4 hs fun t ht => Nat.le_trans (listText_mem_le ht) hz
    have r : RD h (.ref a) (.list ds) := .list h1 h2 h3 h4
    have e : (PyData.list ds).depth = PyData.depthAll ds + 1 := by rw [PyData.depth]
    refine ⟨a :: bs, deep_in r (by omega) g1, ?_⟩
    have na := deep_out r (by omega) g1
    rw [e, PyData.shown]
    obtain ⟨l⟩ := us
    match l, h4, g2, h3 with
    | [], h4, g2, h3 =>
      have h5 : RDs h [] ds := h4
      cases h5
      rw [PyData.shownAll, listText_nil]
      exact ReprK.listEmpty h1 h2 h3
    | x :: l, h4, g2, h3 => exact ReprK.list h1 h2 h3 na (by simpa using g2.length_eq) fun i y q => g2.item i y (by simpa using q)
  | _, _, .tuple (a := a) (ds := ds) h1 h2 h3 h4, hs, hz => by
    rw [PyData.shown] at hz
    rw [PyData.showable] at hs
    obtain ⟨bs, g1, g2⟩ := RDs.k h4 hs fun t ht => Nat.le_trans (tupleText_mem_le ht) hz
    have r : RD h (.ref a) (.tuple ds) := .tuple h1 h2 h3 h4
    have e : (PyData.tuple ds).depth = PyData.depthAll ds + 1 := by rw [PyData.depth]
    refine ⟨a :: bs, deep_in r (by omega) g1, ?_⟩
    have na := deep_out r (by omega) g1
    rw [e, PyData.shown]
    exact ReprK.tuple h1 h2 h3 na g2
  | _, _, .dict (a := a) (es := es) (ps := ps) h0 h1 h2 h3 h4 h5, hs, hz => by
    rw [PyData.shown] at hz
    rw [PyData.showable] at hs
    obtain ⟨s1, s2⟩ := PyData.showableKv_split ps hs
    obtain ⟨b1, g1, k1⟩ := RDs.k h4 s1 fun t ht => by
      obtain ⟨p, m, l⟩ := PyData.shownKv_key_le ps t ht
      exact Nat.le_trans l (Nat.le_trans (dictText_mem_le m) hz)
    obtain ⟨b2, g2, k2⟩ := RDs.k h5 s2 fun t ht => by
      obtain ⟨p, m, l⟩ := PyData.shownKv_val_le ps t ht
      exact Nat.le_trans l (Nat.le_trans (dictText_mem_le m) hz)
    have r : RD h (.ref a) (.dict ps) := .dict h0 h1 h2 h3 h4 h5
    have e : (PyData.dict ps).depth = PyData.depthKv ps + 1 := by rw [PyData.depth]
    have l1 := PyData.depthAll_keys_le ps
    have l2 := PyData.depthAll_vals_le ps
    have g : ReadAtMost h (PyData.depthKv ps) (b1 ++ b2) := (g1.mono l1).append (g2.mono l2)
    refine ⟨a :: (b1 ++ b2), deep_in r (by omega) g, ?_⟩
    have na := deep_out r (by omega) g
    rw [e, PyData.shown, PyData.shownKv_eq]
    exact ReprK.dict h1 h2 h3 h0 na (ReprEntriesK.of_two es.toList _ _ (k1.more_le (fun b z => List.mem_append_left _ z) l1) (k2.more_le (fun b z => List.mem_append_right _ z) l2))
theorem RDs.k : ∀ {us : List Value} {ds : List PyData}, RDs h us ds → PyData.showableAll ds = true → (∀ t ∈ PyData.shownAll ds, t.length ≤ sizeLine) → ∃ bs, ReadAtMost h (PyData.depthAll ds) bs ∧ ReprAllK prog w bs h (PyData.depthAll ds) us (PyData.shownAll ds)
  | _, _, .nil, _, _ => ⟨[], fun _ z => (by cases z), by rw [PyData.shownAll]; exact .nil⟩
  | _, _, .cons (d := d) (ds := ds) r t, hs, hz => by
    rw [PyData.showableAll, Bool.and_eq_true] at hs
    rw [PyData.shownAll] at hz
    obtain ⟨b1, g1, k1⟩ := RD.k r hs.1 (hz _ (by simp))
    obtain ⟨b2, g2, k2⟩ := RDs.k t hs.2 fun t ht => hz t (by simp [ht])
    have e : PyData.depthAll (d :: ds) = max d.depth (PyData.depthAll ds) := by rw [PyData.depthAll]
    refine ⟨b1 ++ b2, ?_, ?_⟩
    · rw [e]
      exact (g1.mono (Nat.le_max_left _ _)).append (g2.mono (Nat.le_max_right _ _))
    · rw [e, PyData.shownAll]
      exact .cons ((k1.more fun b z => List.mem_append_left _ z).level_le (Nat.le_max_left _ _)) (k2.more_le (fun b z => List.mem_append_right _ z) (Nat.le_max_right _ _))
end
/-- repr of what is read -/
theorem repr_of_RD {A : Around} {E : Value → Shared → Prop} {s : Shared} {Q : Value → Shared → Prop} : ∀ {u : Value} {d : PyData}, RD s.heap u d → d.showable = true → d.shown.length ≤ sizeLine → A.guards = some [] → A.units + (d.depth + 1) < cLine →
    (∀ h' v tk, (∀ b o, s.heap.get? b = some o → h'.get? b = some o) → Q (.str d.shown v) { s with heap := h', toks := tk }) → wpAny (model prog w) A (call (.builtin "repr") [u]) Q E s
  | _, _, .non, _, _, _, _, hQ => PySem.P.repr_of_none (by rw [PyData.shown] at hQ; exact hQ s.heap _ _ fun _ _ e => e)
  | _, _, .bl b, _, _, _, _, hQ => PySem.P.repr_of_bool (by rw [PyData.shown] at hQ; exact hQ s.heap _ _ fun _ _ e => e)
  | _, _, .int i t, hs, _, _, _, hQ => PySem.P.repr_of_int (of_decide_eq_true (by rw [PyData.showable] at hs; exact hs)) (by rw [PyData.shown] at hQ; exact hQ s.heap _ _ fun _ _ e => e)
  | _, _, .str x t, _, hz, _, _, hQ => PySem.P.repr_of_str (by rw [PyData.shown] at hQ; exact hQ s.heap _ _ fun _ _ e => e) (by rw [PyData.shown] at hz; exact hz)
  | _, _, .list (a := a) (us := us) (ds := ds) h1 h2 h3 h4, hs, hz, hg, hu, hQ => by
    rw [PyData.shown] at hz hQ
    rw [PyData.showable] at hs
    have e : (PyData.list ds).depth = PyData.depthAll ds + 1 := by rw [PyData.depth]
    rw [e] at hu
    obtain ⟨bs, g1, g2⟩ := RDs.k (prog := prog) (w := w) h4 hs fun t ht => Nat.le_trans (listText_mem_le ht) hz
    have na := deep_out (.list h1 h2 h3 h4) (by omega) g1
    refine call_repr_slot (by omega) ⟨_, h1, h2⟩ F.slot_list_repr.toG ?_
    obtain ⟨l⟩ := us
    match l, h4, g2, h3 with
    | [], h4, g2, h3 =>
      have h5 : RDs s.heap [] ds := h4
      cases h5
      rw [PyData.shownAll, listText_nil] at hQ
      exact call_list_repr_empty ⟨_, h1, h2⟩ h1 h3 ⟨_, _, rfl, hQ s.heap _ _ fun _ _ e => e⟩
    | x :: l, h4, g2, h3 => exact call_list_reprK h1 h2 h3 na (by simpa using g2.length_eq) (fun i y q => g2.item i y (by simpa using q)) hg (fun b _ => Clear.nil b) (by show A.units + 1 + _ < cLine; omega) (fun _ _ e => e) (fun h' v tk hk => ⟨_, _, rfl, hQ h' v tk hk⟩) hz
  | _, _, .tuple (a := a) (ds := ds) h1 h2 h3 h4, hs, hz, hg, hu, hQ => by
    rw [PyData.shown] at hz hQ
    rw [PyData.showable] at hs
    have e : (PyData.tuple ds).depth = PyData.depthAll ds + 1 := by rw [PyData.depth]
    rw [e] at hu
    obtain ⟨bs, g1, g2⟩ := RDs.k (prog := prog) (w := w) h4 hs fun t ht => Nat.le_trans (tupleText_mem_le ht) hz
    have na := deep_out (.tuple h1 h2 h3 h4) (by omega) g1
    refine call_repr_slot (by omega) ⟨_, h1, h2⟩ F.slot_tuple_repr ?_
    exact call_tuple_reprK h1 h2 h3 na g2 hg (fun b _ => Clear.nil b) (by show A.units + 1 + _ < cLine; omega) (fun _ _ e => e) (fun h' v tk hk => ⟨_, _, rfl, hQ h' v tk hk⟩) hz
  | _, _, .dict (a := a) (es := es) (ps := ps) h0 h1 h2 h3 h4 h5, hs, hz, hg, hu, hQ => by
    rw [PyData.shown] at hz hQ
    rw [PyData.showable] at hs
    have e : (PyData.dict ps).depth = PyData.depthKv ps + 1 := by rw [PyData.depth]
    rw [e] at hu
    obtain ⟨s1, s2⟩ := PyData.showableKv_split ps hs
    obtain ⟨b1, g1, k1⟩ := RDs.k (prog := prog) (w := w) h4 s1 fun t ht => by
      obtain ⟨p, m, l⟩ := PyData.shownKv_key_le ps t ht
      exact Nat.le_trans l (Nat.le_trans (dictText_mem_le m) hz)
    obtain ⟨b2, g2, k2⟩ := RDs.k (prog := prog) (w := w) h5 s2 fun t ht => by
      obtain ⟨p, m, l⟩ := PyData.shownKv_val_le ps t ht
      exact Nat.le_trans l (Nat.le_trans (dictText_mem_le m) hz)
    have l1 := PyData.depthAll_keys_le ps
    have l2 := PyData.depthAll_vals_le ps
    have g : ReadAtMost s.heap (PyData.depthKv ps) (b1 ++ b2) := (g1.mono l1).append (g2.mono l2)
    have na := deep_out (.dict h0 h1 h2 h3 h4 h5) (by omega) g
    refine call_repr_slot (by omega) ⟨_, h1, h2⟩ F.slot_dict_repr ?_
    rw [PyData.shownKv_eq] at hz hQ
    exact call_dict_reprK h1 h2 h3 h0 na (ReprEntriesK.of_two es.toList _ _ (k1.more_le (fun b z => List.mem_append_left _ z) l1) (k2.more_le (fun b z => List.mem_append_right _ z) l2)) hg (fun b _ => Clear.nil b) (by show A.units + 1 + _ < cLine; omega) (fun _ _ e => e) (fun h' v tk hk => ⟨_, _, rfl, hQ h' v tk hk⟩) hz
end
section
variable {X : Cx} {pins : List (Addr × Obj)} {σ : L2.St} {H : Hp} {s : Shared} {A : Addr → Prop}
theorem reads_keys : ∀ {es : List DictEntry} {vs : List (Key × Value)} {kvs : List (Key × V)} {ks : List PyData}, Pairs (mixKind X.prog X.w) es vs → KV kvs vs → ks = kvs.map (fun p => keyD p.1) → RDs s.heap (es.map (·.key)) ks ∧ Vals (kvs.map (·.2)) (es.map (·.val))
  | es, vs, kvs, ks, hp, hk, e => by
    subst e
    revert kvs
    induction hp with
    | nil => intro kvs hk; cases hk; exact ⟨.nil, .nil⟩
    | cons h g t ih =>
      intro kvs hk
      cases hk with
      | cons h2 t2 =>
        obtain ⟨i1, i2⟩ := ih _ t2
        refine ⟨?_, .cons (by dsimp only; rw [g]; exact h2.2) i2⟩
        have h' := keyIs_shape h
        rw [List.map_cons, List.map_cons]
        rcases h' with ⟨i, tk, e1, e2⟩ | ⟨x, tk, e1, e2⟩
        · rw [h2.1, e1, e2]; exact .cons (.int _ _) i1
        · rw [h2.1, e1, e2]; exact .cons (.str _ _) i1
theorem reads_flat : ∀ {vs : List Value} {k : List Key}, Vals (k.map kV) vs → RDs s.heap vs (k.map keyD)
  | [], [], _ => .nil
  | v :: vs, .inl i :: k, h => by
    cases h with
    | cons r t =>
      obtain ⟨tk, rfl⟩ := r
      exact .cons (.int _ _) (reads_flat t)
  | v :: vs, .inr i :: k, h => by
    cases h with
    | cons r t =>
      obtain ⟨tk, rfl⟩ := r
      exact .cons (.str _ _) (reads_flat t)
theorem reads_keysT (I : Inv X pins σ H s) : ∀ {kvs : List (List Key × V)} {xs : List (List Key × Addr × Value)} {ks : List PyData}, Paired (fun (p : List Key × V) (q : List Key × Addr × Value) => p.1 = q.1 ∧ H q.2.1 = some (.tup (p.1.map kV)) ∧ RelV p.2 q.2.2) kvs xs →
    ks = kvs.map (fun p => keysD p.1) → RDs s.heap ((xs.map (entryOfKey (tupleKind (mixKind X.prog X.w)))).map (·.key)) ks ∧ Vals (kvs.map (·.2)) ((xs.map (entryOfKey (tupleKind (mixKind X.prog X.w)))).map (·.val))
  | _, _, _, .nil, e => by subst e; exact ⟨.nil, .nil⟩
  | _, _, _, .cons (a := a) (b := b) h t, e => by
    subst e
    obtain ⟨i1, i2⟩ := reads_keysT I t rfl
    refine ⟨?_, .cons h.2.2 i2⟩
    obtain ⟨_, its, rv, o, h1, h2, n, h3⟩ := (show ObjOk X.prog X.w H s.heap b.2.1 (.tup (a.1.map kV)) from I.hok _ _ h.2.1)
    have r : RD s.heap (.ref b.2.1) (keysD a.1) := .tuple h1 h2 h3 (reads_flat (by simpa using rv))
    exact .cons r i1
theorem ob_deep {n : Str} {es : List (PyData × PyData)} : ¬ (PyData.dict ((.bool true, deepD n 70) :: es)).depth ≤ 60 := by
  rw [PyData.depth, PyData.depthKv, deepD_depth]
  omega
mutual
/-- what stands for data is read as it -/
theorem Rep.reads (I : Inv X pins σ H s) : ∀ {v : V} {d : PyData} {u : Value}, Rep X.K A H v d → d.depth ≤ 60 → RelV v u → RD s.heap u d
  | _, _, _, .non, _, r => by cases r; exact .non
  | _, _, _, .bl b, _, r => by cases r; exact .bl _
  | _, _, _, .int b, _, r => by obtain ⟨t, rfl⟩ := r; exact .int _ _
  | _, _, _, .str b, _, r => by obtain ⟨t, rfl⟩ := r; exact .str _ _
  | _, _, _, .lst (a := a) na h t, hd, r => by
    cases r
    obtain ⟨_, its, n, rv, ho⟩ := (show ObjOk X.prog X.w H s.heap a (.lst _) from I.hok a _ h)
    rw [PyData.depth] at hd
    exact .list ho rfl rfl (RepAll.reads I t (by omega) rv)
  | _, _, _, .tup (a := a) na h t, hd, r => by
    cases r
    obtain ⟨its, rv, ⟨o, h1, h2, n, h3⟩, _⟩ := I.tuple (.inl h)
    rw [PyData.depth] at hd
    exact .tuple h1 h2 h3 (RepAll.reads I t (by omega) rv)
  | _, _, _, .tupK (a := a) h t, hd, r => by
    cases r
    obtain ⟨its, rv, ⟨o, h1, h2, n, h3⟩, _⟩ := I.tuple (.inr h)
    rw [PyData.depth] at hd
    exact .tuple h1 h2 h3 (RepAll.reads I t (by omega) rv)
  | _, _, _, .dG (a := a) (ds := ds) na h e t u, hd, r => by
    cases r
    obtain ⟨e1, _⟩ := (show ObjOk X.prog X.w H s.heap a (DicO a _ _) from I.hok a _ h)
    rw [PyData.depth] at hd
    have l1 := PyData.depthAll_keys_le ds
    have l2 := PyData.depthAll_vals_le ds
    exact .dict e.sys e1 rfl rfl (RepAll.reads I t (by omega) e.keys) (RepAll.reads I u (by omega) e.vals)
  | _, _, _, .obj _ _ _ _ _ _ _ _, hd, _ => (ob_deep hd).elim
  | _, _, _, .obj0 _ _ _, hd, _ => (ob_deep hd).elim
theorem RepAll.reads (I : Inv X pins σ H s) : ∀ {vs : List V} {ds : List PyData} {us : List Value}, RepAll X.K A H vs ds → PyData.depthAll ds ≤ 60 → Vals vs us → RDs s.heap us ds
  | _, _, _, .nil, _, r => by cases r; exact .nil
  | _, _, _, .cons h t, hd, r => by
    rw [PyData.depthAll] at hd
    cases r with
    | cons r rr => exact .cons (Rep.reads I h (by omega) r) (RepAll.reads I t (by omega) rr)
end
theorem RepT.reads (I : Inv X pins σ H s) {v : V} {d : PyData} {u : Value} (h : RepT X.K A H v d) (hd : d.depth ≤ 60) (r : RelV v u) : RD s.heap u d := by
  rcases h with h | ⟨p, rfl, h⟩
  · exact h.reads I hd r
  · exact (h.rep (A' := fun _ => False) (fun _ z => z.elim) fun z => z).reads I hd r
/-! ### repr -/
def rRepr (K : PySem.W.Frag) : List V → Hp → VK → Prop := fun vs H Q => ∃ A x d, vs = [x] ∧ RepT K A H x d ∧ d.showable = true ∧ d.shown.length ≤ sizeLine ∧ d.depth ≤ 60 ∧ Q (.str d.shown) H
theorem c_repr (hg : X.A.guards = some []) (hu : X.A.units + 64 < cLine) : CallR X (.builtin "repr") (rRepr X.K) := by
  intro pins s σ H vs us Q I r h
  obtain ⟨A, x, d, rfl, h, hs, hz, hd, q⟩ := h
  obtain ⟨u, rfl, r1⟩ := vals1 r
  exact repr_of_RD (h.reads I hd r1) hs hz hg (by omega) fun h' v tk hk => ⟨.str d.shown, H, I.kept hk, ⟨_, rfl⟩, q⟩
def gRepr : List PyData → Option Sl
  | [d] => if d.showable = true ∧ d.shown.length ≤ sizeLine ∧ d.depth ≤ 60 then some (.fz (.str d.shown)) else none
  | _ => none
theorem fnRepr {K : PySem.W.Frag} : FnD K (rRepr K) gRepr := fun A vs ds H s Q hA hr e k => by
  unfold gRepr at e
  split at e
  · split at e
    · rename_i hd
      cases e
      obtain ⟨x, rfl, h⟩ := hr.one
      exact ⟨A, x, _, rfl, h, hd.1, hd.2.1, hd.2.2, k _ H (Same.refl H) (.str _)⟩
    · cases e
  · cases e
end
end Vw

set_option Elab.async false
set_option linter.all false
set_option maxRecDepth 100000
/-! the rules by short names; defs that are called -/
namespace Vw
open PySem L2 PyProof.Rows

section
variable {X : Cx} {a b c : Expr} {oa ob oc : Opd} {pos p : Pos} {k : Nat} {os : List Opd} {es : List Expr}
theorem x_add (ha : XO X a oa) (hb : XO X b ob) : XE X (.BinOp a .Add b pos) (eFn gAdd [oa, ob]) := x_bin (((op_add.or op_add_str).or op_catA).or op_cat) fnAdd ha hb
theorem x_sub (ha : XO X a oa) (hb : XO X b ob) : XE X (.BinOp a .Sub b pos) (eFn gSub [oa, ob]) := x_bin op_sub fnI0 ha hb
theorem x_mul (ha : XO X a oa) (hb : XO X b ob) : XE X (.BinOp a .Mult b pos) (eFn gMul [oa, ob]) := x_bin op_mulW (fnI fun i j h => (of_decide_eq_true (p := i.natAbs.log2 + j.natAbs.log2 < 1000000) h : CMulW i j)) ha hb
theorem x_div (ha : XO X a oa) (hb : XO X b ob) : XE X (.BinOp a .FloorDiv b pos) (eFn gDiv [oa, ob]) := x_bin op_fdivW (fnI fun i j h => (of_decide_eq_true (p := 0 < j ∧ j.natAbs.log2 < 9000) h : CDivW i j)) ha hb
theorem x_mod (ha : XO X a oa) (hb : XO X b ob) : XE X (.BinOp a .Mod b pos) (eFn gMod [oa, ob]) := x_bin op_mod (fnI fun _ _ h => of_decide_eq_true h) ha hb
theorem x_pow (ha : XO X a oa) (hb : XO X b ob) : XE X (.BinOp a .Pow b pos) (eFn gPow [oa, ob]) := x_bin op_pow (fnI fun i j h => (of_decide_eq_true (p := 0 ≤ j ∧ j ≤ 1000000 ∧ i.natAbs < 2 ^ 64) h : CPow i j)) ha hb
theorem x_neg (ha : XO X a oa) : XE X (.UnaryOp .USub a pos) (eFn gNeg [oa]) := x_un un_neg (fun A vs ds H s Q hA hr e k x hv => by
  subst hv
  unfold gNeg at e
  split at e
  · cases e
    obtain ⟨x', e', h⟩ := hr.one
    cases e'
    exact ⟨_, h.int, k _ H (Same.refl H) (.int _)⟩
  · cases e) ha
theorem x_eq (hr : Room k X.A) (ha : XO X a oa) (hb : XO X b ob) : XE X (.Compare a [.Eq] [b] pos) (eFn gEq [oa, ob]) := x_cmp ((op_eqD hr.units).or op_eq) fnEq ha hb (nomark _ (by decide) (by decide))
theorem x_ne (hr : Room k X.A) (ha : XO X a oa) (hb : XO X b ob) : XE X (.Compare a [.NotEq] [b] pos) (eFn gNe [oa, ob]) := x_cmp ((op_neD hr.units).or op_ne) fnNe ha hb (nomark _ (by decide) (by decide))
theorem x_lt (ha : XO X a oa) (hb : XO X b ob) : XE X (.Compare a [.Lt] [b] pos) (eFn gLt [oa, ob]) := x_cmp op_lt fnIB ha hb (nomark _ (by decide) (by decide))
theorem x_le (ha : XO X a oa) (hb : XO X b ob) : XE X (.Compare a [.LtE] [b] pos) (eFn gLe [oa, ob]) := x_cmp op_le fnIB ha hb (nomark _ (by decide) (by decide))
theorem x_gt (ha : XO X a oa) (hb : XO X b ob) : XE X (.Compare a [.Gt] [b] pos) (eFn gGt [oa, ob]) := x_cmp op_gt fnIB ha hb (nomark _ (by decide) (by decide))
theorem x_ge (ha : XO X a oa) (hb : XO X b ob) : XE X (.Compare a [.GtE] [b] pos) (eFn gGe [oa, ob]) := x_cmp op_ge fnIB ha hb (nomark _ (by decide) (by decide))
theorem x_isN (ha : XO X a oa) (hb : XO X b ob) : XE X (.Compare a [.Is] [b] pos) (eFn gIsN [oa, ob]) := x_cmp op_isN fnIsN ha hb (nomark _ (by decide) (by decide))
theorem x_notN (ha : XO X a oa) (hb : XO X b ob) : XE X (.Compare a [.IsNot] [b] pos) (eFn gNotN [oa, ob]) := x_cmp op_notN fnNotN ha hb (nomark _ (by decide) (by decide))
theorem x_in (hr : Room k X.A) (ha : XO X a oa) (hb : XO X b ob) (hm : behindInMarks .In b = false := by rfl) : XE X (.Compare a [.In] [b] pos) (eFn gIn [oa, ob]) := x_cmp (op_inA (by have := hr.un; omega)) fnInA ha hb hm
theorem x_notIn (hr : Room k X.A) (ha : XO X a oa) (hb : XO X b ob) (hm : behindInMarks .NotIn b = false := by rfl) : XE X (.Compare a [.NotIn] [b] pos) (eFn gNotIn [oa, ob]) := x_cmp (op_notInA (by have := hr.un; omega)) fnInA ha hb hm
theorem t_eq (hr : Room k X.A) (ha : XO X a oa) (hb : XO X b ob) : XT X (.Compare a [.Eq] [b] pos) (bOf (eFn gEq [oa, ob])) := t_cmp ((op_eqD hr.units).or op_eq) fnEq ha hb (nomark _ (by decide) (by decide))
theorem t_ne (hr : Room k X.A) (ha : XO X a oa) (hb : XO X b ob) : XT X (.Compare a [.NotEq] [b] pos) (bOf (eFn gNe [oa, ob])) := t_cmp ((op_neD hr.units).or op_ne) fnNe ha hb (nomark _ (by decide) (by decide))
theorem t_lt (ha : XO X a oa) (hb : XO X b ob) : XT X (.Compare a [.Lt] [b] pos) (bOf (eFn gLt [oa, ob])) := t_cmp op_lt fnIB ha hb (nomark _ (by decide) (by decide))
theorem t_le (ha : XO X a oa) (hb : XO X b ob) : XT X (.Compare a [.LtE] [b] pos) (bOf (eFn gLe [oa, ob])) := t_cmp op_le fnIB ha hb (nomark _ (by decide) (by decide))
theorem t_gt (ha : XO X a oa) (hb : XO X b ob) : XT X (.Compare a [.Gt] [b] pos) (bOf (eFn gGt [oa, ob])) := t_cmp op_gt fnIB ha hb (nomark _ (by decide) (by decide))
theorem t_ge (ha : XO X a oa) (hb : XO X b ob) : XT X (.Compare a [.GtE] [b] pos) (bOf (eFn gGe [oa, ob])) := t_cmp op_ge fnIB ha hb (nomark _ (by decide) (by decide))
theorem t_isN (ha : XO X a oa) (hb : XO X b ob) : XT X (.Compare a [.Is] [b] pos) (bOf (eFn gIsN [oa, ob])) := t_cmp op_isN fnIsN ha hb (nomark _ (by decide) (by decide))
theorem t_notN (ha : XO X a oa) (hb : XO X b ob) : XT X (.Compare a [.IsNot] [b] pos) (bOf (eFn gNotN [oa, ob])) := t_cmp op_notN fnNotN ha hb (nomark _ (by decide) (by decide))
theorem t_in (hr : Room k X.A) (ha : XO X a oa) (hb : XO X b ob) (hm : behindInMarks .In b = false := by rfl) : XT X (.Compare a [.In] [b] pos) (bOf (eFn gIn [oa, ob])) := t_cmp (op_inA (by have := hr.un; omega)) fnInA ha hb hm
theorem t_notIn (hr : Room k X.A) (ha : XO X a oa) (hb : XO X b ob) (hm : behindInMarks .NotIn b = false := by rfl) : XT X (.Compare a [.NotIn] [b] pos) (bOf (eFn gNotIn [oa, ob])) := t_cmp (op_notInA (by have := hr.un; omega)) fnInA ha hb hm
theorem x_lele (ha : XO X a oa) (hb : XO X b ob) (hc : XO X c oc) (hm : lastMarks [.LtE, .LtE] [b, c] = false := by rfl) : XE X (.Compare a [.LtE, .LtE] [b, c] pos) (eChain gLe gLe oa ob oc) := x_chain op_le op_le fnIB fnIB ha hb hc hm
theorem t_lele (ha : XO X a oa) (hb : XO X b ob) (hc : XO X c oc) (hm : lastMarks [.LtE, .LtE] [b, c] = false := by rfl) : XT X (.Compare a [.LtE, .LtE] [b, c] pos) (bOf (eChain gLe gLe oa ob oc)) := t_chain op_le op_le fnIB fnIB ha hb hc hm
theorem x_item (ha : XO X a oa) (hb : XO X b ob) (hs : PlainIx b := by exact fun _ _ => rfl) : XE X (.Subscript a b pos) (eFn gIx [oa, ob]) := x_ix ix_seq fnIx ha hb hs
/-- is True, is False of truths -/
def gIsB (neg : Bool) : List PyData → Option Sl
  | [.bool x, .bool y] => some (.fz (.bool (neg ^^ (x == y))))
  | _ => none
theorem x_len (gl : Gl X "len") (hm : X.mg "len" = none) (ha : XA X [a] os) (he : starEach [a] X.env = (false, eval a X.env) :: starEach [] X.env := by rfl) (hpl : (backTo pos (starEach [] X.env)).any (·.1) = false := by rfl) : XE X (.Call (.Name "len" p) [a] [] pos) (eFn gLen os) := x_callB c_len fnLen gl hm boot_len ha (by decide) (by decide) he hpl
theorem x_all (hc : X.calm = true) (gl : Gl X "all") (hm : X.mg "all" = none) (ha : XA X [a] os) (he : starEach [a] X.env = (false, eval a X.env) :: starEach [] X.env := by rfl) (hpl : (backTo pos (starEach [] X.env)).any (·.1) = false := by rfl) : XE X (.Call (.Name "all" p) [a] [] pos) (eFn gAll os) := x_callB (cr_all hc) fnAll gl hm (by decide +kernel) ha (by decide) (by decide) he hpl
theorem x_any (hc : X.calm = true) (gl : Gl X "any") (hm : X.mg "any" = none) (ha : XA X [a] os) (he : starEach [a] X.env = (false, eval a X.env) :: starEach [] X.env := by rfl) (hpl : (backTo pos (starEach [] X.env)).any (·.1) = false := by rfl) : XE X (.Call (.Name "any" p) [a] [] pos) (eFn gAny os) := x_callB (cr_any hc) fnAny gl hm (by decide +kernel) ha (by decide) (by decide) he hpl
theorem x_sum (hc : X.calm = true) (gl : Gl X "sum") (hm : X.mg "sum" = none) (ha : XA X [a] os) (he : starEach [a] X.env = (false, eval a X.env) :: starEach [] X.env := by rfl) (hpl : (backTo pos (starEach [] X.env)).any (·.1) = false := by rfl) : XE X (.Call (.Name "sum" p) [a] [] pos) (eFn gSum os) := x_callB (cr_sum hc) fnSum gl hm (by decide +kernel) ha (by decide) (by decide) he hpl
theorem x_abs (gl : Gl X "abs") (hm : X.mg "abs" = none) (ha : XA X [a] os) (he : starEach [a] X.env = (false, eval a X.env) :: starEach [] X.env := by rfl) (hpl : (backTo pos (starEach [] X.env)).any (·.1) = false := by rfl) : XE X (.Call (.Name "abs" p) [a] [] pos) (eFn gAbs os) := x_callB c_abs fnAbs gl hm (by decide +kernel) ha (by decide) (by decide) he hpl
theorem x_min (hc : X.calm = true) (gl : Gl X "min") (hm : X.mg "min" = none) (ha : XA X (a :: es) os) (he : starEach (a :: es) X.env = (false, eval a X.env) :: starEach es X.env := by rfl) (hpl : (backTo pos (starEach es X.env)).any (·.1) = false := by rfl) : XE X (.Call (.Name "min" p) (a :: es) [] pos) (eFn gMin os) := x_callB (c_min hc) fnMin gl hm (by decide +kernel) ha (by decide) (by decide) he hpl
theorem x_max (hc : X.calm = true) (gl : Gl X "max") (hm : X.mg "max" = none) (ha : XA X (a :: es) os) (he : starEach (a :: es) X.env = (false, eval a X.env) :: starEach es X.env := by rfl) (hpl : (backTo pos (starEach es X.env)).any (·.1) = false := by rfl) : XE X (.Call (.Name "max" p) (a :: es) [] pos) (eFn gMax os) := x_callB (c_max hc) fnMax gl hm (by decide +kernel) ha (by decide) (by decide) he hpl
theorem x_int' (gl : Gl X "int") (hm : X.mg "int" = none) (ha : XA X [a] os) (he : starEach [a] X.env = (false, eval a X.env) :: starEach [] X.env := by rfl) (hpl : (backTo pos (starEach [] X.env)).any (·.1) = false := by rfl) : XE X (.Call (.Name "int" p) [a] [] pos) (eFn gInt os) := x_callTy c_int fnInt gl hm boot_int ha (by decide) (by decide) he hpl
theorem x_list (gl : Gl X "list") (hm : X.mg "list" = none) (ha : XA X [a] os) (he : starEach [a] X.env = (false, eval a X.env) :: starEach [] X.env := by rfl) (hpl : (backTo pos (starEach [] X.env)).any (·.1) = false := by rfl) : XE X (.Call (.Name "list" p) [a] [] pos) (eFn gList os) := x_callTy c_list fnList gl hm (by decide +kernel) ha (by decide) (by decide) he hpl
theorem x_tuple (gl : Gl X "tuple") (hm : X.mg "tuple" = none) (ha : XA X [a] os) (he : starEach [a] X.env = (false, eval a X.env) :: starEach [] X.env := by rfl) (hpl : (backTo pos (starEach [] X.env)).any (·.1) = false := by rfl) : XE X (.Call (.Name "tuple" p) [a] [] pos) (eFn gTuple os) := x_callTy c_tuple fnTuple gl hm (by decide +kernel) ha (by decide) (by decide) he hpl
theorem x_repr (hgd : X.A.guards = some []) (hr : Room k X.A) (gl : Gl X "repr") (hm : X.mg "repr" = none) (ha : XA X [a] os) (he : starEach [a] X.env = (false, eval a X.env) :: starEach [] X.env := by rfl) (hpl : (backTo pos (starEach [] X.env)).any (·.1) = false := by rfl) : XE X (.Call (.Name "repr" p) [a] [] pos) (eFn gRepr os) := x_callB (c_repr hgd hr.units) fnRepr gl hm (by decide +kernel) ha (by decide) (by decide) he hpl
/-- an empty display -/
theorem x_tup0 {x1} : XE X (.Tuple [] x1 pos) (eFn gTup' []) := x_tup xa_nil rfl
end
/-! ### defs that are called -/
abbrev Fn := List PyData → Option (Sl × List PyData)
structure Cal (P : Program) (w : World) (K : PySem.W.Frag) (mg : Str → Option Value) (base : Heap) (k : Nat) (x : Str) (ms : List Bool) (m : Fn) : Prop where
  ex : ∃ (f : Addr) (fd : FuncData) (ps : List Str), FnOk P w K mg base CX0 k f fd ps (spM K ms m) ∧ mg x = some (.ref f) ∧ PySem.W.keepIn K (.ref f) = true ∧ Binds K fd ps []
structure CalG (P : Program) (w : World) (K : PySem.W.Frag) (mg : Str → Option Value) (base : Heap) (k : Nat) (x : Str) (ms : List Bool) (m : Fn) : Prop where
  ex : ∃ (f : Addr) (fd : FuncData) (ps : List Str), FnG P w K mg base k f fd ps (spM K ms m) ∧ mg x = some (.ref f) ∧ PySem.W.keepIn K (.ref f) = true ∧ Binds K fd ps []
/-- a def as it stands behind the top -/
structure At (K : PySem.W.Frag) (mg : Str → Option Value) (x : Str) (st : Stmt) (ps : List Str) : Prop where
  ex : ∃ (f : Addr) (fd : FuncData), Fun K x x st f fd ∧ mg x = some (.ref f) ∧ Binds K fd ps []
section
variable {P : Program} {w : World} {K : PySem.W.Frag} {mg : Str → Option Value} {base : Heap}
theorem Cal.mono {j k : Nat} {x : Str} {ms : List Bool} {m : Fn} (C : Cal P w K mg base j x ms m) (h : j ≤ k) : Cal P w K mg base k x ms m :=
  let ⟨f, fd, ps, F, r⟩ := C.ex; ⟨f, fd, ps, F.mono h, r⟩
theorem cal_of {x : Str} {st : Stmt} {N ps : List Str} {k n : Nat} {ms : List Bool} {m : SM} (D : At K mg x st ps) (S : FnScope N ps (defScope st)) (hn : N.length = n) (hps : ps.length = ms.length) (hN : ms.length ≤ n)
    (hbody : ∀ (f : Addr) (cdv : Value) (A : Around) (outer : List Env) (s : Shared) (H : Hp) (E : XK), Room k (A.deeper (envOfC x (defScope st) s.heap.objs.size f cdv)) → XSs (cxOf CX0 P w K mg base N x (defScope st) f cdv A outer s H E).nox (defBody st) m) : Cal P w K mg base (k + 1) x ms (fnM n ms m) := by
  subst hn
  obtain ⟨f, fd, F, h, b⟩ := D.ex
  exact ⟨f, fd, ps, def_ok F S hps hN (hbody f), h, F.kp, b⟩
theorem calG_of {x : Str} {st : Stmt} {N ps : List Str} {k n : Nat} {ms : List Bool} {m : SM} (D : At K mg x st ps) (S : FnScope N ps (defScope st)) (hn : N.length = n) (hps : ps.length = ms.length) (hN : ms.length ≤ n)
    (hbody : ∀ (f : Addr) (cdv : Value) (A : Around) (outer : List Env) (s : Shared) (H : Hp) (E : XK), (A.deeper (envOfC x (defScope st) s.heap.objs.size f cdv)).guards = some [] → Room k (A.deeper (envOfC x (defScope st) s.heap.objs.size f cdv)) → XSs (cxOf CX0 P w K mg base N x (defScope st) f cdv A outer s H E).nox (defBody st) m) : CalG P w K mg base (k + 1) x ms (fnM n ms m) := by
  subst hn
  obtain ⟨f, fd, F, h, b⟩ := D.ex
  exact ⟨f, fd, ps, def_okG F S hps hN (hbody f), h, F.kp, b⟩
/-- no turn of a recursion is left -/
theorem cal_none {x : Str} {st : Stmt} {N ps : List Str} {k : Nat} {ms : List Bool} (D : At K mg x st ps) (S : FnScope N ps (defScope st)) (hps : ps.length = ms.length) : Cal P w K mg base (k + 1) x ms (fun _ => none) :=
  let ⟨f, fd, F, h, b⟩ := D.ex
  ⟨f, fd, ps, F.ok S (fun vs H Q E h => by obtain ⟨M, ds, r, os, ρ1, hl, hvl, _⟩ := h; rw [hvl, hps]) (fun cdv A outer s H vs Q E hr h => by obtain ⟨M, ds, r, os, ρ1, hl, hvl, _, e, _⟩ := h; cases e), h, F.kp, b⟩
end
section
variable {X : Cx} {k j : Nat} {x : Str} {e : Expr} {es : List Expr} {p pos : Pos} {m : Fn} {os : List Opd} {ms : List Bool}
theorem x_f (C : Cal X.prog X.w X.K X.mg X.base k x ms m) (hr : Room j X.A) (hj : k ≤ j) (hg : Gl X x) (ha : XA X (e :: es) os) (hms : modes os = ms := by rfl) (hdb : (x == ("__debug__" : Str)) = false := by decide) (he : starEach (e :: es) X.env = (false, eval e X.env) :: starEach es X.env := by rfl) (hpl : (backTo pos (starEach es X.env)).any (·.1) = false := by rfl) :
    XE X (.Call (.Name x p) (e :: es) [] pos) (eCall m os) := by
  obtain ⟨f, fd, ps, F, hm, hk, hb⟩ := C.ex
  have hx : Passes CX0 X L2.E0 := pass0
  exact x_call F (hr.mono hj) hg hm hk hb hx ha hms hdb he hpl
theorem x_f0 (C : Cal X.prog X.w X.K X.mg X.base k x [] m) (hr : Room j X.A) (hj : k ≤ j) (hg : Gl X x) (hdb : (x == ("__debug__" : Str)) = false := by decide) : XE X (.Call (.Name x p) [] [] pos) (eCall m []) := by
  obtain ⟨f, fd, ps, F, hm, hk, hb⟩ := C.ex
  have hx : Passes CX0 X L2.E0 := pass0
  exact x_call0 F (hr.mono hj) hg hm hk hb hx hdb
theorem x_fG (C : CalG X.prog X.w X.K X.mg X.base k x ms m) (hgd : X.A.guards = some []) (hr : Room j X.A) (hj : k ≤ j) (hg : Gl X x) (ha : XA X (e :: es) os) (hms : modes os = ms := by rfl) (hdb : (x == ("__debug__" : Str)) = false := by decide) (he : starEach (e :: es) X.env = (false, eval e X.env) :: starEach es X.env := by rfl) (hpl : (backTo pos (starEach es X.env)).any (·.1) = false := by rfl) :
    XE X (.Call (.Name x p) (e :: es) [] pos) (eCall m os) := by
  obtain ⟨f, fd, ps, F, hm, hk, hb⟩ := C.ex
  exact x_callG F hgd (hr.mono hj) hg hm hk hb ha hms hdb he hpl
end
end Vw
namespace Vw
open PySem L2 PyProof.Rows
/-- a module's constant -/
def Const (K : PySem.W.Frag) (mg : Str → Option Value) (x : Str) (d : PyData) : Prop := ∃ (v : V) (u : Value), mg x = some u ∧ RelV v u ∧ ∀ A H, Rep K A H v d
theorem x_const {X : Cx} {x : Str} {d : PyData} {pos : Pos} (h : Const X.K X.mg x d) (hg : Gl X x) (hd : (x == ("__debug__" : Str)) = false := by decide) : XE X (.Name x pos) (eC d) := by
  obtain ⟨v, u, hm, r, hr⟩ := h
  exact x_glob hg hm r hr hd
theorem const_int {K : PySem.W.Frag} {mg : Str → Option Value} {x : Str} {i : Int} {t : Tok} (h : mg x = some (.int i t)) : Const K mg x (.int i) := ⟨.int i, _, h, ⟨t, rfl⟩, fun _ _ => .int i⟩
end Vw

set_option Elab.async false
set_option linter.all false
set_option maxRecDepth 100000
/-! how a law's pen is opened -/
namespace Vw
open PySem L2 PyProof.Rows

/-- whole numbers as data -/
abbrev dI (ns : List Int) : PyData := .list (ns.map .int)
/-- the pen: some cells, the place, what is left of a cell -/
def penD (cs : List Int) (at_ left : Int) : PyData := .list [dI cs, .int at_, .int left]
/-- a new pen of at most twelve cells -/
def spOpen (K : PySem.W.Frag) : Sp := fun vs H Q _ => ∃ (a : Addr) (ns : List Int), vs = [.ref a] ∧ SqL K H a (ns.map V.int) ∧ ns.length ≤ 63 ∧
  ∀ (p : Addr) (cs : List Int) (H' : Hp), Same H H' → cs.length ≤ 12 → Own K (fun b => b = p) H' p (penD cs 0 0) → Q (.ref p) H'
def openB : SM := sSetIx 1 (eFn gAdd [.val (eFn gIx [.bor 1, .val (eFn gMod [.val (eFn gInt [.bor 2]), .val (eC (.int 12))])]), .bor 3]) (.val (eFn gMod [.val (eFn gInt [.bor 2]), .val (eC (.int 12))]))
def openR : SM := sRet (eFn gLst' [.val (eName 1), .val (eC (.int 0)), .val (eC (.int 0))])
def openG : GM := gT (gsCons (gN 2) (gsCons (gN 3) gsNil))
theorem openB_run (cs : List Int) (i : Nat) (x : Int) (h : cs.length = 12) : ∃ cs' : List Int, cs'.length = 12 ∧ openB [.un, .ow (dI cs), .fz (.int i), .fz (.int x)] = some (.nx [.un, .ow (dI cs'), .fz (.int i), .fz (.int x)]) := by
  have hj : (i : Int) % 12 < 12 := Int.emod_lt_of_pos _ (by decide)
  have h0 : 0 ≤ (i : Int) % 12 := Int.emod_nonneg _ (by decide)
  have hlt : ((i : Int) % 12).toNat < cs.length := by omega
  refine ⟨cs.set ((i : Int) % 12).toNat (cs[((i : Int) % 12).toNat] + x), by simp [h], ?_⟩
  simp [openB, sSetIx, eFn, eC, pres, pre, fins, fin, gIx, gMod, gI, gInt, gAdd, own?, setOwn, Sl.dat, dI, atI, ixN, h, h0, hj, hlt]
theorem openLoop (ds : List PyData) (hd : ∀ d ∈ ds, ∃ (i : Nat) (x : Int), d = .tuple [.int i, .int x]) (cs : List Int) (h : cs.length = 12) (a b : Sl) (ha : ∀ d, a ≠ .io d) (hb : ∀ d, b ≠ .io d) : ∃ (cs' : List Int) (a' b' : Sl), cs'.length = 12 ∧ forM openG openB ds [.un, .ow (dI cs), a, b] = some (.nx [.un, .ow (dI cs'), a', b']) := by
  induction ds generalizing cs a b with
  | nil => exact ⟨cs, a, b, h, rfl⟩
  | cons d ds ih =>
    obtain ⟨i, x, rfl⟩ := hd d (by simp)
    obtain ⟨cs', hc, he⟩ := openB_run cs i x h
    obtain ⟨cs2, a', b', h2, e2⟩ := ih (fun d hd' => hd d (by simp [hd'])) cs' hc (.fz (.int i)) (.fz (.int x)) (fun d z => by cases z) (fun d z => by cases z)
    refine ⟨cs2, a', b', h2, ?_⟩
    have eg : openG (.tuple [.int i, .int x]) [.un, .ow (dI cs), a, b] = some [.un, .ow (dI cs), .fz (.int i), .fz (.int x)] := by
      cases a with
      | io d => exact (ha d rfl).elim
      | _ => cases b with
        | io d => exact (hb d rfl).elim
        | _ => simp [openG, gT, gsCons, gN, gsNil, put]
    simp only [forM, eg, Option.bind_some, he, e2]
theorem cutV_ints (ns : List Int) (lo hi : Option Int) : ∃ ms : List Int, cutV (ns.map V.int) lo hi = ms.map V.int := by
  refine ⟨(ns.drop (HT.sIx ns.length 0 lo)).take (HT.sIx ns.length ns.length hi - HT.sIx ns.length 0 lo), ?_⟩
  simp [cutV, List.map_take, List.map_drop]
theorem cut_head (ns : List Int) : ∃ ms : List Int, cutV (ns.map V.int) none (some 12) = ms.map V.int ∧ ms.length = min 12 ns.length := by
  refine ⟨ns.take 12, ?_, by simp⟩
  have h1 : HT.sIx (ns.map V.int).length 0 none = 0 := rfl
  have h2 : HT.sIx (ns.map V.int).length (ns.map V.int).length (some 12) = min 12 ns.length := by
    rw [List.length_map]; exact HT.sIx_nat _ _ 12
  unfold cutV
  rw [h1, h2]
  simp [List.map_take]
theorem cut_tail (ns : List Int) : ∃ ms : List Int, cutV (ns.map V.int) (some 12) (some 63) = ms.map V.int ∧ (ns.length ≤ 12 → ms = []) := by
  obtain ⟨ms, h⟩ := cutV_ints ns (some 12) (some 63)
  refine ⟨ms, h, fun hl => ?_⟩
  have h1 : HT.sIx (ns.map V.int).length 0 (some 12) = min 12 ns.length := by
    rw [List.length_map]; exact HT.sIx_nat _ _ 12
  have : cutV (ns.map V.int) (some 12) (some 63) = [] := by
    unfold cutV
    rw [h1, List.drop_eq_nil_of_le (by simp; omega)]
    simp
  rw [this] at h
  cases ms with
  | nil => rfl
  | cons _ _ => cases h

theorem SqL.sm {K : PySem.W.Frag} {H H' : Hp} {a : Addr} {xs : List V} (h : Same H H') (q : SqL K H a xs) : SqL K H' a xs :=
  q.imp (fun r => r.imp (h _ _) fun ⟨o, r⟩ => ⟨o, h _ _ r⟩) id
theorem enumD_ints (ts : List Int) : ∀ d ∈ enumD (ts.map .int), ∃ (i : Nat) (x : Int), d = .tuple [.int i, .int x] := fun d hd => by
  obtain ⟨i, hi⟩ := List.getElem?_of_mem hd
  have hlt : i < (enumD (ts.map .int)).length := (List.getElem?_eq_some_iff.mp hi).1
  have hlt2 : i < (ts.map PyData.int).length := by simpa [enumD] using hlt
  rw [enumD_get hlt2] at hi
  cases hi
  exact ⟨i, ts[i]'(by simpa using hlt2), by simp⟩
def openS (ds : List PyData) : SM := sSeq (sFor (fun ρ => some (ds, ρ)) openG openB) openR
theorem openS_run (ts : List Int) (cs : List Int) (h : ts ≠ [] → cs.length = 12) (hc : cs.length ≤ 12) : ∃ (cs' : List Int) (ρ' : Rho), cs'.length ≤ 12 ∧ openS (enumD (ts.map .int)) [.un, .ow (dI cs), .un, .un] = some (.rt (.ow (penD cs' 0 0)) ρ') := by
  have ret : ∀ (cs : List Int) (a b : Sl), openR [.un, .ow (dI cs), a, b] = some (.rt (.ow (penD cs 0 0)) [.un, .fz (dI cs), a, b]) := fun cs a b => by
    simp [openR, sRet, eFn, eC, eName, pres, pre, fins, fin, gLst', Sl.dat, penD, sizeLine]
  by_cases ht : ts = []
  · subst ht
    exact ⟨cs, [.un, .fz (dI cs), .un, .un], hc, by simp [openS, sSeq, sFor, enumD, forM, ret]⟩
  · obtain ⟨cs', a', b', h2, e2⟩ := openLoop _ (enumD_ints ts) cs (h ht) .un .un (fun d z => by cases z) (fun d z => by cases z)
    exact ⟨cs', [.un, .fz (dI cs'), a', b'], by omega, by simp only [openS, sSeq, sFor, Option.bind_some, e2, ret]⟩
theorem open_run {K : PySem.W.Frag} {vs : List V} {H : Hp} {Q : VK} {E : XK} (h : spOpen K vs H Q E) : tSeq (tAsg (tCB (fun xs H Q => ∃ p ys, xs = [.ref p] ∧ (SqL K H p ys ∨ SqT K H p ys) ∧ ∀ l, H l = none → Q (.ref l) (upd H l (.lst ys))) (tCons (tSl (rSlL K) (tVar 0) tNoPart (tPart (tC (.int 12)))) tNil)) (gName 1))
    (tSeq (tFor (iEnum K (tCons (tSl (rSlL K) (tVar 0) (tPart (tC (.int 12))) (tPart (tC (.int 63)))) tNil)) (gM K [2, 3] openG) (sM K openB)) (sM K openR)) { nx := fun _ H' => Q .non H', rt := Q } (start ["script", "cells", "k", "cell"] vs) H := by
  obtain ⟨a, ns, rfl, sq, hn, k⟩ := h
  obtain ⟨ms, e1, l1⟩ := cut_head ns
  obtain ⟨ts, e2, l2⟩ := cut_tail ns
  refine ⟨.ref a, rfl, 12, rfl, a, _, rfl, sq, fun q nq => ?_⟩
  rw [e1]
  have s1 : Same H (upd H q (.lst (ms.map V.int))) := same_upd nq _
  refine ⟨q, _, rfl, .inl (SqL.of upd_same), fun l nl => ?_⟩
  have s2 : Same H (upd (upd H q (.lst (ms.map V.int))) l (.lst (ms.map V.int))) := fun b o e => same_upd nl _ b o (s1 b o e)
  generalize hH2 : upd (upd H q (.lst (ms.map V.int))) l (.lst (ms.map V.int)) = H2 at s2
  have hl2 : H2 l = some (.lst (ms.map V.int)) := by rw [← hH2]; exact upd_same
  have nlH : H l = none := Classical.byContradiction fun z => by
    cases q : H l with
    | none => exact z q
    | some o => rw [s1 l o q] at nl; cases nl
  let σ1 : L2.St := [some (.ref a), some (.ref l), none, none]
  let ρ1 : Rho := [.un, .ow (dI ms), .un, .un]
  have oo : ∀ b, OO ρ1 σ1 b → b = l := fun b ⟨i, ⟨d, h⟩, hb⟩ => by
    match i, h, hb with
    | 0, h, hb => simp [ρ1] at h
    | 1, h, hb => simp [σ1] at hb; exact hb.symm
    | 2, h, hb => simp [ρ1] at h
    | 3, h, hb => simp [ρ1] at h
    | n + 4, h, hb => simp [ρ1] at h
  have S1 : Sr K (fun _ => False) ρ1 σ1 H2 := by
    refine ⟨rfl, fun i d e => ?_, fun i d e => ?_, fun i j p hi hj ei ej => ?_, fun b z => z.elim⟩
    · match i, e with
      | 0, e => simp [ρ1] at e
      | 1, e => simp [ρ1] at e
      | 2, e => simp [ρ1] at e
      | 3, e => simp [ρ1] at e
      | n + 4, e => simp [ρ1] at e
    · match i, e with
      | 0, e => simp [ρ1] at e
      | 1, e =>
        have hd : d = dI ms := by simpa [ρ1, eq_comm] using e
        subst hd
        exact ⟨l, rfl, fun z => z, _, hl2, RepAll.ofInts ms⟩
      | 2, e => simp [ρ1] at e
      | 3, e => simp [ρ1] at e
      | n + 4, e => simp [ρ1] at e
    · have one : ∀ i, Ows ρ1 i → i = 1 := fun i ⟨d, e⟩ => by
        match i, e with
        | 0, e => simp [ρ1] at e
        | 1, e => rfl
        | 2, e => simp [ρ1] at e
        | 3, e => simp [ρ1] at e
        | n + 4, e => simp [ρ1] at e
      rw [one i hi, one j hj]
  obtain ⟨cs', ρ', hc', hrun⟩ := openS_run ts ms (fun ht => by rw [l1]; have : ¬ ns.length ≤ 12 := fun z => ht (l2 z); omega) (by omega)
  have q0 : sM K (openS (enumD (ts.map .int))) { nx := fun _ H' => Q .non H', rt := Q } σ1 H2 := ⟨_, ρ1, _, S1, hrun, fun v σ' H' A R => by
    obtain ⟨p, rfl, h1, h2, h3, h4⟩ := R
    refine k p cs' H' (fun b o e => ?_) hc' (h4.move (fun b o e n => ⟨e, fun z => n ?_⟩) rfl)
    · refine A.ext.keep b o (s2 b o e) fun z => ?_
      rw [oo b z, nlH] at e
      cases e
    · subst z
      exact .inl (.inr rfl)⟩
  have q1 := sM_seq q0
  have q2 : tFor (jM K fun ρ => some (enumD (ts.map .int), ρ)) (gM K [2, 3] openG) (sM K openB) _ σ1 H2 := sM_for q1
  obtain ⟨M, ρ, ds, ρ3, S, e, w⟩ := q2
  cases e
  refine ⟨.ref a, rfl, 12, rfl, 63, rfl, a, _, rfl, SqL.sm s2 sq, fun q2 nq2 => ?_⟩
  rw [e2]
  have s3 := same_upd nq2 (.lst (ts.map V.int))
  refine ⟨q2, _, rfl, SqL.of upd_same, w _ _ (Ext.same s3) (IoK.refl _) (S.same s3) (yld_enum (xs := ts.map V.int) fun O' H' e => ?_)⟩
  exact ⟨SqL.of (e q2 _ upd_same fun z => z.elim (fun z => S.mt _ z nq2) fun z => S.ooT z nq2).1, RepAll.ofInts ts⟩
section
variable {P : Program} {w : World} {K : PySem.W.Frag} {mg : Str → Option Value} {base : Heap}
/-- a def by its promise -/
structure CalS (P : Program) (w : World) (K : PySem.W.Frag) (mg : Str → Option Value) (base : Heap) (k : Nat) (x : Str) (n : Nat) (sp : Sp) : Prop where
  ex : ∃ (f : Addr) (fd : FuncData) (ps : List Str), FnOk P w K mg base CX0 k f fd ps sp ∧ mg x = some (.ref f) ∧ PySem.W.keepIn K (.ref f) = true ∧ Binds K fd ps [] ∧ ps.length = n
theorem open_of {x : Str} {st : Stmt} {ps : List Str} {k : Nat} (D : At K mg x st ps) (S : FnScope ["script", "cells", "k", "cell"] ps (defScope st)) (hps : ps.length = 1)
    (hbody : ∀ (f : Addr) (cdv : Value) (A : Around) (outer : List Env) (s : Shared) (H : Hp) (E : XK), PSs (cxOf CX0 P w K mg base ["script", "cells", "k", "cell"] x (defScope st) f cdv A outer s H E).nox (defBody st) (tSeq (tAsg (tCB (fun xs H Q => ∃ p ys, xs = [.ref p] ∧ (SqL K H p ys ∨ SqT K H p ys) ∧ ∀ l, H l = none → Q (.ref l) (upd H l (.lst ys))) (tCons (tSl (rSlL K) (tVar 0) tNoPart (tPart (tC (.int 12)))) tNil)) (gName 1))
    (tSeq (tFor (iEnum K (tCons (tSl (rSlL K) (tVar 0) (tPart (tC (.int 12))) (tPart (tC (.int 63)))) tNil)) (gM K [2, 3] openG) (sM K openB)) (sM K openR)))) : CalS P w K mg base (k + 1) x 1 (spOpen K) :=
  let ⟨f, fd, F, h, b⟩ := D.ex
  ⟨f, fd, ps, F.ok S (fun vs H Q E h => by obtain ⟨a, ns, rfl, _⟩ := h; rw [hps]; rfl) (fun cdv A outer s H vs Q E hr h => ⟨_, hbody f cdv A outer s H E, open_run h⟩), h, F.kp, b, hps⟩
end
/-- a def as the top has left it -/
theorem at_mk {K : PySem.W.Frag} {h : Heap} {mg : Str → Option Value} (KX : K.In h) (G : h.Ns mainGlobals mg) {x : Str} {st : Stmt} {ps : List Str} {f : Addr} {oc : Value} {od an : Option Addr} {sl : Array (Option Value)} {kV dc pm cd ct : Value}
    (a : PySem.W.nsIn K mainGlobals x = some (some (.ref f))) (l : K.lookup f = some ⟨oc, od, .func (PySem.W.fnOf x x (defArgs st) (defBody st) (defScope st) .none kV dc pm an cd ct), sl⟩) (c : PySem.W.codeIn K cd x = true) (k : PySem.W.keepIn K (.ref f) = true)
    (hb : ∀ (kV doc pm : Value) (an : Option Addr) (cdv ct : Value) (us : List Value), us.length = ps.length → bindArgs (PySem.W.fnOf x x (defArgs st) (defBody st) (defScope st) .none kV doc pm an cdv ct) ⟨us, []⟩ = pure (ps.zip us)) : At K mg x st ps :=
  have F := fun_mk (st := st) l c k
  ⟨f, _, F, PySem.W.mg_of KX G a, F.binds hb⟩
theorem const_at {K : PySem.W.Frag} {h : Heap} {mg : Str → Option Value} (KX : K.In h) (G : h.Ns mainGlobals mg) {x : Str} {i : Int} {t : Tok} (a : PySem.W.nsIn K mainGlobals x = some (some (.int i t))) : Const K mg x (.int i) := const_int (PySem.W.mg_of KX G a)
theorem const_tup {K : PySem.W.Frag} {h : Heap} {mg : Str → Option Value} (KX : K.In h) (G : h.Ns mainGlobals mg) {x : Str} {f : Addr} {oc : Value} {od : Option Addr} {its : Array Value} {n : Nat} {sl : Array (Option Value)} {ds : List PyData} (vs : List V)
    (a : PySem.W.nsIn K mainGlobals x = some (some (.ref f))) (l : K.lookup f = some ⟨oc, od, .seq its n, sl⟩) (hc : oc = .type "tuple") (hz : its.size ≤ sizeLine) (hv : Vals vs its.toList) (hr : ∀ A H, RepAll K A H vs ds) : Const K mg x (.tuple ds) :=
  ⟨.ref f, .ref f, PySem.W.mg_of KX G a, rfl, fun A H => .tupK ⟨_, its, n, l, hc, rfl, hz, hv⟩ (hr A H)⟩
/-- a law's promise -/
def spLaw (K : PySem.W.Frag) : Sp := fun vs H Q _ => ∃ (a : Addr) (ns : List Int), vs = [.ref a] ∧ SqL K H a (ns.map V.int) ∧ ns.length ≤ 63 ∧ ∀ H', Q (.bl true) H'
theorem Sr.unM {K : PySem.W.Frag} {M : Addr → Prop} {σ : L2.St} {H : Hp} {n : Nat} (hn : σ.length = n) (hM : ∀ b, M b → H b ≠ none) : Sr K M (List.replicate n .un) σ H := by
  subst hn
  have no : ∀ i (s : Sl), (List.replicate σ.length Sl.un)[i]? = some s → s = .un := fun i s e => by
    rw [List.getElem?_replicate] at e
    split at e
    · cases e; rfl
    · cases e
  refine ⟨by simp, fun i d e => (by cases no i _ e), fun i d e => ?_, fun i j p h => ?_, hM⟩
  · rcases e with e | e <;> cases no i _ e
  · obtain ⟨d, e | e⟩ := h <;> cases no i _ e
section
variable {X : Cx} {k j : Nat}
theorem p_pen {i : Nat} {y f x : Str} {p p1 q pos pos2 : Pos} (C : CalS X.prog X.w X.K X.mg X.base k f 1 (spOpen X.K)) (hr : Room j X.A) (hj : k ≤ j) (hN : X.N.Nodup) (hi : X.N[i]? = some y) (hy : Loc X.env.scope y) (h0 : X.N[0]? = some x) (hv : Vis X.env.scope x) (hd : (x == ("__debug__" : Str)) = false) (hcd : (x == ("__classdict__" : Str)) = false)
    (hg : Gl X f) (hdb : (f == ("__debug__" : Str)) = false := by decide) (hf : X.fn y = true ∨ X.env.scope.names.lookup y = some .local := by first | exact .inl rfl | exact .inr rfl) : PS X (.Assign [.Name y q] (.Call (.Name f p) [.Name x p1] [] pos) pos2) (tAsg (tCall (spOpen X.K) [] L2.E0 (tCons (tVar 0) tNil)) (gName i)) := by
  obtain ⟨a, fd, ps, F, hm, hk, hb, hl⟩ := C.ex
  have hx : Passes CX0 X L2.E0 := pass0
  exact ps_set hN hi hy (pe_call F (hr.mono hj) hg hm hk hb .nil hx (pa_cons (pe_var h0 hv hd hcd) pa_nil rfl) hdb rfl rfl) (hf := hf)
end
theorem law_run {K : PySem.W.Frag} {N : List Str} {i : Nat} {m : SM} (hN : 0 < N.length) (hi : i < N.length) (hm : ∀ cs : List Int, cs.length ≤ 12 → ∃ ρ', m ((List.replicate N.length .un).set i (.ow (penD cs 0 0))) = some (.rt (.fz (.bool true)) ρ')) {vs : List V} {H : Hp} {Q : VK} {E : XK} (h : spLaw K vs H Q E) :
    tSeq (tAsg (tCall (spOpen K) [] L2.E0 (tCons (tVar 0) tNil)) (gName i)) (sM K m) { nx := fun _ H' => Q .non H', rt := Q } (start N vs) H := by
  obtain ⟨a, ns, rfl, sq, hl, k⟩ := h
  have hs : (start N [V.ref a]).length = N.length := by
    show ([some (V.ref a)] ++ List.replicate (N.length - 1) none).length = N.length
    simp
    omega
  refine ⟨.ref a, rfl, a, ns, rfl, sq, hl, fun p cs H' sm hc ow => ?_⟩
  obtain ⟨ρ', hm⟩ := hm cs hc
  have S0 : Sr K (fun b => False ∨ b = p) (List.replicate N.length .un) (start N [.ref a]) H' := Sr.unM hs fun b z => by
    rcases z with z | z
    · exact z.elim
    · rw [z]; exact ow.there
  have e0 : put i (.ow (penD cs 0 0)) (List.replicate N.length Sl.un) = some ((List.replicate N.length Sl.un).set i (.ow (penD cs 0 0))) := by
    unfold put
    rw [List.getElem?_replicate, if_pos hi]
  have hb : ∀ b, ((False ∨ b = p) ∨ OO (List.replicate N.length Sl.un) (start N [V.ref a]) b) → b = p := fun b z => by
    rcases z with (z | z) | z
    · exact z.elim
    · exact z
    · obtain ⟨j, ⟨d, e | e⟩, _⟩ := z <;> (rw [List.getElem?_replicate] at e; split at e <;> cases e)
  have R0 : Res K (fun _ => False) (fun _ => True) H' (List.replicate N.length .un) (start N [.ref a]) (.ref p) H' (.ow (penD cs 0 0)) := ⟨p, rfl, .inl trivial, id, S0, ow.move (fun b o e n => ⟨e, fun z => n (hb b z)⟩) rfl⟩
  obtain ⟨S1, _⟩ := put_aft e0 R0 fun _ h => h
  exact ⟨_, _, _, S1, hm, fun v σ' H2 A R => by
    obtain ⟨rfl, _⟩ := R.bool
    exact k H2⟩
theorem law_of {P : Program} {w : World} {K : PySem.W.Frag} {mg : Str → Option Value} {st : Stmt} {N : List Str} {k i : Nat} {m : SM} {fa : Addr} (D : At K mg "law" st ["script"]) (S : FnScope N ["script"] (defScope st)) (hfa : mg "law" = some (.ref fa)) (hN : 0 < N.length) (hi : i < N.length)
    (hm : ∀ cs : List Int, cs.length ≤ 12 → ∃ ρ', m ((List.replicate N.length .un).set i (.ow (penD cs 0 0))) = some (.rt (.fz (.bool true)) ρ'))
    (hdf : ∀ f fd, Fun K "law" "law" st f fd → ∀ (s : Shared) (u : Value), BindsTo s fd ⟨[u], []⟩ [("script", u)])
    (hbody : ∀ (base : Heap) (f : Addr) (cdv : Value) (A : Around) (outer : List Env) (s : Shared) (H : Hp) (E : XK), K.In base → base.Ns mainGlobals mg → (A.deeper (envOfC "law" (defScope st) s.heap.objs.size f cdv)).guards = some [] → Room k (A.deeper (envOfC "law" (defScope st) s.heap.objs.size f cdv)) → PSs (cxOf CX0 P w K mg base N "law" (defScope st) f cdv A outer s H E).nox (defBody st) (tSeq (tAsg (tCall (spOpen K) [] L2.E0 (tCons (tVar 0) tNil)) (gName i)) (sM K m))) :
    ∃ fd : FuncData, (∀ (s : Shared) (u : Value), BindsTo s fd ⟨[u], []⟩ [("script", u)]) ∧ ∀ base : Heap, K.In base → base.Ns mainGlobals mg → FnG P w K mg base (k + 1) fa fd ["script"] (spLaw K) := by
  obtain ⟨f, fd, F, h, b⟩ := D.ex
  rw [hfa] at h
  cases h
  refine ⟨fd, hdf _ _ F, fun base hk hn => Fun.okG F S (fun vs H Q E h => by obtain ⟨a, ns, rfl, _⟩ := h; rfl) fun cdv A outer s H vs Q E hg hr h => ⟨_, hbody base fa cdv A outer s H E hk hn hg hr, law_run hN hi hm h⟩⟩
theorem walk_law {l : PySem.W.OpenLaw} {k : Nat} {q : Program} {loose : List Str} {XP : (Str → Option Value) → Heap → Prop} {YP : World → Heap → Prop} {d : DefRec} {K : Params → PySem.W.Frag} (hn : l.most = some 63) (hdf : d.params.defaults = []) (hr : Room k callerA)
    (hY : ∀ (w : World) (h : Heap), YP w h → (K w.params).In h)
    (F : ∀ (w : World) (mg : Str → Option Value) (fa : Addr) (h : Heap), (K w.params).In h → h.Ns mainGlobals mg → mg d.name = some (.ref fa) →
      ∃ fd : FuncData, (∀ (s : Shared) (u : Value), BindsTo s fd ⟨[u], []⟩ [("script", u)]) ∧ ∀ base : Heap, (K w.params).In base → base.Ns mainGlobals mg → FnG l.prog w (K w.params) mg base k fa fd ["script"] (spLaw (K w.params))) :
    PySem.W.WalkO q loose XP YP l.row.toRowW d [] (fun f vs => PySem.call f vs) :=
  walk_g (sp := spLaw) hn (by decide) hdf hr hY F fun K H a ns hl _ hS => ⟨a, ns, rfl, hS, hl, fun _ => rfl⟩
end Vw

set_option Elab.async false
set_option linter.all false
set_option maxRecDepth 100000
set_option maxHeartbeats 4000000
/-! turned about; {}; is of truths -/
namespace Vw
open PySem PySem.Spec L2 PyProof.Rows HT

theorem rev_places (n : Nat) : Builtin.Slice.slicePlaces ((n : Int) - 1) (-1) (-1) = n := by
  unfold Builtin.Slice.slicePlaces
  rw [if_neg (show ¬ ((-1 : Int) > 0) by omega)]
  rw [show (-(-1) : Int) = 1 by omega, Int.ediv_one]
  split <;> omega
theorem fm_congr {α β : Type} {f g : α → Option β} : ∀ (l : List α), (∀ k ∈ l, f k = g k) → l.filterMap f = l.filterMap g
  | [], _ => rfl
  | a :: l, h => by rw [List.filterMap_cons, List.filterMap_cons, h a (by simp), fm_congr l fun k hk => h k (by simp [hk])]
section
variable {prog : Program} {w : World} {A : Around} {E : Value → Shared → Prop} {s : Shared}
theorem rev_applied {q : Addr} {x y z : Value} {n : Nat} {Q : Int × Int × Nat → Shared → Prop} (hq : s.heap.IsSliceOf q x y z) (px : IsPart x none) (py : IsPart y none) (pz : IsPart z (some (-1)))
    (h : Q ((n : Int) - 1, -1, n) s) : wpAny (model prog w) A (Builtin.Slice.sliceApplied (.ref q) (pure (n : Int))) Q E s := by
  obtain ⟨o, ho, hc, hd⟩ := id hq
  unfold Builtin.Slice.sliceApplied Builtin.Slice.sliceFields
  refine wpAny_bind (wpAny_bind (wpAny_field ho hd (x := x) rfl (wpAny_bind (wpAny_field ho hd (x := y) rfl (wpAny_bind (wpAny_field ho hd (x := z) rfl (wpAny_pure ?_)))))))
  refine wpAny_bind (slicePart_ pz ?_)
  show wpAny _ _ (if ((-1 : Int) == 0) = true then _ else _) _ _ s
  rw [if_neg (by decide)]
  refine wpAny_bind (slicePart_ px (wpAny_bind (slicePart_ py (wpAny_bind (wpAny_pure ?_)))))
  have e : Builtin.Slice.sliceAdjust none none (-1) (n : Int) = ((n : Int) - 1, -1) := rfl
  show wpAny _ _ (match Builtin.Slice.sliceAdjust none none (-1) (n : Int) with | (a, b) => pure (a, (-1 : Int), Builtin.Slice.slicePlaces a b (-1))) _ _ s
  rw [e]
  show wpAny _ _ (pure ((n : Int) - 1, (-1 : Int), Builtin.Slice.slicePlaces ((n : Int) - 1) (-1) (-1))) _ _ s
  rw [rev_places]
  exact wpAny_pure h
theorem rev_pick (xs : Array Value) : ((List.range xs.size).filterMap fun (m : Nat) => xs[(((xs.size : Int) - 1) + (m : Int) * (-1)).toNat]?).toArray = xs.toList.reverse.toArray := by
  have e : (List.range xs.size).filterMap (fun (m : Nat) => xs[(((xs.size : Int) - 1) + (m : Int) * (-1)).toNat]?) = ((List.range xs.size).map (fun k => xs.size - 1 - k)).filterMap (xs[·]?) := by
    rw [List.filterMap_map]
    refine fm_congr _ fun k hk => ?_
    have := List.mem_range.mp hk
    show xs[(((xs.size : Int) - 1) + (k : Int) * (-1)).toNat]? = xs[xs.size - 1 - k]?
    rw [show (((xs.size : Int) - 1) + (k : Int) * (-1)).toNat = xs.size - 1 - k by omega]
  rw [e, PySem.W.krv_range, List.filterMap_reverse, PySem.W.krv_all]
theorem rev_item {t q : Addr} {items : Array Value} {x y z : Value} {Q : Value → Shared → Prop} (ht : IsTup s.heap t items) (hq : s.heap.IsSliceOf q x y z) (px : IsPart x none) (py : IsPart y none) (pz : IsPart z (some (-1)))
    (h : Q (.ref s.heap.objs.size) { s with heap := s.heap.push { cls := .type "tuple", data := .seq items.toList.reverse.toArray } })
    (hz : items.size ≤ sizeLine) : wpAny (model prog w) A (getItem (.ref t) (.ref q)) Q E s := by
  have big : sizeOk (.seq items.toList.reverse.toArray) := by
    show items.toList.reverse.toArray.size ≤ sizeLine
    rw [List.size_toArray, List.length_reverse, Array.length_toList]
    exact hz
  obtain ⟨o, ho, hc, hd⟩ := id hq
  have hT : s.TypeIs (.ref q) "slice" := ⟨o, ho, hc⟩
  unfold getItem
  try with_reducible refine wpAny_holding ?_
  first | refine wpAny_bind (wpAny_pure ?_) | skip
  refine wpAny_bind (wpAny_sequenceKey ht.typeIs (by decide) ?_)
  refine wpAny_bind (wpAny_callSpecial?_slot (name := Str.ofString "__getitem__") ht.typeIs slot_tuple_getitem (wpAny_call_entry slot_tuple_getitem ht.typeIs entry_tuple_getitem ?_ (args_tuple_getitem _ _)))
  show wpAny _ _ (Builtin.Tuple.tupleItemsOf (.ref t) >>= _) _ _ s
  refine wpAny_bind (tupleItemsOf_ ht ?_)
  refine wpAny_bind (wpAny_typeOf hT ?_)
  rw [if_pos (by decide)]
  refine wpAny_bind (rev_applied hq px py pz ?_)
  have no : ¬ ((((items.size : Int) - 1) == 0 && (-1 : Int) == 1 && items.size == items.size) = true) := by
    rw [show ((-1 : Int) == 1) = false from rfl, Bool.and_false, Bool.false_and]
    exact Bool.false_ne_true
  show wpAny _ _ (if (((items.size : Int) - 1) == 0 && (-1 : Int) == 1 && items.size == items.size) = true then _ else _) _ _ s
  rw [if_neg no, rev_pick]
  first
    | exact wpAny_bind (m := Builtin.Tuple.tupleExact _) (wpAny_newObj_type (wpAny_pure ⟨_, rfl, wpAny_pure h⟩) big)
    | exact wpAny_bind (m := Builtin.Tuple.tupleExact _) (wpAny_newObj_type (wpAny_bind (wpAny_pure (wpAny_pure ⟨_, rfl, wpAny_pure h⟩))) big)
    | exact wpAny_bind (wpAny_bind (m := Builtin.Tuple.tupleExact _) (wpAny_newObj_type (wpAny_pure (wpAny_pure ⟨_, rfl, wpAny_pure h⟩)) big))
    | exact wpAny_bind (wpAny_bind (m := Builtin.Tuple.tupleExact _) (wpAny_newObj_type (wpAny_pure ⟨_, rfl, wpAny_pure h⟩) big))
end
def gRev : List PyData → Option Sl
  | [.list ds] => some (.ow (.list ds.reverse))
  | [.tuple ds] => some (.fz (.tuple ds.reverse))
  | _ => none
/-- a list or a tuple, turned about -/
def tRevD (K : PySem.W.Frag) (te : TE) : TE := fun σ H Q => te σ H fun x H1 => ∃ a xs, x = .ref a ∧ (SqL K H1 a xs ∧ (∀ p, H1 p = none → Q (.ref p) (upd H1 p (.lst xs.reverse))) ∨ SqT K H1 a xs ∧ ∀ p, H1 p = none → Q (.ref p) (upd H1 p (.tup xs.reverse)))
theorem pe_revD {X : Cx} {e : Expr} {te : TE} {k : Nat} {p1 p2 p3 pos : Pos} (he : PE X e te) : PE X (.Subscript e (.Slice none none (some (.UnaryOp .USub (.Constant (.int 1) k p1) p2)) p3) pos) (tRevD X.K te) := by
  refine ⟨fun pins s σ H Q I h => ?_⟩
  refine Subscript_ (thn (he.run pins s σ H _ I h) fun v s1 g => ?_)
  obtain ⟨x, H1, I1, r1, a, xs, ex, q⟩ := g
  subst ex
  cases r1
  have hst : PO X (some (.UnaryOp .USub (.Constant (.int 1) k p1) p2)) (tPart (tUn (rU fun i => .int (-i)) (tC (.int 1)))) := po_some (pe_un un_neg pe_int)
  refine wpAny_Slice (thn (po_none.run pins s1 σ H1 (fun o G => o = none ∧ G = H1) I1 ⟨rfl, rfl⟩) fun vl s2 g2 => ?_)
  obtain ⟨l, G2, I2, pl, el, e2⟩ := g2
  subst el e2
  refine thn (po_none.run pins s2 σ G2 (fun o G => o = none ∧ G = G2) I2 ⟨rfl, rfl⟩) fun vu s3 g3 => ?_
  obtain ⟨u, G3, I3, pu, eu, e3⟩ := g3
  subst eu e3
  refine thn (hst.run pins s3 σ G3 (fun o G => o = some (-1) ∧ G = G3) I3 ⟨1, rfl, -1, rfl, rfl, rfl⟩) fun vs s4 g4 => ?_
  obtain ⟨o, G4, I4, ps, eo, e4⟩ := g4
  subst eo e4
  have I5 : Inv X pins σ G4 { s4 with heap := s4.heap.push { cls := .type "slice", data := .fields #[vl, vu, vs] } } := I4.kept (t' := s4.toks) fun b ob q => Heap.get?_push_of_some _ q
  show wpAny (model X.prog X.w) X.A (subscriptTail e (.Slice none none (some (.UnaryOp .USub (.Constant (.int 1) k p1) p2)) p3) (.ref a) (.ref s4.heap.objs.size)) (EP X pins σ Q) X.xe { s4 with heap := s4.heap.push { cls := .type "slice", data := .fields #[vl, vu, vs] } }
  rcases q with ⟨hx, q⟩ | ⟨hx, q⟩
  · obtain ⟨its, r, ht, hz⟩ := I5.list hx
    have hlen := r.length
    refine tail_any (ops := [.ref a, .ref s4.heap.objs.size]) ht.isList.typeIs (slot_list_getitem.lookup) ?_ (by with_unfolding_all rfl)
    refine wpAny_getItem_list_slice ht.isList (Heap.IsSliceOf.new _ vl vu vs) pl pu ps (by decide) ?_ (by rw [List.size_toArray]; omega)
    rw [PySem.W.krv_pick]
    exact ⟨.ref _, _, I5.laid (t' := s4.toks) (o := .lst xs.reverse) (fun b ob q => Heap.get?_push_of_some _ q) (Nat.le_refl _) ⟨by rw [List.length_reverse]; exact hz, _, 0, r.reverse, Heap.get?_push_size _ rfl⟩, rfl, q _ (I5.hok.fresh (Nat.le_refl _))⟩
  · obtain ⟨its, r, ht, hz⟩ := I5.tuple hx
    have hlen := r.length
    refine tail_any (ops := [.ref a, .ref s4.heap.objs.size]) ht.typeIs (slot_tuple_getitem.lookup) ?_ (by with_unfolding_all rfl)
    refine rev_item ht (Heap.IsSliceOf.new _ vl vu vs) pl pu ps ?_ (by rw [List.size_toArray]; omega)
    exact ⟨.ref _, _, I5.laid (t' := s4.toks) (o := .tup xs.reverse) (fun b ob q => Heap.get?_push_of_some _ q) (Nat.le_refl _) ⟨by rw [List.length_reverse]; exact hz, _, r.reverse, IsTup.new _ _⟩, rfl, q _ (I5.hok.fresh (Nat.le_refl _))⟩
section
variable {X : Cx} {a : Expr} {o : Opd} {k : Nat} {p1 p2 p3 pos : Pos}
theorem fnRev {K : PySem.W.Frag} : FnD K (r1 fun x H Q => ∃ a xs, x = .ref a ∧ (SqL K H a xs ∧ (∀ p, H p = none → Q (.ref p) (upd H p (.lst xs.reverse))) ∨ SqT K H a xs ∧ ∀ p, H p = none → Q (.ref p) (upd H p (.tup xs.reverse)))) gRev := by
  intro A vs ds H s Q hA hr e k x hv
  subst hv
  unfold gRev at e
  split at e
  · cases e
    obtain ⟨x', e', h⟩ := hr.one
    cases e'
    obtain ⟨p, xs, rfl, h1, h2⟩ := h.lst
    exact ⟨p, xs, rfl, .inl ⟨SqL.of h1, fun p n => k _ _ (same_upd n _) ⟨p, rfl, n, new_lst h2.reverse n⟩⟩⟩
  · cases e
    obtain ⟨x', e', h⟩ := hr.one
    cases e'
    obtain ⟨p, xs, rfl, h1, h2⟩ := h.tup
    exact ⟨p, xs, rfl, .inr ⟨h1, fun p n => k _ _ (same_upd n _) (new_tup h2.reverse hA n)⟩⟩
  · cases e
theorem x_rev (ha : XO X a o) : XE X (.Subscript a (.Slice none none (some (.UnaryOp .USub (.Constant (.int 1) k p1) p2)) p3) pos) (eFn gRev [o]) :=
  pe_imp (pe_revD ha) fun σ H Q q => by
    have h := pM1 (tM_fn fnRev q)
    obtain ⟨M, ρ, x, ρ', S, e, k⟩ := h
    exact ⟨M, ρ, x, ρ', S, e, fun v H' x1 x2 x3 x4 => k v H' x1 x2 x3 x4 _ rfl⟩
/-- {} -/
def eDict0 : EM := fun ρ => some (.ow (.dict []), ρ)
def tDNewG : TE := fun _ H Q => ∀ p, H p = none → (p == sysModules) = false → Q (.ref p) (upd H p (DicO p #[] 0))
theorem pe_dnewG : PE X (.Dict [] [] pos) tDNewG := ⟨fun pins s σ H Q I h =>
  wpAny_Dict_empty ⟨.ref s.heap.objs.size, _, I.laid (a := s.heap.objs.size) (o := DicO s.heap.objs.size #[] 0) (t' := s.toks) (fun _ _ q => Heap.get?_push_of_some _ q) (Nat.le_refl _)
    ⟨Heap.get?_push_size _ rfl, ⟨_, Heap.get?_push_size _ rfl⟩, fun h1 h2 e k => k _ e⟩, rfl, h _ (I.hok.fresh (Nat.le_refl _)) (beq_eq_false_iff_ne.mpr (Ne.symm (Nat.ne_of_lt I.big)))⟩⟩
theorem x_dict0 : XE X (.Dict [] [] pos) eDict0 := pe_imp pe_dnewG fun σ H Q q => by
  obtain ⟨M, ρ, r, ρ', S, e, k⟩ := q
  cases e
  intro p n hs
  refine k _ _ (Ext.same (same_upd n _)) (IoK.refl _) ⟨p, rfl, .inr n, fun z => S.mt p z n, S.moreM (same_upd n _) n (by rw [upd_same]; exact fun z => nomatch z), ⟨#[], 0, [], [], upd_same, ⟨hs, Nat.zero_le _, .nil, .nil, rfl, (by intro d z; cases z), List.nodup_nil⟩, .nil, .nil⟩⟩
theorem fnIsB {K : PySem.W.Frag} : FnD K (r2 rIsB) (gIsB false) := by
  intro A vs ds H s Q hA hr e k x y hv
  subst hv
  unfold gIsB at e
  split at e
  · cases e
    obtain ⟨x', y', e', h1, h2⟩ := hr.two
    cases e'
    refine ⟨_, _, h1.bl, h2.bl, ?_⟩
    have := k (.bl (false ^^ (_ == _))) H (Same.refl H) (.bl _)
    simpa [Bool.beq_eq_decide_eq] using this
  · cases e
theorem fnNotB {K : PySem.W.Frag} : FnD K (r2 rNotB) (gIsB true) := by
  intro A vs ds H s Q hA hr e k x y hv
  subst hv
  unfold gIsB at e
  split at e
  · cases e
    obtain ⟨x', y', e', h1, h2⟩ := hr.two
    cases e'
    refine ⟨_, _, h1.bl, h2.bl, ?_⟩
    have := k (.bl (true ^^ (_ == _))) H (Same.refl H) (.bl _)
    simpa [Bool.beq_eq_decide_eq] using this
  · cases e
variable {b : Expr} {oa ob : Opd}
theorem x_isB (ha : XO X a oa) (hb : XO X b ob) : XE X (.Compare a [.Is] [b] pos) (eFn (gIsB false) [oa, ob]) := x_cmp op_isBl fnIsB ha hb (nomark _ (by decide) (by decide))
theorem x_notB (ha : XO X a oa) (hb : XO X b ob) : XE X (.Compare a [.IsNot] [b] pos) (eFn (gIsB true) [oa, ob]) := x_cmp op_notBl fnNotB ha hb (nomark _ (by decide) (by decide))
theorem t_isB (ha : XO X a oa) (hb : XO X b ob) : XT X (.Compare a [.Is] [b] pos) (bOf (eFn (gIsB false) [oa, ob])) := t_cmp op_isBl fnIsB ha hb (nomark _ (by decide) (by decide))
theorem t_notB (ha : XO X a oa) (hb : XO X b ob) : XT X (.Compare a [.IsNot] [b] pos) (bOf (eFn (gIsB true) [oa, ob])) := t_cmp op_notBl fnNotB ha hb (nomark _ (by decide) (by decide))
end
end Vw

set_option Elab.async false
set_option linter.all false
set_option maxRecDepth 100000
set_option maxHeartbeats 4000000
/-! tuple targets; list(range), tuple(range) -/
namespace Vw
open PySem L2 PyProof.Rows

/-! ### tuple targets -/
def sTup (m : EM) (g : GM) : SM := fun ρ => (m ρ).bind fun p => p.1.dat.bind fun d => (g d p.2).map .nx
section
variable {K : PySem.W.Frag} {D : Ends} {σ : L2.St} {H : Hp}
theorem sM_tup {m : EM} {g : GM} {ts : List Nat} (q : sM K (sTup m g) D σ H) : tAsg (tM K m) (gM K ts g) D σ H := by
  obtain ⟨M, ρ, o, S, e, w⟩ := q
  unfold sTup at e
  cases e1 : m ρ with
  | none => rw [e1] at e; cases e
  | some p =>
    obtain ⟨r, ρ1⟩ := p
    rw [e1] at e
    simp only [Option.bind_some] at e
    cases e2 : r.dat with
    | none => rw [e2] at e; cases e
    | some d =>
      rw [e2] at e
      simp only [Option.bind_some] at e
      cases e3 : g d ρ1 with
      | none => rw [e3] at e; cases e
      | some ρ2 =>
        rw [e3] at e
        cases e
        refine ⟨M, ρ, r, ρ1, S, e1, fun v H1 x1 x2 R => ?_⟩
        obtain ⟨d', hd, S1, rp⟩ := R.fz
        rw [e2] at hd
        cases hd
        exact ⟨M, ρ1, d, ρ2, S1, rp, e3, fun σ' _ A S2 => w σ' H1 ((Aft.of x1 x2).trans A) S2⟩
theorem s_tup {X : Cx} {tg e : Expr} {m : EM} {g : GM} {ts : List Nat} {pos : Pos} (he : XE X e m) (hg : XG X tg ts g) (hs : swapsWithSole [tg] e pos.line X.env = pure false := by rfl) (hw : swappedStores [tg] e X.env = pure none := by rfl)
    (h1 : (assignEach [tg] X.env).map (·.2) = [assign tg X.env] := by rfl) : XS X (.Assign [tg] e pos) (sTup m g) := ps_imp (ps_asg he hg hs hw h1) fun _ _ _ q => sM_tup q
/-- three names by three values -/
def sPar3 (i j l : Nat) (os : List Opd) : SM := fun ρ => (pres os ρ).bind fun p => (fins os p.1 p.2).bind fun ds => (gsCons (gN i) (gsCons (gN j) (gsCons (gN l) gsNil)) ds p.2).map .nx
theorem sM_par3 {i j l : Nat} {os : List Opd} (hv : os.all Opd.isVal = true) (q : sM K (sPar3 i j l os) D σ H) : tPar3 i j l (pM K os) D σ H := by
  obtain ⟨M, ρ, o, S, e, w⟩ := q
  unfold sPar3 at e
  cases e1 : pres os ρ with
  | none => rw [e1] at e; cases e
  | some p =>
    obtain ⟨xs, ρ1⟩ := p
    rw [e1] at e
    simp only [Option.bind_some] at e
    cases e2 : fins os xs ρ1 with
    | none => rw [e2] at e; cases e
    | some ds =>
      rw [e2] at e
      simp only [Option.bind_some] at e
      cases e3 : gsCons (gN i) (gsCons (gN j) (gsCons (gN l) gsNil)) ds ρ1 with
      | none => rw [e3] at e; cases e
      | some ρ2 =>
        rw [e3] at e
        cases e
        refine ⟨M, ρ, xs, ρ1, S, e1, fun vs H1 x1 x2 S1 p1 => ?_⟩
        have h1 : gsM K ([i] ++ ([j] ++ ([l] ++ []))) (gsCons (gN i) (gsCons (gN j) (gsCons (gN l) gsNil))) vs σ H1 D.nx := ⟨M, ρ1, ds, ρ2, S1, fins_vals hv p1 e2, e3, fun σ' _ A S2 => w σ' H1 ((Aft.of x1 x2).trans A) S2⟩
        obtain ⟨u, us, rfl, q1⟩ := gsM_cons h1
        obtain ⟨v, vs2, rfl, q2⟩ := gsM_cons (gM_name q1)
        obtain ⟨x, xs2, rfl, q3⟩ := gsM_cons (gM_name q2)
        obtain ⟨rfl, q4⟩ := gsM_nil (gM_name q3)
        exact ⟨u, v, x, rfl, q4⟩
theorem s_par3 {X : Cx} {i j l : Nat} {x y z : Str} {a b c : Expr} {os : List Opd} {px py pz pt pos : Pos} {kt k2 pt2} (hc : X.calm = true) (hN : X.N.Nodup) (hi : X.N[i]? = some x) (hj : X.N[j]? = some y) (hl : X.N[l]? = some z) (hij : i ≠ j) (hil : i ≠ l) (hjl : j ≠ l)
    (hx : X.env.scope.names.lookup x = some .local) (hy : X.env.scope.names.lookup y = some .local) (hz : X.env.scope.names.lookup z = some .local) (ha : XA X [a, b, c] os) (hv : os.all Opd.isVal = true)
    (hw : swappedStores [.Tuple [.Name x px, .Name y py, .Name z pz] kt pt] (.Tuple [a, b, c] k2 pt2) X.env = pure (some [x, y, z])) :
    XS X (.Assign [.Tuple [.Name x px, .Name y py, .Name z pz] kt pt] (.Tuple [a, b, c] k2 pt2) pos) (sPar3 i j l os) := ps_imp (ps_par3 hc hN hi hj hl hij hil hjl hx hy hz ha hw) fun _ _ _ q => sM_par3 hv q
end

/-! ### list(range), tuple(range) -/
def gRng (lst : Bool) : List PyData → Option Sl
  | [.int n] => if 0 ≤ n ∧ n ≤ 16777216 then some (if lst = true then .ow (.list (rangeD 0 n.toNat)) else .fz (.tuple (rangeD 0 n.toNat))) else none
  | [.int i, .int j] => if 0 ≤ i ∧ i ≤ 16777216 ∧ 0 ≤ j ∧ j ≤ 16777216 then some (if lst = true then .ow (.list (rangeD i (j - i).toNat)) else .fz (.tuple (rangeD i (j - i).toNat))) else none
  | _ => none
def eRng (lst : Bool) (os : List Opd) : EM := eFn (gRng lst) os
theorem rg_rep {K : PySem.W.Frag} {A : Addr → Prop} {H : Hp} (a b : Int) : RepAll K A H (rgV a b) (rangeD a (b - a).toNat) := by
  unfold rgV rangeD
  generalize (b - a).toNat = n
  induction List.range n with
  | nil => exact .nil
  | cons i is ih => exact .cons (.int _) ih
def rRng (lst : Bool) : List V → Hp → VK → Prop := fun vs H Q => ∃ i j, ((∃ n, vs = [.int n] ∧ i = 0 ∧ j = n) ∨ vs = [.int i, .int j]) ∧ RgOk i j ∧ ∀ q, H q = none → Q (.ref q) (upd H q (if lst = true then .lst (rgV i j) else .tup (rgV i j)))
theorem fnRng {K : PySem.W.Frag} {lst : Bool} : FnD K (rRng lst) (gRng lst) := fun A vs ds H s Q hA hr e k => by
  have go : ∀ i j : Int, s = (if lst = true then Sl.ow (.list (rangeD i (j - i).toNat)) else .fz (.tuple (rangeD i (j - i).toNat))) → ∀ q, H q = none → Q (.ref q) (upd H q (if lst = true then .lst (rgV i j) else .tup (rgV i j))) := fun i j hs q hq => by
    subst hs
    cases lst with
    | true => exact k _ _ (same_upd hq _) ⟨q, rfl, hq, new_lst (rg_rep i j) hq⟩
    | false => exact k _ _ (same_upd hq _) (new_tup (rg_rep i j) hA hq)
  unfold gRng at e
  split at e
  · rename_i n
    split at e
    · rename_i h
      cases e
      obtain ⟨x, rfl, h1⟩ := hr.one
      exact ⟨0, n, .inl ⟨n, by rw [h1.int], rfl, rfl⟩, RgOk.of_le (by decide) h.2 (by decide) h.1, go 0 n (by rw [Int.sub_zero])⟩
    · cases e
  · rename_i i j
    split at e
    · rename_i h
      cases e
      obtain ⟨x, y, rfl, h1, h2⟩ := hr.two
      exact ⟨i, j, .inr (by rw [h1.int, h2.int]), RgOk.of_le h.1 h.2.2.2 h.2.1 h.2.2.1, go i j rfl⟩
    · cases e
  · cases e
section
variable {X : Cx} {a b : Expr} {oa ob : Opd} {p p2 pos pos2 : Pos}
theorem rng1_of {lst : Bool} {K : PySem.W.Frag} {o : Opd} {σ : L2.St} {H : Hp} {Q : VK} (q : tM K (eRng lst [o]) σ H Q) : tRg1 (oM K o) σ H fun i j H1 => RgOk i j ∧ ∀ q, H1 q = none → Q (.ref q) (upd H1 q (if lst = true then .lst (rgV i j) else .tup (rgV i j))) := by
  obtain ⟨M, ρ, x, ρ', S, e, k⟩ := pM1 (tM_fn fnRng q)
  refine ⟨M, ρ, x, ρ', S, e, fun v H' x1 x2 x3 x4 => ?_⟩
  obtain ⟨i, j, h, r, w⟩ := k v H' x1 x2 x3 x4
  rcases h with ⟨n, hn, rfl, rfl⟩ | h
  · cases hn
    exact ⟨_, rfl, r, w⟩
  · cases h
theorem rng2_of {lst : Bool} {K : PySem.W.Frag} {o o2 : Opd} {σ : L2.St} {H : Hp} {Q : VK} (q : tM K (eRng lst [o, o2]) σ H Q) : tRg2 (oM K o) (oM K o2) σ H fun i j H1 => RgOk i j ∧ ∀ q, H1 q = none → Q (.ref q) (upd H1 q (if lst = true then .lst (rgV i j) else .tup (rgV i j))) := by
  obtain ⟨M, ρ, x, ρ', S, e, k⟩ := pM2 (tM_fn fnRng q)
  refine ⟨M, ρ, x, ρ', S, e, fun v H' x1 x2 x3 x4 => ?_⟩
  obtain ⟨M2, ρ2, y, ρ3, S2, e2, k2⟩ := k v H' x1 x2 x3 x4
  refine ⟨M2, ρ2, y, ρ3, S2, e2, fun w H2 y1 y2 y3 y4 => ?_⟩
  obtain ⟨i, j, h, r, z⟩ := k2 w H2 y1 y2 y3 y4
  rcases h with ⟨n, hn, rfl, rfl⟩ | h
  · cases hn
  · cases h
    exact ⟨_, _, rfl, rfl, r, z⟩
theorem x_listRange (gl : Gl X "list") (hm : X.mg "list" = none) (gr : Gl X "range") (mr : X.mg "range" = none) (hc : X.calm = true) (ha : XO X a oa) (h1 : starEach [a] X.env = (false, eval a X.env) :: starEach [] X.env := by rfl) (h2 : starEach [.Call (.Name "range" p2) [a] [] pos2] X.env = (false, eval (.Call (.Name "range" p2) [a] [] pos2) X.env) :: starEach [] X.env := by rfl) :
    XE X (.Call (.Name "list" p) [.Call (.Name "range" p2) [a] [] pos2] [] pos) (eRng true [oa]) := pe_imp (pe_listRg hc gl hm (prg_1 gr mr ha h1) h2) fun _ _ _ q => rng1_of q
theorem x_tupleRange (gl : Gl X "tuple") (hm : X.mg "tuple" = none) (gr : Gl X "range") (mr : X.mg "range" = none) (hc : X.calm = true) (ha : XO X a oa) (h1 : starEach [a] X.env = (false, eval a X.env) :: starEach [] X.env := by rfl) (h2 : starEach [.Call (.Name "range" p2) [a] [] pos2] X.env = (false, eval (.Call (.Name "range" p2) [a] [] pos2) X.env) :: starEach [] X.env := by rfl) :
    XE X (.Call (.Name "tuple" p) [.Call (.Name "range" p2) [a] [] pos2] [] pos) (eRng false [oa]) := pe_imp (pe_tupRg hc gl hm (prg_1 gr mr ha h1) h2) fun _ _ _ q => rng1_of q
theorem x_listRange2 (gl : Gl X "list") (hm : X.mg "list" = none) (gr : Gl X "range") (mr : X.mg "range" = none) (hc : X.calm = true) (ha : XO X a oa) (hb : XO X b ob) (h1 : starEach [a, b] X.env = (false, eval a X.env) :: starEach [b] X.env := by rfl) (h0 : starEach [b] X.env = (false, eval b X.env) :: starEach [] X.env := by rfl) (h2 : starEach [.Call (.Name "range" p2) [a, b] [] pos2] X.env = (false, eval (.Call (.Name "range" p2) [a, b] [] pos2) X.env) :: starEach [] X.env := by rfl) (h3 : (backTo pos2 (starEach [b] X.env)).any (·.1) = false := by rfl) :
    XE X (.Call (.Name "list" p) [.Call (.Name "range" p2) [a, b] [] pos2] [] pos) (eRng true [oa, ob]) := pe_imp (pe_listRg hc gl hm (prg_2 gr mr ha hb h1 h0 h3) h2) fun _ _ _ q => rng2_of q
theorem x_tupleRange2 (gl : Gl X "tuple") (hm : X.mg "tuple" = none) (gr : Gl X "range") (mr : X.mg "range" = none) (hc : X.calm = true) (ha : XO X a oa) (hb : XO X b ob) (h1 : starEach [a, b] X.env = (false, eval a X.env) :: starEach [b] X.env := by rfl) (h0 : starEach [b] X.env = (false, eval b X.env) :: starEach [] X.env := by rfl) (h2 : starEach [.Call (.Name "range" p2) [a, b] [] pos2] X.env = (false, eval (.Call (.Name "range" p2) [a, b] [] pos2) X.env) :: starEach [] X.env := by rfl) (h3 : (backTo pos2 (starEach [b] X.env)).any (·.1) = false := by rfl) :
    XE X (.Call (.Name "tuple" p) [.Call (.Name "range" p2) [a, b] [] pos2] [] pos) (eRng false [oa, ob]) := pe_imp (pe_tupRg hc gl hm (prg_2 gr mr ha hb h1 h0 h3) h2) fun _ _ _ q => rng2_of q
end
end Vw

set_option Elab.async false
set_option linter.all false
set_option maxRecDepth 100000
set_option maxHeartbeats 4000000
/-! reading alone: own lists are looked at and stay own ones; the answer is a plain value -/
namespace Vw
open PySem L2 PyProof.Rows

abbrev PM := Rho → Option PyData
abbrev NoA : Addr → Prop := fun _ => False
def tP (K : PySem.W.Frag) (m : PM) : TE := fun σ H Q => ∃ M ρ d, Sr K M ρ σ H ∧ m ρ = some d ∧ ∀ v H', Same H H' → Rep K NoA H' v d → Q v H'
def pAll : List PM → Rho → Option (List PyData)
  | [], _ => some []
  | m :: ms, ρ => (m ρ).bind fun d => (pAll ms ρ).map (d :: ·)
def tPs (K : PySem.W.Frag) (ms : List PM) : TA := fun σ H Q => ∃ M ρ ds, Sr K M ρ σ H ∧ pAll ms ρ = some ds ∧ ∀ vs H', Same H H' → RepAll K NoA H' vs ds → Q vs H'
abbrev XP (X : Cx) (e : Expr) (m : PM) : Prop := PE X e (tP X.K m)
abbrev XPs (X : Cx) (es : List Expr) (ms : List PM) : Prop := PA X es (tPs X.K ms)
theorem Same.tr {H H1 H2 : Hp} (a : Same H H1) (b : Same H1 H2) : Same H H2 := fun c o e => b c o (a c o e)
theorem Rep.sm {K : PySem.W.Frag} {A : Addr → Prop} {H H' : Hp} (h : Same H H') {v : V} {d : PyData} (r : Rep K A H v d) : Rep K A H' v d := r.move (Same.mv h)
theorem RepAll.sm {K : PySem.W.Frag} {A : Addr → Prop} {H H' : Hp} (h : Same H H') {v : List V} {d : List PyData} (r : RepAll K A H v d) : RepAll K A H' v d := r.move (Same.mv h)
theorem RepAll.ts {K : PySem.W.Frag} {A : Addr → Prop} {H : Hp} : ∀ {vs : List V} {ds : List PyData}, RepAll K A H vs ds → RepTs K A H vs ds
  | _, _, .nil => .nil
  | _, _, .cons r t => .cons (.inl r) (RepAll.ts t)
theorem VRes.weak {K : PySem.W.Frag} {H H' : Hp} {v : V} {s : Sl} {d : PyData} (h : VRes K NoA H v H' s) (hd : s.dat = some d) : Rep K NoA H' v d := by
  cases s with
  | fz d' => cases hd; exact h
  | ow d' =>
    cases hd
    obtain ⟨p, rfl, _, h⟩ := h
    exact h.rep (fun _ z => z.elim) fun z => z
  | un => exact h.elim
  | io _ => exact h.elim
/-- names, constants -/
def pName (i : Nat) : PM := fun ρ => (ρ[i]?).bind Sl.dat
def pC (d : PyData) : PM := fun _ => some d
def pFn (g : List PyData → Option Sl) (ms : List PM) : PM := fun ρ => (pAll ms ρ).bind fun ds => (g ds).bind Sl.dat
def pCall (f : List PyData → Option (Sl × List PyData)) (ms : List PM) : PM := fun ρ => (pAll ms ρ).bind fun ds => (f ds).bind fun p => match p.2 with
  | [] => p.1.dat
  | _ => none
/-- the answer is a plain value -/
def ePure (m : PM) : EM := fun ρ => (m ρ).bind fun d => if flatD d = true then some (.fz d, ρ) else none
section
variable {K : PySem.W.Frag} {σ : L2.St} {H : Hp}
theorem tP_name {i : Nat} {Q : VK} (q : tP K (pName i) σ H Q) : tVar i σ H Q := by
  obtain ⟨M, ρ, d, S, e, k⟩ := q
  unfold pName at e
  cases h : ρ[i]? with
  | none => rw [h] at e; cases e
  | some s =>
    rw [h] at e
    cases s with
    | un => cases e
    | fz d' =>
      cases e
      obtain ⟨v, h1, h2⟩ := S.fz i _ h
      exact ⟨v, h1, k v H (Same.refl H) (h2.less fun _ z => z.elim)⟩
    | ow d' =>
      cases e
      obtain ⟨p, h1, h2, h3⟩ := S.ow i _ (.inl h)
      exact ⟨_, h1, k _ H (Same.refl H) (h3.rep (fun _ z => z.elim) fun z => z)⟩
    | io d' =>
      cases e
      obtain ⟨p, h1, h2, h3⟩ := S.ow i _ (.inr h)
      exact ⟨_, h1, k _ H (Same.refl H) (h3.rep (fun _ z => z.elim) fun z => z)⟩
theorem tPs_nil {Q : List V → Hp → Prop} (q : tPs K [] σ H Q) : tNil σ H Q := by
  obtain ⟨M, ρ, d, S, e, k⟩ := q
  cases e
  exact k [] H (Same.refl H) .nil
theorem tPs_cons {m : PM} {ms : List PM} {Q : List V → Hp → Prop} (q : tPs K (m :: ms) σ H Q) : tCons (tP K m) (tPs K ms) σ H Q := by
  obtain ⟨M, ρ, ds, S, e, k⟩ := q
  unfold pAll at e
  cases e1 : m ρ with
  | none => rw [e1] at e; cases e
  | some d =>
    rw [e1] at e
    simp only [Option.bind_some] at e
    cases e2 : pAll ms ρ with
    | none => rw [e2] at e; cases e
    | some es =>
      rw [e2] at e
      cases e
      exact ⟨M, ρ, d, S, e1, fun v H1 s1 r1 => ⟨M, ρ, es, S.same s1, e2, fun vs H2 s2 r2 => k (v :: vs) H2 (Same.tr s1 s2) (.cons (r1.sm s2) r2)⟩⟩
theorem tP_fn {r : List V → Hp → VK → Prop} {g : List PyData → Option Sl} (hg : FnD K r g) {ms : List PM} {Q : VK} (q : tP K (pFn g ms) σ H Q) : tPs K ms σ H fun vs H1 => r vs H1 Q := by
  obtain ⟨M, ρ, d, S, e, k⟩ := q
  unfold pFn at e
  cases e1 : pAll ms ρ with
  | none => rw [e1] at e; cases e
  | some ds =>
    rw [e1] at e
    simp only [Option.bind_some] at e
    cases e2 : g ds with
    | none => rw [e2] at e; cases e
    | some s =>
      rw [e2] at e
      simp only [Option.bind_some] at e
      refine ⟨M, ρ, ds, S, e1, fun vs H1 s1 r1 => hg NoA vs ds H1 s Q (fun _ z => z.elim) r1.ts e2 fun v H2 s2 hv => ?_⟩
      exact k v H2 (Same.tr s1 s2) (hv.weak e)
theorem tP_fnR {r : List V → Hp → VK → Prop} {g : List PyData → Option Sl} (hg : FnR K r g) {ms : List PM} {Q : VK} (q : tP K (pFn g ms) σ H Q) : tPs K ms σ H fun vs H1 => r vs H1 Q := by
  obtain ⟨M, ρ, d, S, e, k⟩ := q
  unfold pFn at e
  cases e1 : pAll ms ρ with
  | none => rw [e1] at e; cases e
  | some ds =>
    rw [e1] at e
    simp only [Option.bind_some] at e
    cases e2 : g ds with
    | none => rw [e2] at e; cases e
    | some s =>
      rw [e2] at e
      simp only [Option.bind_some] at e
      refine ⟨M, ρ, ds, S, e1, fun vs H1 s1 r1 => hg NoA vs ds H1 s Q (fun _ z => z.elim) r1 e2 fun v H2 s2 hv => ?_⟩
      exact k v H2 (Same.tr s1 s2) (hv.weak e)
theorem flat_rep {A B : Addr → Prop} {v : V} {d : PyData} (hf : flatD d = true) (r : Rep K A H v d) : Rep K B H v d := by
  cases r with
  | non => exact .non
  | bl b => exact .bl b
  | int i => exact .int i
  | str x => exact .str x
  | lst _ _ _ => cases hf
  | tup _ _ _ => cases hf
  | tupK _ _ => cases hf
  | dG _ _ _ _ _ => cases hf
  | obj _ _ _ _ _ _ _ _ => cases hf
  | obj0 _ _ _ => cases hf
theorem tM_pure {m : PM} {Q : VK} (q : tM K (ePure m) σ H Q) : tP K m σ H Q := by
  obtain ⟨M, ρ, r, ρ', S, e, k⟩ := q
  unfold ePure at e
  cases e1 : m ρ with
  | none => rw [e1] at e; cases e
  | some d =>
    rw [e1] at e
    simp only [Option.bind_some] at e
    split at e
    · rename_i hf
      cases e
      exact ⟨M, ρ, d, S, e1, fun v H1 s1 r1 => k v H1 (Ext.same s1) (IoK.refl _) ⟨S.same s1, flat_rep hf r1⟩⟩
    · cases e
theorem initF : ∀ (n : Nat) (ds : List PyData) (i : Nat) (s : Sl), (initR (List.replicate n false) ds)[i]? = some s → ∃ d, s = .fz d ∧ ds[i]? = some d
  | 0, ds, i, s, e => by simp [initR] at e
  | n + 1, [], i, s, e => by simp [initR, List.replicate_succ] at e
  | n + 1, d :: ds, 0, s, e => by simp [initR, List.replicate_succ] at e; exact ⟨d, e.symm, rfl⟩
  | n + 1, d :: ds, i + 1, s, e => by
    obtain ⟨d', h1, h2⟩ := initF n ds i s (by simpa [initR, List.replicate_succ] using e)
    exact ⟨d', h1, by simpa using h2⟩
theorem outF : ∀ (n : Nat), outR (List.replicate n false) [] = some (List.replicate n .un)
  | 0 => rfl
  | n + 1 => by simp [List.replicate_succ, outR, outF n]
theorem tP_call {f : List PyData → Option (Sl × List PyData)} {ms : List PM} {Q : VK} {E : XK} (q : tP K (pCall f ms) σ H Q) : tPs K ms σ H fun vs H1 => spM K (List.replicate ms.length false) f vs H1 Q E := by
  obtain ⟨M, ρ, d, S, e, k⟩ := q
  unfold pCall at e
  cases e1 : pAll ms ρ with
  | none => rw [e1] at e; cases e
  | some ds =>
    rw [e1] at e
    simp only [Option.bind_some] at e
    cases e2 : f ds with
    | none => rw [e2] at e; cases e
    | some p =>
      obtain ⟨r, outl⟩ := p
      rw [e2] at e
      simp only [Option.bind_some] at e
      cases outl with
      | cons _ _ => cases e
      | nil =>
        have e : r.dat = some d := e
        have hlen : ∀ (ms : List PM) (ds : List PyData), pAll ms ρ = some ds → ds.length = ms.length := by
          intro ms
          induction ms with
          | nil => intro ds h; cases h; rfl
          | cons m ms ih =>
            intro ds h
            unfold pAll at h
            cases a1 : m ρ with
            | none => rw [a1] at h; cases h
            | some d1 =>
              rw [a1] at h
              simp only [Option.bind_some] at h
              cases a2 : pAll ms ρ with
              | none => rw [a2] at h; cases h
              | some es => rw [a2] at h; cases h; simp [ih es a2]
        have hl := hlen ms ds e1
        refine ⟨M, ρ, ds, S, e1, fun vs H1 s1 r1 => ?_⟩
        have hvl := r1.length
        have none_own : ∀ b, ¬ OO (initR (List.replicate ms.length false) ds) (vs.map some) b := fun b ⟨i, ⟨d, h⟩, _⟩ => by
          rcases h with h | h
          · obtain ⟨_, h, _⟩ := initF _ _ _ _ h; cases h
          · obtain ⟨_, h, _⟩ := initF _ _ _ _ h; cases h
        have hil : (initR (List.replicate ms.length false) ds).length = ms.length := by
          rw [initR_len _ _ (by rw [List.length_replicate, hl]), List.length_replicate]
        have S0 : Sr K NoA (initR (List.replicate ms.length false) ds) (vs.map some) H1 := by
          refine ⟨by rw [List.length_map, hvl, hl, hil], fun i d h => ?_, fun i d h => ?_, fun i j p h => ?_, fun b z => z.elim⟩
          · obtain ⟨d', h1, h2⟩ := initF _ _ _ _ h
            cases h1
            obtain ⟨v, g1, g2⟩ := r1.get h2
            exact ⟨v, by rw [List.getElem?_map, g1]; rfl, g2.less fun b z => z.elim id fun z => none_own b z⟩
          · rcases h with h | h
            · obtain ⟨_, h, _⟩ := initF _ _ _ _ h; cases h
            · obtain ⟨_, h, _⟩ := initF _ _ _ _ h; cases h
          · obtain ⟨d, h | h⟩ := h
            · obtain ⟨_, h, _⟩ := initF _ _ _ _ h; cases h
            · obtain ⟨_, h, _⟩ := initF _ _ _ _ h; cases h
        refine ⟨NoA, ds, r, [], List.replicate ms.length .un, by rw [List.length_replicate, hl], by rw [List.length_replicate, hvl, hl], S0, e2, outF _, fun v H2 x R => ?_⟩
        have none2 : ∀ b, ¬ OO (List.replicate ms.length Sl.un) (vs.map some) b := fun b ⟨i, ⟨d, h⟩, _⟩ => by
          rcases h with h | h <;> (rw [List.getElem?_replicate] at h; split at h <;> cases h)
        have s2 : Same H1 H2 := fun b o h => x.keep b o h (none_own b)
        refine k v H2 (Same.tr s1 s2) ?_
        cases r with
        | fz d' => cases e; exact R.2.less fun b z => z.elim
        | ow d' =>
          cases e
          obtain ⟨p, rfl, h1, h2, h3, h4⟩ := R
          exact h4.rep (fun b z => z.elim) fun z => z
        | un => cases e
        | io _ => exact R.elim
end
section
variable {X : Cx} {a b : Expr} {es : List Expr} {ma mb : PM} {ms : List PM} {pos p : Pos} {j k : Nat}
theorem x_pure (h : XP X a ma) : XE X a (ePure ma) := pe_imp h fun _ _ _ q => tM_pure q
theorem p_name (i : Nat) {x : Str} (hN : X.N[i]? = some x := by rfl) (hv : Vis X.env.scope x := by first | exact Or.inl rfl | exact Or.inr (Or.inl rfl) | exact Or.inr (Or.inr rfl)) (hd : (x == ("__debug__" : Str)) = false := by decide)
    (hcd : (x == ("__classdict__" : Str)) = false := by decide) : XP X (.Name x pos) (pName i) := pe_imp (pe_var hN hv hd hcd) fun _ _ _ q => tP_name q
theorem p_c {d : PyData} {v : V} {e : Expr} (h : PE X e (tC v)) (hr : ∀ A H, Rep X.K A H v d) : XP X e (pC d) := pe_imp h fun σ H Q q => by
  obtain ⟨M, ρ, d', S, e, k⟩ := q
  cases e
  exact k v H (Same.refl H) (hr _ _)
theorem p_int {i : Int} {j} : XP X (.Constant (.int i) j pos) (pC (.int i)) := p_c pe_int fun _ _ => .int i
theorem p_bl {i : Bool} {j} : XP X (.Constant (.bool i) j pos) (pC (.bool i)) := p_c pe_bl fun _ _ => .bl i
theorem p_str {i : Str} {j} : XP X (.Constant (.str i) j pos) (pC (.str i)) := p_c pe_str fun _ _ => .str i
theorem p_non {j} : XP X (.Constant .none j pos) (pC .none) := p_c pe_non (fun _ _ => .non)
theorem ps_nil' : XPs X [] [] := pa_imp pa_nil fun _ _ _ q => tPs_nil q
theorem ps_cons' (h : XP X a ma) (t : XPs X es ms) (hs : starEach (a :: es) X.env = (false, eval a X.env) :: starEach es X.env := by rfl) : XPs X (a :: es) (ma :: ms) := pa_imp (pa_cons h t hs) fun _ _ _ q => tPs_cons q
theorem p_tup {x1} (h : XPs X es ms) : XP X (.Tuple es x1 pos) (pFn gTup' ms) := pe_imp (pe_tup h) fun σ H Q q => by
  refine tP_fnR (r := fun vs H Q => vs.length ≤ sizeLine ∧ ∀ p, H p = none → Q (.ref p) (upd H p (.tup vs))) ?_ q
  intro A vs ds H s Q hA h e k
  unfold gTup' at e
  split at e
  · cases e
    exact ⟨by rw [h.length]; assumption, fun p n => k _ _ (same_upd n _) (new_tup h hA n)⟩
  · cases e
theorem p_lst (h : XPs X es ms) : XP X (.List es pos) (pFn gLst' ms) := pe_imp (pe_lst h) fun σ H Q q => by
  refine tP_fnR (r := fun vs H Q => vs.length ≤ sizeLine ∧ ∀ p, H p = none → Q (.ref p) (upd H p (.lst vs))) ?_ q
  intro A vs ds H s Q hA h e k
  unfold gLst' at e
  split at e
  · cases e
    exact ⟨by rw [h.length]; assumption, fun p n => k _ _ (same_upd n _) ⟨p, rfl, n, new_lst h n⟩⟩
  · cases e
theorem tP_op {r : R2} {g : List PyData → Option Sl} (hg : FnD X.K (r2 r) g) {σ : L2.St} {H : Hp} {Q : VK} (q : tP X.K (pFn g [ma, mb]) σ H Q) : tOp r (tP X.K ma) (tP X.K mb) σ H Q := by
  obtain ⟨M, ρ, d, S, e, k⟩ := tPs_cons (tP_fn hg q)
  refine ⟨M, ρ, d, S, e, fun v H1 s1 r1 => ?_⟩
  obtain ⟨M2, ρ2, d2, S2, e2, k2⟩ := tPs_cons (k v H1 s1 r1)
  exact ⟨M2, ρ2, d2, S2, e2, fun w H2 s2 r2 => tPs_nil (k2 w H2 s2 r2) _ _ rfl⟩
theorem p_cmp {op : CmpOp} {r : R2} {g : List PyData → Option Sl} (ho : OpR X (compareOp op) r) (hg : FnD X.K (r2 r) g) (ha : XP X a ma) (hb : XP X b mb) (hm : behindInMarks op b = false) : XP X (.Compare a [op] [b] pos) (pFn g [ma, mb]) :=
  pe_imp (pe_cmpR ho ha hb hm) fun _ _ _ q => tP_op hg q
theorem p_eq (hr : Room k X.A) (ha : XP X a ma) (hb : XP X b mb) : XP X (.Compare a [.Eq] [b] pos) (pFn gEq [ma, mb]) := p_cmp ((op_eqD hr.units).or op_eq) fnEq ha hb (nomark _ (by decide) (by decide))
theorem p_ne (hr : Room k X.A) (ha : XP X a ma) (hb : XP X b mb) : XP X (.Compare a [.NotEq] [b] pos) (pFn gNe [ma, mb]) := p_cmp ((op_neD hr.units).or op_ne) fnNe ha hb (nomark _ (by decide) (by decide))
theorem p_item {r : R2} (ha : XP X a ma) (hb : XP X b mb) (hs : PlainIx b := by exact fun _ _ => rfl) : XP X (.Subscript a b pos) (pFn gIx [ma, mb]) := pe_imp (pe_ix ix_seq ha hb hs) fun _ _ _ q => tP_op fnIx q
theorem p_f {x : Str} {e : Expr} {m : Fn} {mt : List Bool} (C : Cal X.prog X.w X.K X.mg X.base k x mt m) (hr : Room j X.A) (hj : k ≤ j) (hg : Gl X x) (ha : XPs X (e :: es) ms) (hms : List.replicate ms.length false = mt := by rfl) (hdb : (x == ("__debug__" : Str)) = false := by decide) (he : starEach (e :: es) X.env = (false, eval e X.env) :: starEach es X.env := by rfl) (hpl : (backTo pos (starEach es X.env)).any (·.1) = false := by rfl) :
    XP X (.Call (.Name x p) (e :: es) [] pos) (pCall m ms) := by
  subst hms
  obtain ⟨f, fd, ps, F, hm, hk, hb⟩ := C.ex
  have hx : Passes CX0 X L2.E0 := pass0
  refine pe_imp (pe_call F (hr.mono hj) hg hm hk hb .nil hx ha hdb he hpl) fun σ H Q q => ?_
  have h := tP_call (E := L2.E0) q
  show tPs X.K ms σ H fun vs H1 => spM X.K (List.replicate ms.length false) m (vs ++ []) H1 Q L2.E0
  simpa using h
end
end Vw

set_option Elab.async false
set_option linter.all false
set_option maxRecDepth 100000
set_option maxHeartbeats 4000000
/-! enumerate of a tuple -/
namespace Vw
open PySem PySem.Spec L2 PyProof.Rows

theorem meets_enumT {v : Value} {o : Obj} {G : Heap → Prop} (B : Begins v o G) :
    Meets (Builtin.«enumerate.__new__» ⟨[.type "enumerate", v], []⟩) (fun _ R s => G s.heap ∧ R (.ok (.ret (.ref (s.heap.push o).objs.size))) { s with heap := (s.heap.push o).push { cls := .type "enumerate", data := .fields #[.none, .bool false, .ref s.heap.objs.size, rawInt 0, .none, .none] } }) :=
  .of_wp fun prog w A R s h => by
    obtain ⟨hp, g, d, tk, ot⟩ := s
    obtain ⟨h1, h⟩ := h
    have hsub := sub_enumerate
    have q1 : ∀ {A' : Around} {E : Value → Shared → Prop} {Q : Value → Shared → Prop}, Q (.ref hp.objs.size) ⟨hp.push o, g, d, tk, ot⟩ → wpAny (model prog w) A' (pyIter v) Q E ⟨hp, g, d, tk, ot⟩ :=
      fun q => B.iter prog w _ _ ⟨hp, g, d, tk, ot⟩ _ h1 q
    wp_walk using q1
    refine wpAny_stack_any fun st => wpAny_pure ?_
    split
    · rename_i c _ _ _ _ _
      cases (c == Value.type "enumerate")
      · wp_walk using q1
        exact ⟨_, rfl, h⟩
      · wp_walk using q1
        exact ⟨_, rfl, h⟩
    · wp_walk using q1
      exact ⟨_, rfl, h⟩
theorem call_enumT {prog : Program} {w : World} {A : Around} {E : Value → Shared → Prop} {s : Shared} {v : Value} {o : Obj} {G : Heap → Prop} {Q : Value → Shared → Prop} (B : Begins v o G) (h1 : G s.heap)
    (h : ∀ h', IsEnum h' (s.heap.objs.size + 1) s.heap.objs.size 0 .none → h'.get? s.heap.objs.size = some o → (∀ b o, s.heap.get? b = some o → h'.get? b = some o) → Q (.ref (s.heap.objs.size + 1)) { s with heap := h' }) :
    wpAny (model prog w) A (call (.type "enumerate") [v]) Q E s := by
  refine callType_new F.called_enumerate (by decide) (F.typeCall_enumerate_1 _) (F.newCall_enumerate_1 _) (fun obj => F.args_object_init_2 obj _) F.entry_enumerate_new (meets_enumT B) ⟨h1, ?_⟩
  have hz : (s.heap.push o).objs.size = s.heap.objs.size + 1 := Heap.size_push ..
  show _ ∧ _
  rw [hz]
  have he : IsEnum ((s.heap.push o).push { cls := .type "enumerate", data := .fields #[.none, .bool false, .ref s.heap.objs.size, rawInt 0, .none, .none] }) (s.heap.objs.size + 1) s.heap.objs.size 0 .none := by
    have q := Heap.get?_push_size (s.heap.push o) (o := { cls := .type "enumerate", data := .fields #[.none, .bool false, .ref s.heap.objs.size, rawInt 0, .none, .none] }) rfl
    rw [hz] at q
    exact q
  exact ⟨⟨_, he, rfl⟩, h _ he (Heap.get?_push_of_some _ (Heap.get?_push_size _ B.free)) fun b o x => Heap.get?_push_of_some _ (Heap.get?_push_of_some _ x)⟩
theorem enumT_end {prog : Program} {w : World} {A : Around} {E : Value → Shared → Prop} {s : Shared} {e it a : Addr} {i : Nat} {its : Array Value} {old : Value} {Q : Option Value → Shared → Prop} (hh : A.handled = none) (he : IsEnum s.heap e it i old) (hit : s.heap.IsTupleIter it a i) (ht : s.heap.IsTuple a its) (hx : its[i]? = none)
    (hQ : ∀ h', Heap.ExtBut it s.heap h' → Q none { s with heap := h' }) : wpAny (model prog w) A (pyNext (.ref e)) Q E s := by
  have ty : s.TypeIs (.ref e) "enumerate" := ⟨_, he, rfl⟩
  unfold pyNext
  refine wpAny_bind (wpAny_attempt (wpAny_callSpecial?_slot (name := Str.ofString "__next__") ty F.slot_enumerate_next (wpAny_call_entry F.slot_enumerate_next ty F.entry_enumerate_next ?_ (F.args_enumerate_next_1 _))))
  show wpAny _ _ (field (.ref e) 2 >>= _) _ _ _
  refine wpAny_bind (wpAny_field he rfl (x := .ref it) rfl ?_)
  refine wpAny_bind (wpAny_nextOf_tuple_end hh hit ht hx fun g x hg hxx => ?_)
  obtain ⟨o, ho, hc⟩ := hxx
  exact wpAny_bind (wpAny_isInstance (T := "StopIteration") (b := true) ⟨o, ho, hc⟩ isSubtype_stop (wpAny_pure (hQ _ hg)))
/-- the tuple at a, each item in a new pair -/
def IteT (K : PySem.W.Frag) (a : Addr) : It :=
  ⟨fun i H => ∃ (xs : List V) (x : V), SqT K H a xs ∧ xs[i]? = some x, fun i H v H' => ∃ T x, v = .ref T ∧ H T = none ∧ H' = upd H T (.tup [.int (i : Nat), x]) ∧ ∀ xs, SqT K H a xs → xs[i]? = some x, fun i H => ∃ xs : List V, SqT K H a xs ∧ xs.length ≤ i⟩
theorem turn_enumT {P : Program} {w : World} {K : PySem.W.Frag} {elts : List Expr} {kk : Nat} {tpos : Pos} (a e it : Addr) (hae : a ≠ e) (hai : a ≠ it) :
    Turn P w K (.Tuple elts kk tpos) (IteT K a) [e, it] e (fun i h => (∃ old, IsEnum h e it ((i : Nat) : Int) old) ∧ h.IsTupleIter it a i ∧ e ≠ it) where
  mem := by simp
  obj := fun i h st b hb => by
    obtain ⟨⟨old, he⟩, ⟨o, ho, hc, hd⟩, _⟩ := st
    have e' : b = e ∨ b = it := by simpa using hb
    rcases e' with z | z
    · subst z
      exact ⟨_, he, fun v q => by cases q⟩
    · subst z
      exact ⟨o, ho, fun v q => by rw [hd] at q; cases q⟩
  keep := fun i h h' st k => by
    obtain ⟨⟨old, he⟩, hi, hne⟩ := st
    exact ⟨⟨old, k e (by simp) _ he⟩, hi.at fun o q => k it (by simp) o q, hne⟩
  item := by
    intro X hP hw hK hc i pins s σ H E I hf st hg
    subst hP hw hK
    obtain ⟨⟨old, he⟩, hit, hne⟩ := st
    obtain ⟨xs, x, hq, hx⟩ := hg
    obtain ⟨its, rv, p, hz⟩ := I.tuple hq
    obtain ⟨u, hu, ru⟩ := rv.get hx
    have hel : e < s.heap.objs.size := Heap.lt_size he
    have hil : it < s.heap.objs.size := by
      obtain ⟨_, q, _⟩ := hit
      exact Heap.lt_size q
    have hlt : i < its.toArray.size := by
      rw [List.size_toArray]
      exact (List.getElem?_eq_some_iff.mp hu).1
    refine wpAny_pyNext_enum_itemD (fp := [it, a]) (Draws.tuple (A := X.A.in1) (show X.A.in1.handled = none from I.ok.hd hc) it a hai its.toArray) he ⟨hit, p⟩ hlt hne (by simp [hne, Ne.symm hae]) fun y h' tk hy ho hit' hT hsz hk => ?_
    have hyu : y = u := by
      have h1 : its.toArray[i]? = some u := by simpa using hu
      exact Option.some.inj (hy.symm.trans h1)
    subst hyu
    refine ⟨_, rfl, wpAny_letOwnedTupleGo_enum (s := { s with heap := h', toks := tk + 1 }) ho fun h2 he2 sb => ?_⟩
    have hT2 : h2.get? s.heap.objs.size = some { cls := .type "tuple", data := .seq #[.int i tk, y] } := (sb.2 _ (Nat.ne_of_gt hel)).trans hT
    have nw : ObjOk X.prog X.w (upd H s.heap.objs.size (.tup [.int (i : Nat), x])) h2 s.heap.objs.size (.tup [.int (i : Nat), x]) :=
      ⟨by show 2 ≤ sizeLine; decide, [.int i tk, y], .cons ⟨_, rfl⟩ (.cons ru .nil), ⟨_, hT2, rfl, _, rfl⟩⟩
    have I1 : Inv X pins σ (upd H s.heap.objs.size (.tup [.int (i : Nat), x])) { s with heap := h2, toks := tk + 1 } :=
      I.turnedNew (ch := [e, it]) (fun b ob hb q => (sb.2 b fun z => hb (by simp [z])).trans (hk b ob (fun z => hb (by simp [z])) (fun z => hb (by simp [z])) q)) hf (Nat.le_refl _) nw
    refine ⟨.ref s.heap.objs.size, _, I1, rfl, ⟨_, x, rfl, I.hok.fresh (Nat.le_refl _), rfl, fun ys hy => by rw [I.tuple_inj hy hq]; exact hx⟩, ⟨⟨y, ?_⟩, hit'.1.at fun o q => (sb.2 it (Ne.symm hne)).trans q, hne⟩, fun b hb => ?_⟩
    · rw [show ((i + 1 : Nat) : Int) = (i : Int) + 1 by omega]
      exact he2
    · have hb2 : b < s.heap.objs.size := by
        have e' : b = e ∨ b = it := by simpa using hb
        rcases e' with z | z
        · subst z; exact hel
        · subst z; exact hil
      rw [upd_ne (Nat.ne_of_lt hb2)]
      exact (hf b hb).1
  done := by
    intro X hP hw hK hc i pins s σ H E I hf st hg
    subst hP hw hK
    obtain ⟨⟨old, he⟩, hit, hne⟩ := st
    obtain ⟨xs, hq, hx⟩ := hg
    obtain ⟨its, rv, p, hz⟩ := I.tuple hq
    obtain ⟨f0, f1, f2, f3, f4, f5⟩ := hf it (by simp)
    have hl := rv.length
    exact enumT_end (I.ok.hd hc) he hit p (by simp; omega) fun h' eb => ⟨rfl, I.turned (t' := s.toks) (fun b o hb q => eb b o hb q) f0 f1 f3 f4 f5⟩
  self := fun A i s Q E st h => by
    obtain ⟨⟨_, he⟩, _⟩ := st
    exact wpAny_pyIter_enum he h
def iEnumT (K : PySem.W.Frag) (ta : TA) : TI := fun σ H R => ta σ H fun vs H1 => ∃ a, vs = [.ref a] ∧ ((∃ xs, SqL K H1 a xs) ∧ R (Ite K a) H1 ∨ (∃ xs, SqT K H1 a xs) ∧ R (IteT K a) H1)
theorem pi_enumT {X : Cx} {e : Expr} {ta : TA} {p pos tpos : Pos} {elts : List Expr} {kk : Nat} (hg : Gl X "enumerate") (hm : X.mg "enumerate" = none) (ha : PA X [e] ta) (hs : starEach [e] X.env = [(false, eval e X.env)] := by rfl) :
    PI X (.Tuple elts kk tpos) (.Call (.Name "enumerate" p) [e] [] pos) (iEnumT X.K ta) := by
  refine ⟨fun pins s σ H R I h => ?_⟩
  refine Call_ (ld_blt I hg hm boot_enumerate (PyProof.Rows.callWith_type1 (thn (ha.run pos pins s σ H _ I h) fun us s1 g => ?_) hs rfl))
  obtain ⟨vs, H1, I1, r1, a, ex, q⟩ := g
  subst ex
  cases r1 with
  | cons r rr =>
    cases rr
    cases r
    have far : ∀ b, b ∈ [s1.heap.objs.size + 1, s1.heap.objs.size] → s1.heap.objs.size ≤ b := fun b hb => by
      have e' : b = s1.heap.objs.size + 1 ∨ b = s1.heap.objs.size := by simpa using hb
      omega
    rcases q with ⟨⟨xs, hq⟩, q⟩ | ⟨⟨xs, hq⟩, q⟩
    · obtain ⟨its, rv, p', hz⟩ := I1.list hq
      refine call_enumerate_list p'.isList fun h' he hit hsz hk => wpAny_pyIter_enum he ?_
      have I2 : Inv X pins σ H1 { s1 with heap := h' } := I1.kept (t' := s1.toks) hk
      exact ⟨s1.heap.objs.size + 1, [s1.heap.objs.size + 1, s1.heap.objs.size], _, _, H1, rfl, I2, turn_enum a (s1.heap.objs.size + 1) s1.heap.objs.size, ⟨⟨.none, he⟩, hit, Nat.succ_ne_self _⟩, fun b hb => I1.fpOk (far b hb) (I1.hok.fresh (far b hb)), q⟩
    · obtain ⟨its, rv, p', hz⟩ := I1.tuple hq
      have hlt : a < s1.heap.objs.size := p'.lt
      refine call_enumT (begins_tuple a its.toArray) p' fun h' he hit hk => wpAny_pyIter_enum he ?_
      have I2 : Inv X pins σ H1 { s1 with heap := h' } := I1.kept (t' := s1.toks) hk
      exact ⟨s1.heap.objs.size + 1, [s1.heap.objs.size + 1, s1.heap.objs.size], _, _, H1, rfl, I2, turn_enumT a (s1.heap.objs.size + 1) s1.heap.objs.size (Nat.ne_of_lt (Nat.lt_succ_of_lt hlt)) (Nat.ne_of_lt hlt), ⟨⟨.none, he⟩, ⟨_, hit, rfl, rfl⟩, Nat.succ_ne_self _⟩, fun b hb => I1.fpOk (far b hb) (I1.hok.fresh (far b hb)), q⟩
def fEnumT : List PyData → Option (List PyData)
  | [.list ds] => some (enumD ds)
  | [.tuple ds] => some (enumD ds)
  | _ => none
theorem yld_enumT {K : PySem.W.Frag} {M O : Addr → Prop} {H : Hp} {a : Addr} {xs : List V} {ds : List PyData} (h : ∀ (O' : Addr → Prop) (H' : Hp), Mv M O H O' H' → SqT K H' a xs ∧ RepAll K (fun b => M b ∨ O' b) H' xs ds) : Yld K M O H (IteT K a) (enumD ds) := fun O' H2 e2 lv i => by
  obtain ⟨g1, g2⟩ := h O' H2 e2
  have hl := g2.length
  have hz : (enumD ds).length = ds.length := by simp [enumD]
  rw [hz]
  refine ⟨fun hi => ⟨⟨xs, xs[i]'(by omega), g1, List.getElem?_eq_getElem _⟩, fun x H3 y => ?_⟩, fun hi => ⟨xs, g1, by omega⟩⟩
  obtain ⟨T, z, rfl, n, hH, y⟩ := y
  obtain ⟨v, hv', rv⟩ := g2.get (List.getElem?_eq_getElem hi)
  have := y xs g1
  rw [hv'] at this
  cases this
  obtain ⟨s1, s2⟩ := yld_pair lv n hH (.int _) rv
  exact ⟨s1, _, enumD_get hi, s2⟩
theorem i_enumT {X : Cx} {a : Expr} {os : List Opd} {p pos tpos : Pos} {elts : List Expr} {kk : Nat} (hg : Gl X "enumerate") (hm : X.mg "enumerate" = none) (ha : XA X [a] os) (hv : os.all Opd.isVal = true) (hs : starEach [a] X.env = [(false, eval a X.env)] := by rfl) : XI X (.Tuple elts kk tpos) (.Call (.Name "enumerate" p) [a] [] pos) (jArgs fEnumT os) :=
  pi_imp (pi_enumT hg hm ha hs) fun σ H R q => jM_args q fun M ρ' vs H' ds es S r0 r e k => by
    unfold fEnumT at e
    split at e
    · rename_i ds
      cases e
      have rr := r hv
      cases rr with
      | cons r1 t =>
        cases t
        obtain ⟨b, xs, rfl, h1, h2⟩ := rep_list (M := M) (O := OO ρ' σ) r1
        exact ⟨b, rfl, .inl ⟨⟨xs, h1⟩, k _ (yld_enum h2)⟩⟩
    · rename_i ds
      cases e
      have rr := r hv
      cases rr with
      | cons r1 t =>
        cases t
        obtain ⟨b, xs, rfl, h1, h2⟩ := rep_tuple (M := M) (O := OO ρ' σ) r1
        exact ⟨b, rfl, .inr ⟨⟨xs, h1⟩, k _ (yld_enumT h2)⟩⟩
    · cases e
end Vw

set_option Elab.async false
set_option linter.all false
set_option maxRecDepth 100000
set_option maxHeartbeats 4000000
/-! what a law's pen draws -/
namespace Vw
open PySem L2 PyProof.Rows

/-! ### a cell is spread -/
noncomputable def sp0 : SM := sIf (bOf (eFn gGe [(.bor 0), (.val (eFn gPow [(.val (eC (.int 10))), (.val (eC (.int 18)))]))])) (sRet (eMove 0)) (sNil)
noncomputable def sp1 : SM := sSet 2 (eFn gLst' [(.val (eC (.int 2147483629))), (.val (eC (.int 2147483587))), (.val (eC (.int 2147483579))), (.val (eC (.int 2147483563))), (.val (eC (.int 2147483549))), (.val (eC (.int 2147483543))), (.val (eC (.int 2147483497))), (.val (eC (.int 2147483489)))])
noncomputable def sp2 : SM := sSet 2 (eFn gAdd [(.bor 2), (.val (eFn gLst' [(.val (eC (.int 2147483477))), (.val (eC (.int 2147483423))), (.val (eC (.int 2147483399))), (.val (eC (.int 2147483353))), (.val (eC (.int 2147483323)))]))])
noncomputable def sp3 : SM := sSet 3 (eFn gAdd [(.val (eFn gAdd [(.val (eFn gMul [(.val (eFn gMod [(.val (eFn gInt [(.bor 0)])), (.val (eC (.int 1000000007)))])), (.val (eFn gAdd [(.val (eFn gMul [(.val (eC (.int 2))), (.bor 1)])), (.val (eC (.int 69069)))]))])), (.val (eFn gMul [(.bor 1), (.val (eC (.int 40503)))]))])), (.val (eC (.int 977)))])
noncomputable def sp4 : SM := sSet 4 (eFn gMod [(.val (eFn gInt [(.val (eFn gPow [(.bor 3), (.val (eC (.int 3)))]))])), (.val (eFn gIx [(.bor 2), (.val (eFn gMod [(.val (eFn gInt [(.bor 1)])), (.val (eC (.int 13)))]))]))])
noncomputable def sp5 : SM := sSet 5 (eFn gMod [(.val (eFn gInt [(.val (eFn gPow [(.val (eFn gAdd [(.val (eFn gAdd [(.val (eFn gMul [(.bor 4), (.val (eFn gAdd [(.bor 1), (.val (eC (.int 3)))]))])), (.val (eFn gMod [(.val (eFn gInt [(.bor 0)])), (.val (eC (.int 65537)))]))])), (.val (eC (.int 5)))])), (.val (eC (.int 5)))]))])), (.val (eFn gIx [(.bor 2), (.val (eFn gMod [(.val (eFn gInt [(.val (eFn gAdd [(.bor 1), (.val (eC (.int 5)))]))])), (.val (eC (.int 13)))]))]))])
noncomputable def sp6 : SM := sSet 6 (eFn gMod [(.val (eFn gInt [(.val (eFn gPow [(.val (eFn gAdd [(.val (eFn gAdd [(.bor 5), (.val (eFn gMod [(.val (eFn gInt [(.bor 4)])), (.val (eC (.int 1009)))]))])), (.bor 1)])), (.val (eC (.int 3)))]))])), (.val (eFn gIx [(.bor 2), (.val (eFn gMod [(.val (eFn gInt [(.val (eFn gAdd [(.bor 1), (.val (eC (.int 7)))]))])), (.val (eC (.int 13)))]))]))])
noncomputable def sp7 : SM := sRet (eFn gAdd [(.val (eFn gMul [(.val (eFn gAdd [(.val (eFn gMul [(.bor 4), (.val (eC (.int 2147483647)))])), (.bor 5)])), (.val (eC (.int 2147483647)))])), (.bor 6)])
noncomputable def mSpread : SM := sSeq sp0 (sSeq sp1 (sSeq sp2 (sSeq sp3 (sSeq sp4 (sSeq sp5 (sSeq sp6 sp7))))))
noncomputable def pSpread : Fn := fnM 7 [false, false] mSpread
def primes : List Int := [2147483629, 2147483587, 2147483579, 2147483563, 2147483549, 2147483543, 2147483497, 2147483489, 2147483477, 2147483423, 2147483399, 2147483353, 2147483323]
theorem prime_at (j : Int) : ∃ p : Int, gIx [dI primes, .int (j % 13)] = some (.fz (.int p)) ∧ 0 < p ∧ p < 2147483648 := by
  have h0 : 0 ≤ j % 13 := Int.emod_nonneg _ (by decide)
  have h1 : j % 13 < 13 := Int.emod_lt_of_pos _ (by decide)
  generalize j % 13 = k at h0 h1
  obtain ⟨n, rfl⟩ := Int.eq_ofNat_of_zero_le h0
  match n, h1 with
  | 0, _ => exact ⟨_, rfl, by decide, by decide⟩
  | 1, _ => exact ⟨_, rfl, by decide, by decide⟩
  | 2, _ => exact ⟨_, rfl, by decide, by decide⟩
  | 3, _ => exact ⟨_, rfl, by decide, by decide⟩
  | 4, _ => exact ⟨_, rfl, by decide, by decide⟩
  | 5, _ => exact ⟨_, rfl, by decide, by decide⟩
  | 6, _ => exact ⟨_, rfl, by decide, by decide⟩
  | 7, _ => exact ⟨_, rfl, by decide, by decide⟩
  | 8, _ => exact ⟨_, rfl, by decide, by decide⟩
  | 9, _ => exact ⟨_, rfl, by decide, by decide⟩
  | 10, _ => exact ⟨_, rfl, by decide, by decide⟩
  | 11, _ => exact ⟨_, rfl, by decide, by decide⟩
  | 12, _ => exact ⟨_, rfl, by decide, by decide⟩
  | n + 13, h => exfalso; omega
theorem log_le {i : Int} {k : Nat} (h : i.natAbs < 2 ^ k) (hk : 0 < k) : i.natAbs.log2 < k := by
  by_cases h0 : i.natAbs = 0
  · rw [h0]; simpa using hk
  · exact (Nat.log2_lt h0).mpr h
theorem mul_ok {i j : Int} (hi : i.natAbs < 2 ^ 400000) (hj : j.natAbs < 2 ^ 400000) : gMul [.int i, .int j] = some (.fz (.int (i * j))) := by
  have h1 := log_le hi (by decide)
  have h2 := log_le hj (by decide)
  show (if decide (i.natAbs.log2 + j.natAbs.log2 < 1000000) = true then _ else _) = _
  rw [if_pos (decide_eq_true (by omega))]
theorem small_abs {i : Int} (h0 : 0 ≤ i) (h1 : i < 2 ^ 128) : i.natAbs < 2 ^ 400000 := by
  have : i.natAbs < 2 ^ 128 := by omega
  exact Nat.lt_of_lt_of_le this (Nat.pow_le_pow_right (by decide) (by decide))
theorem pow_ok {i : Int} (h0 : 0 ≤ i) (h1 : i < 18446744073709551616) {j : Int} (hj : 0 ≤ j ∧ j ≤ 1000000) : gPow [.int i, .int j] = some (.fz (.int (i ^ j.toNat))) := by
  have : i.natAbs < 2 ^ 64 := by omega
  show (if decide _ = true then _ else _) = _
  rw [if_pos (decide_eq_true ⟨hj.1, hj.2, this⟩)]
theorem mod_ok {i j : Int} (h : 0 < j) : gMod [.int i, .int j] = some (.fz (.int (i % j))) := by
  show (if decide _ = true then _ else _) = _
  rw [if_pos (decide_eq_true h)]
section
variable {a b : Int}
theorem add_ok : gAdd [.int a, .int b] = some (.fz (.int (a + b))) := rfl
theorem int_ok : gInt [.int a] = some (.fz (.int a)) := rfl
end
theorem eFn2 {g : List PyData → Option Sl} {a b : Opd} {ρ ρ1 ρ2 : Rho} {xa xb : Option PyData} {da db : PyData} {s : Sl} (ha : pre a ρ = some (xa, ρ1)) (hb : pre b ρ1 = some (xb, ρ2)) (fa : fin a xa ρ2 = some da) (fb : fin b xb ρ2 = some db) (hg : g [da, db] = some s) : eFn g [a, b] ρ = some (s, ρ2) := by
  simp only [eFn, pres, ha, hb, Option.bind_some, Option.map_some, fins, fa, fb, hg]
theorem eFn1 {g : List PyData → Option Sl} {a : Opd} {ρ ρ1 : Rho} {xa : Option PyData} {da : PyData} {s : Sl} (ha : pre a ρ = some (xa, ρ1)) (fa : fin a xa ρ1 = some da) (hg : g [da] = some s) : eFn g [a] ρ = some (s, ρ1) := by
  simp only [eFn, pres, ha, Option.bind_some, Option.map_some, fins, fa, hg]
/-- an operand that stands still: its value -/
def OV (o : Opd) (ρ : Rho) (d : PyData) (ρ' : Rho) : Prop := ∃ x, pre o ρ = some (x, ρ') ∧ fin o x ρ' = some d ∧ (x = none → ∃ i, o = .bor i)
theorem ov_val {m : EM} {ρ ρ' : Rho} {d : PyData} (h : m ρ = some (.fz d, ρ')) : OV (.val m) ρ d ρ' := ⟨some d, by simp [pre, h, Sl.dat], rfl, fun z => by cases z⟩
theorem ov_own {m : EM} {ρ ρ' : Rho} {d : PyData} (h : m ρ = some (.ow d, ρ')) : OV (.val m) ρ d ρ' := ⟨some d, by simp [pre, h, Sl.dat], rfl, fun z => by cases z⟩
theorem ov_int {i : Int} {ρ : Rho} : OV (.val (eC (.int i))) ρ (.int i) ρ := ov_val rfl
theorem ov_bor {i : Nat} {ρ : Rho} {d : PyData} (h : (ρ[i]?).bind Sl.dat = some d) : OV (.bor i) ρ d ρ := by
  cases e : ρ[i]? with
  | none => rw [e] at h; cases h
  | some s =>
    rw [e] at h
    cases s with
    | un => cases h
    | fz d' => cases h; exact ⟨some d, by simp [pre, e], rfl, fun z => by cases z⟩
    | ow d' => cases h; exact ⟨none, by simp [pre, e], by simp [fin, e], fun _ => ⟨_, rfl⟩⟩
    | io d' => cases h; exact ⟨none, by simp [pre, e], by simp [fin, e], fun _ => ⟨_, rfl⟩⟩
/-- two operands of which the second changes no slot -/
theorem ev2 {g : List PyData → Option Sl} {a b : Opd} {ρ ρ1 : Rho} {da db : PyData} {s : Sl} (ha : OV a ρ da ρ1) (hb : OV b ρ1 db ρ1) (hg : g [da, db] = some s) : eFn g [a, b] ρ = some (s, ρ1) := by
  obtain ⟨xa, a1, a2, _⟩ := ha
  obtain ⟨xb, b1, b2, _⟩ := hb
  exact eFn2 a1 b1 a2 b2 hg
theorem ev1 {g : List PyData → Option Sl} {a : Opd} {ρ ρ1 : Rho} {da : PyData} {s : Sl} (ha : OV a ρ da ρ1) (hg : g [da] = some s) : eFn g [a] ρ = some (s, ρ1) := by
  obtain ⟨xa, a1, a2, _⟩ := ha
  exact eFn1 a1 a2 hg
theorem st_set {i : Nat} {m : EM} {ρ ρ1 ρ2 : Rho} {r : Sl} (h : m ρ = some (r, ρ1)) (hp : put i r ρ1 = some ρ2) : sSet i m ρ = some (.nx ρ2) := by simp [sSet, h, hp]
theorem st_seq {a b : SM} {ρ ρ1 : Rho} {o : Option Out} (h : a ρ = some (.nx ρ1)) (hb : b ρ1 = o) : sSeq a b ρ = o := by simp [sSeq, h, hb]
theorem spread_ok (cell at_ : Int) (h0 : 0 ≤ at_) (h1 : at_ ≤ 2147483648) : ∃ r : Int, pSpread [.int cell, .int at_] = some (.fz (.int r), []) := by
  have hfn : ∀ o r ρ', mSpread [.fz (.int cell), .fz (.int at_), .un, .un, .un, .un, .un] = some (.rt (.fz (.int r)) ρ') → ρ'.length = 7 → o = r → pSpread [.int cell, .int at_] = some (.fz (.int o), []) := fun o r ρ' h hl e => by
    subst e
    match ρ', hl with
    | [a, b, c, d, e, f, g], _ => simp [pSpread, fnM, initR, h, ioOut]
  by_cases hc : (10 : Int) ^ 18 ≤ cell
  · refine ⟨cell, hfn _ cell [.fz (.int cell), .fz (.int at_), .un, .un, .un, .un, .un] ?_ rfl rfl⟩
    have e : (eFn gGe [(.bor 0), (.val (eFn gPow [(.val (eC (.int 10))), (.val (eC (.int 18)))]))]) [.fz (.int cell), .fz (.int at_), .un, .un, .un, .un, .un] = some (.fz (.bool true), _) :=
      ev2 (ov_bor rfl) (ov_val (ev2 ov_int ov_int (pow_ok (by decide) (by decide) ⟨by decide, by decide⟩))) (by show some (Sl.fz (.bool (decide ((10 : Int) ^ 18 ≤ cell)))) = _; rw [decide_eq_true hc])
    simp [mSpread, sp0, sSeq, sIf, bOf, e, sRet, eMove]
  · -- one, two, three
    have g1 := Int.emod_nonneg cell (show (1000000007 : Int) ≠ 0 by decide)
    have g2 := Int.emod_lt_of_pos cell (show (0 : Int) < 1000000007 by decide)
    have g3 := Int.emod_nonneg cell (show (65537 : Int) ≠ 0 by decide)
    have g4 := Int.emod_lt_of_pos cell (show (0 : Int) < 65537 by decide)
    obtain ⟨p1, i1, p1a, p1b⟩ := prime_at at_
    obtain ⟨p2, i2, p2a, p2b⟩ := prime_at (at_ + 5)
    obtain ⟨p3, i3, p3a, p3b⟩ := prime_at (at_ + 7)
    have k1 : cell % 1000000007 * (2 * at_ + 69069) ≤ 1000000007 * (2 * 2147483648 + 69069) := Int.mul_le_mul (by omega) (by omega) (by omega) (by decide)
    have k0 : 0 ≤ cell % 1000000007 * (2 * at_ + 69069) := Int.mul_nonneg g1 (by omega)
    have e0 : sp0 [.fz (.int cell), .fz (.int at_), .un, .un, .un, .un, .un] = some (.nx [.fz (.int cell), .fz (.int at_), .un, .un, .un, .un, .un]) := by
      have e : (eFn gGe [(.bor 0), (.val (eFn gPow [(.val (eC (.int 10))), (.val (eC (.int 18)))]))]) [.fz (.int cell), .fz (.int at_), .un, .un, .un, .un, .un] = some (.fz (.bool false), _) :=
        ev2 (ov_bor rfl) (ov_val (ev2 ov_int ov_int (pow_ok (by decide) (by decide) ⟨by decide, by decide⟩))) (by show some (Sl.fz (.bool (decide ((10 : Int) ^ 18 ≤ cell)))) = _; rw [decide_eq_false hc])
      simp [sp0, sIf, bOf, e, sNil]
    have e1 : sp1 [.fz (.int cell), .fz (.int at_), .un, .un, .un, .un, .un] = some (.nx [.fz (.int cell), .fz (.int at_), .ow (dI (primes.take 8)), .un, .un, .un, .un]) := rfl
    have e2 : sp2 [.fz (.int cell), .fz (.int at_), .ow (dI (primes.take 8)), .un, .un, .un, .un] = some (.nx [.fz (.int cell), .fz (.int at_), .ow (dI primes), .un, .un, .un, .un]) := rfl
    have e3 : sp3 [.fz (.int cell), .fz (.int at_), .ow (dI primes), .un, .un, .un, .un] = some (.nx [.fz (.int cell), .fz (.int at_), .ow (dI primes), .fz (.int (cell % 1000000007 * (2 * at_ + 69069) + at_ * 40503 + 977)), .un, .un, .un]) :=
      st_set (ev2 (ov_val (ev2 (ov_val (ev2 (ov_val (ev2 (ov_val (ev1 (ov_bor rfl) int_ok)) ov_int (mod_ok (by decide)))) (ov_val (ev2 (ov_val (ev2 ov_int (ov_bor rfl) (mul_ok (small_abs (by decide) (by decide)) (small_abs (by omega) (by omega))))) ov_int add_ok)) (mul_ok (small_abs (by omega) (by omega)) (small_abs (by omega) (by omega))))) (ov_val (ev2 (ov_bor rfl) ov_int (mul_ok (small_abs (by omega) (by omega)) (small_abs (by decide) (by decide))))) add_ok)) ov_int add_ok) rfl
    generalize hx : cell % 1000000007 * (2 * at_ + 69069) + at_ * 40503 + 977 = x at e3
    have hx0 : 0 ≤ x ∧ x < 18446744073709551616 := by omega
    have e4 : sp4 [.fz (.int cell), .fz (.int at_), .ow (dI primes), .fz (.int x), .un, .un, .un] = some (.nx [.fz (.int cell), .fz (.int at_), .ow (dI primes), .fz (.int x), .fz (.int (x ^ 3 % p1)), .un, .un]) :=
      st_set (ev2 (ov_val (ev1 (ov_val (ev2 (ov_bor rfl) ov_int (pow_ok hx0.1 hx0.2 ⟨by decide, by decide⟩))) int_ok)) (ov_val (ev2 (ov_bor rfl) (ov_val (ev2 (ov_val (ev1 (ov_bor rfl) int_ok)) ov_int (mod_ok (by decide)))) i1)) (mod_ok p1a)) rfl
    have y0 := Int.emod_nonneg (x ^ 3) (show p1 ≠ 0 by omega)
    have y1 := Int.emod_lt_of_pos (x ^ 3) p1a
    generalize x ^ 3 % p1 = y at e4 y0 y1
    have k2 : y * (at_ + 3) ≤ 2147483648 * (2147483648 + 3) := Int.mul_le_mul (by omega) (by omega) (by omega) (by decide)
    have k3 : 0 ≤ y * (at_ + 3) := Int.mul_nonneg y0 (by omega)
    have e5 : sp5 [.fz (.int cell), .fz (.int at_), .ow (dI primes), .fz (.int x), .fz (.int y), .un, .un] = some (.nx [.fz (.int cell), .fz (.int at_), .ow (dI primes), .fz (.int x), .fz (.int y), .fz (.int ((y * (at_ + 3) + cell % 65537 + 5) ^ 5 % p2)), .un]) :=
      st_set (ev2 (ov_val (ev1 (ov_val (ev2 (ov_val (ev2 (ov_val (ev2 (ov_val (ev2 (ov_bor rfl) (ov_val (ev2 (ov_bor rfl) ov_int add_ok)) (mul_ok (small_abs (by omega) (by omega)) (small_abs (by omega) (by omega))))) (ov_val (ev2 (ov_val (ev1 (ov_bor rfl) int_ok)) ov_int (mod_ok (by decide)))) add_ok)) ov_int add_ok)) ov_int (pow_ok (by omega) (by omega) ⟨by decide, by decide⟩))) int_ok)) (ov_val (ev2 (ov_bor rfl) (ov_val (ev2 (ov_val (ev1 (ov_val (ev2 (ov_bor rfl) ov_int add_ok)) int_ok)) ov_int (mod_ok (by decide)))) i2)) (mod_ok p2a)) rfl
    have z0 := Int.emod_nonneg ((y * (at_ + 3) + cell % 65537 + 5) ^ 5) (show p2 ≠ 0 by omega)
    have z1 := Int.emod_lt_of_pos ((y * (at_ + 3) + cell % 65537 + 5) ^ 5) p2a
    generalize (y * (at_ + 3) + cell % 65537 + 5) ^ 5 % p2 = z at e5 z0 z1
    have u0 := Int.emod_nonneg y (show (1009 : Int) ≠ 0 by decide)
    have u1 := Int.emod_lt_of_pos y (show (0 : Int) < 1009 by decide)
    have e6 : sp6 [.fz (.int cell), .fz (.int at_), .ow (dI primes), .fz (.int x), .fz (.int y), .fz (.int z), .un] = some (.nx [.fz (.int cell), .fz (.int at_), .ow (dI primes), .fz (.int x), .fz (.int y), .fz (.int z), .fz (.int ((z + y % 1009 + at_) ^ 3 % p3))]) :=
      st_set (ev2 (ov_val (ev1 (ov_val (ev2 (ov_val (ev2 (ov_val (ev2 (ov_bor rfl) (ov_val (ev2 (ov_val (ev1 (ov_bor rfl) int_ok)) ov_int (mod_ok (by decide)))) add_ok)) (ov_bor rfl) add_ok)) ov_int (pow_ok (by omega) (by omega) ⟨by decide, by decide⟩))) int_ok)) (ov_val (ev2 (ov_bor rfl) (ov_val (ev2 (ov_val (ev1 (ov_val (ev2 (ov_bor rfl) ov_int add_ok)) int_ok)) ov_int (mod_ok (by decide)))) i3)) (mod_ok p3a)) rfl
    have v0 := Int.emod_nonneg ((z + y % 1009 + at_) ^ 3) (show p3 ≠ 0 by omega)
    have v1 := Int.emod_lt_of_pos ((z + y % 1009 + at_) ^ 3) p3a
    generalize (z + y % 1009 + at_) ^ 3 % p3 = v at e6 v0 v1
    have k4 : y * 2147483647 ≤ 2147483648 * 2147483647 := Int.mul_le_mul (by omega) (by omega) (by omega) (by decide)
    have k5 : 0 ≤ y * 2147483647 := Int.mul_nonneg y0 (by omega)
    have e7 : sp7 [.fz (.int cell), .fz (.int at_), .ow (dI primes), .fz (.int x), .fz (.int y), .fz (.int z), .fz (.int v)] = some (.rt (.fz (.int ((y * 2147483647 + z) * 2147483647 + v))) [.fz (.int cell), .fz (.int at_), .ow (dI primes), .fz (.int x), .fz (.int y), .fz (.int z), .fz (.int v)]) := by
      have e : (eFn gAdd [(.val (eFn gMul [(.val (eFn gAdd [(.val (eFn gMul [(.bor 4), (.val (eC (.int 2147483647)))])), (.bor 5)])), (.val (eC (.int 2147483647)))])), (.bor 6)]) [.fz (.int cell), .fz (.int at_), .ow (dI primes), .fz (.int x), .fz (.int y), .fz (.int z), .fz (.int v)] = some (.fz (.int ((y * 2147483647 + z) * 2147483647 + v)), _) :=
        ev2 (ov_val (ev2 (ov_val (ev2 (ov_val (ev2 (ov_bor rfl) ov_int (mul_ok (small_abs (by omega) (by omega)) (small_abs (by omega) (by omega))))) (ov_bor rfl) add_ok)) ov_int (mul_ok (small_abs (by omega) (by omega)) (small_abs (by omega) (by omega))))) (ov_bor rfl) add_ok
      simp [sp7, sRet, e]
    exact ⟨_, hfn _ _ _ (st_seq e0 (st_seq e1 (st_seq e2 (st_seq e3 (st_seq e4 (st_seq e5 (st_seq e6 e7))))))) rfl rfl⟩

/-! ### a draw -/
theorem ix_ints (cs : List Int) (j : Int) (h0 : 0 ≤ j) (h1 : j < cs.length) : ∃ c : Int, gIx [dI cs, .int j] = some (.fz (.int c)) := by
  have h : j.toNat < cs.length := by omega
  refine ⟨cs[j.toNat], ?_⟩
  simp [gIx, atI, ixN, dI, h0, h1, h]
theorem len_ints (cs : List Int) : gLen [dI cs] = some (.fz (.int cs.length)) := by simp [gLen, dI]
theorem st_setIx {i : Nat} {m : EM} {ix : Opd} {ρ ρ1 : Rho} {r : Sl} {y : PyData} {ds : List PyData} {n : Int} {j : Nat} (h : m ρ = some (r, ρ1)) (hy : r.dat = some y) (ho : own? ρ1 i = some (.list ds)) (hx : OV ix ρ1 (.int n) ρ1) (hj : ixN ds.length n = some j) :
    sSetIx i m ix ρ = some (.nx (setOwn ρ1 i (.list (ds.set j y)))) := by
  obtain ⟨x, a1, a2, _⟩ := hx
  simp [sSetIx, h, hy, ho, a1, a2, hj]
theorem ev_call2 {f : Fn} {m1 m2 : EM} {ρ : Rho} {a b : PyData} {r : Sl} (h1 : m1 ρ = some (.fz a, ρ)) (h2 : m2 ρ = some (.fz b, ρ)) (hf : f [a, b] = some (r, [])) : eCall f [.val m1, .val m2] ρ = some (r, ρ) := by
  simp [eCall, apart, slotOf, pres, pre, h1, h2, Sl.dat, ioOk, fins, fin, hf, outs]
theorem st_if {t : BM} {a b : SM} {ρ ρ1 : Rho} {c : Bool} {o : Option Out} (h : t ρ = some (c, ρ1)) (hy : c = true → a ρ1 = o) (hn : c = false → b ρ1 = o) : sIf t a b ρ = o := by
  cases c with
  | true => simp [sIf, h, hy rfl]
  | false => simp [sIf, h, hn rfl]
theorem tr_of {m : EM} {ρ ρ1 : Rho} {c : Bool} (h : m ρ = some (.fz (.bool c), ρ1)) : bOf m ρ = some (c, ρ1) := by simp [bOf, h]
theorem lt_ok {a b : Int} : gLt [.int a, .int b] = some (.fz (.bool (decide (a < b)))) := rfl
theorem gt_ok {a b : Int} : gGt [.int a, .int b] = some (.fz (.bool (decide (b < a)))) := rfl
noncomputable def tkC : SM := sIf (bOf (eFn gLt [(.bor 3), (.val (eFn gLen [(.val (eFn gIx [(.bor 0), (.val (eC (.int 0)))]))]))])) (sSet 4 (eFn gIx [(.val (eFn gIx [(.bor 0), (.val (eC (.int 0)))])), (.bor 3)])) (sIf (bOf (eFn gGt [(.val (eFn gLen [(.val (eFn gIx [(.bor 0), (.val (eC (.int 0)))]))])), (.val (eC (.int 0)))])) (sSet 4 (eFn gMod [(.val (eFn gInt [(.val (eFn gIx [(.val (eFn gIx [(.bor 0), (.val (eC (.int 0)))])), (.val (eFn gMod [(.val (eFn gInt [(.val (eFn gAdd [(.val (eFn gMul [(.bor 3), (.val (eC (.int 5)))])), (.val (eC (.int 3)))]))])), (.val (eFn gLen [(.val (eFn gIx [(.bor 0), (.val (eC (.int 0)))]))]))]))]))])), (.val (eFn gAdd [(.val (eFn gPow [(.val (eC (.int 10))), (.val (eC (.int 17)))])), (.bor 3)]))])) (sNil))
noncomputable def tkR : SM := sSeq (sSet 3 (eFn gIx [(.bor 0), (.val (eC (.int 1)))])) (sSeq (sSet 4 (eC (.int 0))) (sSeq tkC (sSeq (sSetIx 0 (eFn gAdd [(.bor 3), (.val (eC (.int 1)))]) (.val (eC (.int 1)))) (sSetIx 0 (eCall pSpread [(.val (eName 4)), (.val (eName 3))]) (.val (eC (.int 2)))))))
noncomputable def tkE : SM := sSeq (sSet 2 (eFn gMod [(.val (eFn gInt [(.val (eFn gIx [(.bor 0), (.val (eC (.int 2)))]))])), (.bor 1)])) (sSeq (sSetIx 0 (eFn gDiv [(.val (eFn gIx [(.bor 0), (.val (eC (.int 2)))])), (.bor 1)]) (.val (eC (.int 2)))) (sRet (eMove 2)))
noncomputable def mTake : SM := sSeq (sIf (bOf (eFn gLt [(.val (eFn gIx [(.bor 0), (.val (eC (.int 2)))])), (.bor 1)])) tkR (sNil)) tkE
noncomputable def pTake : Fn := fnM 5 [true, false] mTake
theorem tkC_ok (cs : List Int) (left n at_ : Int) (h0 : 0 ≤ at_) (h1 : at_ ≤ 2147483648) : ∃ c : Int, tkC [.io (penD cs at_ left), .fz (.int n), .un, .fz (.int at_), .fz (.int 0)] = some (.nx [.io (penD cs at_ left), .fz (.int n), .un, .fz (.int at_), .fz (.int c)]) := by
  let ρ : Rho := [.io (penD cs at_ left), .fz (.int n), .un, .fz (.int at_), .fz (.int 0)]
  have p0 : OV (.val (eFn gIx [(.bor 0), (.val (eC (.int 0)))])) ρ (dI cs) ρ := ov_val (ev2 (ov_bor rfl) ov_int rfl)
  have pl : OV (.val (eFn gLen [(.val (eFn gIx [(.bor 0), (.val (eC (.int 0)))]))])) ρ (.int cs.length) ρ := ov_val (ev1 p0 (len_ints cs))
  by_cases hc : at_ < cs.length
  · obtain ⟨c, e⟩ := ix_ints cs at_ h0 hc
    refine ⟨c, st_if (c := true) (tr_of (ev2 (ρ := ρ) (ov_bor rfl) pl (by rw [lt_ok, decide_eq_true hc]))) (fun _ => st_set (ev2 (ρ := ρ) p0 (ov_bor rfl) e) rfl) fun z => by cases z⟩
  · by_cases hl : 0 < (cs.length : Int)
    · have m0 := Int.emod_nonneg (at_ * 5 + 3) (show (cs.length : Int) ≠ 0 by omega)
      have m1 := Int.emod_lt_of_pos (at_ * 5 + 3) hl
      obtain ⟨c, e⟩ := ix_ints cs _ m0 m1
      refine ⟨c % (10 ^ 17 + at_), st_if (c := false) (tr_of (ev2 (ρ := ρ) (ov_bor rfl) pl (by rw [lt_ok, decide_eq_false hc]))) (fun z => by cases z) fun _ => st_if (c := true) (tr_of (ev2 (ρ := ρ) pl ov_int (by rw [gt_ok, decide_eq_true hl]))) (fun _ => ?_) fun z => by cases z⟩
      refine st_set (ev2 (ρ := ρ) (ov_val (ev1 (ov_val (ev2 p0 (ov_val (ev2 (ov_val (ev1 (ov_val (ev2 (ov_val (ev2 (ov_bor rfl) ov_int (mul_ok (small_abs (by omega) (by omega)) (small_abs (by decide) (by decide))))) ov_int add_ok)) int_ok)) pl (mod_ok hl))) e)) int_ok)) (ov_val (ev2 (ov_val (ev2 ov_int ov_int (pow_ok (by decide) (by decide) ⟨by decide, by decide⟩))) (ov_bor rfl) add_ok)) (mod_ok ?_)) rfl
      show (0 : Int) < 10 ^ 17 + at_
      omega
    · exact ⟨0, st_if (c := false) (tr_of (ev2 (ρ := ρ) (ov_bor rfl) pl (by rw [lt_ok, decide_eq_false hc]))) (fun z => by cases z) fun _ => st_if (c := false) (tr_of (ev2 (ρ := ρ) pl ov_int (by rw [gt_ok, decide_eq_false hl]))) (fun z => by cases z) fun _ => rfl⟩
theorem tkE_ok (cs : List Int) (at_ left n : Int) (a b : Sl) (hn : 0 < n) (hz : n.natAbs.log2 < 9000) : ∃ ρ' : Rho, tkE [.io (penD cs at_ left), .fz (.int n), .un, a, b] = some (.rt (.fz (.int (left % n))) [.io (penD cs at_ (left / n)), .fz (.int n), .fz (.int (left % n)), a, b]) := by
  have hd : gDiv [.int left, .int n] = some (.fz (.int (left / n))) := by
    show (if decide (0 < n ∧ n.natAbs.log2 < 9000) = true then some (Sl.fz (.int (left / n))) else none) = _
    rw [if_pos (decide_eq_true ⟨hn, hz⟩)]
  have e : sSetIx 0 (eFn gDiv [(.val (eFn gIx [(.bor 0), (.val (eC (.int 2)))])), (.bor 1)]) (.val (eC (.int 2))) [.io (penD cs at_ left), .fz (.int n), .fz (.int (left % n)), a, b] = some (.nx [.io (penD cs at_ (left / n)), .fz (.int n), .fz (.int (left % n)), a, b]) :=
    st_setIx (r := .fz (.int (left / n))) (y := .int (left / n)) (ds := [dI cs, .int at_, .int left]) (j := 2) (ev2 (ov_val (ev2 (ov_bor rfl) ov_int rfl)) (ov_bor rfl) hd) rfl rfl ov_int rfl
  exact ⟨[], st_seq (st_set (ev2 (ov_val (ev1 (ov_val (ev2 (ov_bor rfl) ov_int rfl)) int_ok)) (ov_bor rfl) (mod_ok hn)) rfl) (st_seq e rfl)⟩
theorem take_ok (cs : List Int) (at_ left n : Int) (h0 : 0 ≤ at_) (h1 : at_ ≤ 2147483648) (hn : 0 < n) (hz : n.natAbs.log2 < 9000) : ∃ (at' left' found : Int), pTake [penD cs at_ left, .int n] = some (.fz (.int found), [penD cs at' left']) ∧ 0 ≤ found ∧ found < n ∧ at_ ≤ at' ∧ at' ≤ at_ + 1 := by
  have fin : ∀ (at' left' found : Int) (c d : Sl), mTake [.io (penD cs at_ left), .fz (.int n), .un, .un, .un] = some (.rt (.fz (.int found)) [.io (penD cs at' left'), .fz (.int n), .fz (.int found), c, d]) → pTake [penD cs at_ left, .int n] = some (.fz (.int found), [penD cs at' left']) := fun at' left' found c d h => by
    simp [pTake, fnM, initR, h, ioOut]
  by_cases hc : left < n
  · obtain ⟨c, hc4⟩ := tkC_ok cs left n at_ h0 h1
    obtain ⟨r, hr⟩ := spread_ok c at_ h0 h1
    have w1 : sSetIx 0 (eFn gAdd [(.bor 3), (.val (eC (.int 1)))]) (.val (eC (.int 1))) [.io (penD cs at_ left), .fz (.int n), .un, .fz (.int at_), .fz (.int c)] = some (.nx [.io (penD cs (at_ + 1) left), .fz (.int n), .un, .fz (.int at_), .fz (.int c)]) :=
      st_setIx (r := .fz (.int (at_ + 1))) (y := .int (at_ + 1)) (ds := [dI cs, .int at_, .int left]) (j := 1) (ev2 (ov_bor rfl) ov_int add_ok) rfl rfl ov_int rfl
    have w2 : sSetIx 0 (eCall pSpread [(.val (eName 4)), (.val (eName 3))]) (.val (eC (.int 2))) [.io (penD cs (at_ + 1) left), .fz (.int n), .un, .fz (.int at_), .fz (.int c)] = some (.nx [.io (penD cs (at_ + 1) r), .fz (.int n), .un, .fz (.int at_), .fz (.int c)]) :=
      st_setIx (r := .fz (.int r)) (y := .int r) (ds := [dI cs, .int (at_ + 1), .int left]) (j := 2) (ev_call2 rfl rfl hr) rfl rfl ov_int rfl
    have e1 : tkR [.io (penD cs at_ left), .fz (.int n), .un, .un, .un] = some (.nx [.io (penD cs (at_ + 1) r), .fz (.int n), .un, .fz (.int at_), .fz (.int c)]) :=
      st_seq (st_set (ev2 (ov_bor rfl) ov_int rfl) rfl) (st_seq (st_set rfl rfl) (st_seq hc4 (st_seq w1 w2)))
    obtain ⟨_, e2⟩ := tkE_ok cs (at_ + 1) r n (.fz (.int at_)) (.fz (.int c)) hn hz
    refine ⟨at_ + 1, r / n, r % n, fin _ _ _ _ _ (st_seq (st_if (c := true) (tr_of (ev2 (ov_val (ev2 (ov_bor rfl) ov_int rfl)) (ov_bor rfl) (by rw [lt_ok, decide_eq_true hc]))) (fun _ => e1) fun z => by cases z) e2), Int.emod_nonneg _ (by omega), Int.emod_lt_of_pos _ hn, by omega, by omega⟩
  · obtain ⟨_, e2⟩ := tkE_ok cs at_ left n .un .un hn hz
    refine ⟨at_, left / n, left % n, fin _ _ _ _ _ (st_seq (st_if (c := false) (tr_of (ev2 (ov_val (ev2 (ov_bor rfl) ov_int rfl)) (ov_bor rfl) (by rw [lt_ok, decide_eq_false hc]))) (fun z => by cases z) fun _ => rfl) e2), Int.emod_nonneg _ (by omega), Int.emod_lt_of_pos _ hn, by omega, by omega⟩
end Vw

set_option Elab.async false
set_option linter.all false
set_option maxRecDepth 100000
set_option maxHeartbeats 4000000
/-! reckoning with the plain functions -/
namespace Vw
open PySem L2 PyProof.Rows

/-! ### operands whose value is held -/
def OS (o : Opd) (ρ : Rho) (d : PyData) (ρ' : Rho) : Prop := pre o ρ = some (some d, ρ')
def Os (os : List Opd) (ρ : Rho) (ds : List PyData) (ρ' : Rho) : Prop := pres os ρ = some (ds.map some, ρ')
theorem os_val {m : EM} {ρ ρ' : Rho} {d : PyData} (h : m ρ = some (.fz d, ρ')) : OS (.val m) ρ d ρ' := by simp [OS, pre, h, Sl.dat]
theorem os_own {m : EM} {ρ ρ' : Rho} {d : PyData} (h : m ρ = some (.ow d, ρ')) : OS (.val m) ρ d ρ' := by simp [OS, pre, h, Sl.dat]
theorem os_c {d : PyData} {ρ : Rho} : OS (.val (eC d)) ρ d ρ := os_val rfl
theorem os_bor {i : Nat} {ρ : Rho} {d : PyData} (h : ρ[i]? = some (.fz d)) : OS (.bor i) ρ d ρ := by simp [OS, pre, h]
theorem os_name {i : Nat} {ρ : Rho} {d : PyData} (h : ρ[i]? = some (.fz d)) : OS (.val (eName i)) ρ d ρ := os_val (by simp [eName, h])
theorem os_nil {ρ : Rho} : Os [] ρ [] ρ := rfl
theorem os_cons {o : Opd} {os : List Opd} {ρ ρ1 ρ2 : Rho} {d : PyData} {ds : List PyData} (h : OS o ρ d ρ1) (t : Os os ρ1 ds ρ2) : Os (o :: os) ρ (d :: ds) ρ2 := by
  unfold OS at h
  unfold Os at t ⊢
  simp [pres, h, t]
theorem fin_some (o : Opd) (d : PyData) (ρ : Rho) : fin o (some d) ρ = some d := by cases o <;> rfl
theorem fins_some : ∀ (os : List Opd) (ds : List PyData) (ρ : Rho), os.length = ds.length → fins os (ds.map some) ρ = some ds
  | [], [], _, _ => rfl
  | o :: os, d :: ds, ρ, h => by simp [fins, fin_some, fins_some os ds ρ (by simpa using h)]
theorem os_len : ∀ {os : List Opd} {ρ ρ' : Rho} {ds : List PyData}, Os os ρ ds ρ' → os.length = ds.length
  | [], ρ, ρ', ds, h => by
    unfold Os at h
    simp [pres] at h
    cases ds with
    | nil => rfl
    | cons _ _ => simp at h
  | o :: os, ρ, ρ', ds, h => by
    unfold Os at h
    simp only [pres] at h
    cases e : pre o ρ with
    | none => rw [e] at h; cases h
    | some p =>
      rw [e] at h
      simp only [Option.bind_some] at h
      cases e2 : pres os p.2 with
      | none => rw [e2] at h; cases h
      | some q =>
        rw [e2] at h
        simp at h
        obtain ⟨h1, h2⟩ := h
        cases ds with
        | nil => simp at h1
        | cons d ds =>
          simp at h1
          have : Os os p.2 ds ρ' := by
            unfold Os
            rw [e2, ← h1.2, ← h2]
          simp [os_len this]
theorem evn {g : List PyData → Option Sl} {os : List Opd} {ρ ρ' : Rho} {ds : List PyData} {s : Sl} (h : Os os ρ ds ρ') (hg : g ds = some s) : eFn g os ρ = some (s, ρ') := by
  have hl := os_len h
  unfold Os at h
  simp [eFn, h, fins_some os ds ρ' hl, hg]
theorem evs1 {g : List PyData → Option Sl} {a : Opd} {ρ ρ1 : Rho} {d : PyData} {s : Sl} (h : OS a ρ d ρ1) (hg : g [d] = some s) : eFn g [a] ρ = some (s, ρ1) := evn (os_cons h os_nil) hg
theorem evs2 {g : List PyData → Option Sl} {a b : Opd} {ρ ρ1 ρ2 : Rho} {d e : PyData} {s : Sl} (h : OS a ρ d ρ1) (k : OS b ρ1 e ρ2) (hg : g [d, e] = some s) : eFn g [a, b] ρ = some (s, ρ2) := evn (os_cons h (os_cons k os_nil)) hg
/-- a call of a def that changes nothing -/
theorem ev_call {f : Fn} {os : List Opd} {ρ ρ' : Rho} {ds : List PyData} {r : Sl} (hv : os.all Opd.isVal = true) (h : Os os ρ ds ρ') (hf : f ds = some (r, [])) : eCall f os ρ = some (r, ρ') := by
  have hl := os_len h
  have hs : ∀ o ∈ os, slotOf o = none := fun o ho => by
    have := List.all_eq_true.mp hv o ho
    cases o with
    | val m => rfl
    | bor i => cases this
  have ha : apart os = true := decide_eq_true (by
    rw [List.pairwise_map]
    exact List.pairwise_of_forall_mem_list fun a ha b hb => .inl (hs a ha))
  have hi : ∀ (os : List Opd) (xs : List (Option PyData)), os.all Opd.isVal = true → ioOk os xs = true := by
    intro os
    induction os with
    | nil => intro xs _; cases xs <;> rfl
    | cons o os ih =>
      intro xs h
      simp only [List.all_cons, Bool.and_eq_true] at h
      cases o with
      | bor i => cases h.1
      | val m => cases xs with
        | nil => rfl
        | cons x xs => exact ih xs h.2
  have ho : ∀ (os : List Opd) (ρ : Rho), os.all Opd.isVal = true → outs os [] ρ = some ρ := by
    intro os
    induction os with
    | nil => intro ρ _; rfl
    | cons o os ih =>
      intro ρ h
      simp only [List.all_cons, Bool.and_eq_true] at h
      cases o with
      | bor i => cases h.1
      | val m => exact ih ρ h.2
  unfold Os at h
  simp [eCall, ha, h, hi os _ hv, fins_some os ds ρ' hl, hf, ho os ρ' hv]
/-- a call of a def that changes its first argument -/
theorem ev_pen {f : Fn} {i : Nat} {os : List Opd} {ρ ρ' : Rho} {p p' : PyData} {ds : List PyData} {r : Sl} (hv : os.all Opd.isVal = true) (h0 : (own? ρ i).isSome = true) (h : Os os ρ ds ρ') (ho : own? ρ' i = some p) (hf : f (p :: ds) = some (r, [p'])) : eCall f (.bor i :: os) ρ = some (r, setOwn ρ' i p') := by
  have hl := os_len h
  have hs : ∀ o ∈ os, slotOf o = none := fun o ho => by
    have := List.all_eq_true.mp hv o ho
    cases o with
    | val m => rfl
    | bor i => cases this
  have ha : apart (.bor i :: os) = true := decide_eq_true (by
    rw [List.map_cons, List.pairwise_cons]
    refine ⟨fun b hb => ?_, ?_⟩
    · obtain ⟨o, ho, rfl⟩ := List.mem_map.mp hb
      rw [hs o ho]
      exact .inr fun z => by cases z
    · rw [List.pairwise_map]
      exact List.pairwise_of_forall_mem_list fun a ha b hb => .inl (hs a ha))
  have hi : ∀ (os : List Opd) (xs : List (Option PyData)), os.all Opd.isVal = true → ioOk os xs = true := by
    intro os
    induction os with
    | nil => intro xs _; cases xs <;> rfl
    | cons o os ih =>
      intro xs h
      simp only [List.all_cons, Bool.and_eq_true] at h
      cases o with
      | bor i => cases h.1
      | val m => cases xs with
        | nil => rfl
        | cons x xs => exact ih xs h.2
  have hov : ∀ (os : List Opd) (ρ : Rho), os.all Opd.isVal = true → outs os [] ρ = some ρ := by
    intro os
    induction os with
    | nil => intro ρ _; rfl
    | cons o os ih =>
      intro ρ h
      simp only [List.all_cons, Bool.and_eq_true] at h
      cases o with
      | bor i => cases h.1
      | val m => exact ih ρ h.2
  have hp : pre (.bor i) ρ = some (none, ρ) := by
    unfold own? at h0
    unfold pre
    cases e : ρ[i]? with
    | none => rw [e] at h0; cases h0
    | some s => cases s <;> simp [e] at h0 ⊢
  have hfin : fin (.bor i) none ρ' = some p := by
    unfold own? at ho
    unfold fin
    cases e : ρ'[i]? with
    | none => rw [e] at ho; cases ho
    | some s => cases s <;> simp [e] at ho ⊢ <;> exact ho
  have hout : outs (.bor i :: os) [p'] ρ' = some (setOwn ρ' i p') := by
    unfold own? at ho
    unfold outs setOwn
    cases e : ρ'[i]? with
    | none => rw [e] at ho; cases ho
    | some s => cases s <;> simp [e] at ho ⊢ <;> exact hov os _ hv
  unfold Os at h
  simp [eCall, ha, pres, hp, h, ioOk, hi os _ hv, fins, hfin, fins_some os ds ρ' hl, hf, hout]

/-! ### displays, comprehensions, loops -/
theorem tup_ok {ds : List PyData} (h : ds.length ≤ 10000) : gTup' ds = some (.fz (.tuple ds)) := by
  have : ds.length ≤ sizeLine := Nat.le_trans h (by decide)
  simp [gTup', this]
theorem lst_ok {ds : List PyData} (h : ds.length ≤ 10000) : gLst' ds = some (.ow (.list ds)) := by
  have : ds.length ≤ sizeLine := Nat.le_trans h (by decide)
  simp [gLst', this]
theorem lc_pure {g : GM} {e : EM} {own : List Nat} {ρ : Rho} {F : PyData → PyData} (hp : plainS ρ own = true) : ∀ (ds : List PyData), (∀ d ∈ ds, ∃ ρ1 r ρ2, g d (wipeR ρ own) = some ρ1 ∧ e ρ1 = some (r, ρ2) ∧ r.dat = some (F d) ∧ backR ρ ρ2 own = ρ) → lcM g bYes e own ds ρ = some (ds.map F, ρ)
  | [], _ => rfl
  | d :: ds, h => by
    obtain ⟨ρ1, r, ρ2, h1, h2, h3, h4⟩ := h d (by simp)
    simp [lcM, hp, h1, bYes, h2, h3, h4, lc_pure hp ds fun d hd => h d (by simp [hd])]
theorem lc_state {g : GM} {e : EM} {own : List Nat} (N : Nat) (Inv : Nat → Rho → Prop) (P : PyData → Prop) : ∀ (ds : List PyData) (k : Nat) (ρ : Rho), k + ds.length ≤ N → Inv k ρ → (∀ d ∈ ds, ∀ k ρ, k < N → Inv k ρ → plainS ρ own = true ∧ ∃ ρ1 r ρ2 y, g d (wipeR ρ own) = some ρ1 ∧ e ρ1 = some (r, ρ2) ∧ r.dat = some y ∧ P y ∧ Inv (k + 1) (backR ρ ρ2 own)) →
    ∃ ys ρ', lcM g bYes e own ds ρ = some (ys, ρ') ∧ ys.length = ds.length ∧ (∀ y ∈ ys, P y) ∧ Inv (k + ds.length) ρ'
  | [], k, ρ, _, hI, _ => ⟨[], ρ, rfl, rfl, by simp, hI⟩
  | d :: ds, k, ρ, hk, hI, h => by
    rw [List.length_cons] at hk
    obtain ⟨hp, ρ1, r, ρ2, y, h1, h2, h3, h4, h5⟩ := h d (by simp) k ρ (by omega) hI
    obtain ⟨ys, ρ', g1, g2, g3, g4⟩ := lc_state N Inv P ds (k + 1) _ (by omega) h5 fun d hd => h d (by simp [hd])
    refine ⟨y :: ys, ρ', by simp [lcM, hp, h1, bYes, h2, h3, g1], by simp [g2], fun z hz => ?_, ?_⟩
    · rcases List.mem_cons.mp hz with rfl | hz
      · exact h4
      · exact g3 z hz
    · rw [List.length_cons, show k + (ds.length + 1) = k + 1 + ds.length by omega]; exact g4
theorem for_state {g : GM} {b : SM} (N : Nat) (Inv : Nat → Rho → Prop) : ∀ (ds : List PyData) (k : Nat) (ρ : Rho), k + ds.length ≤ N → Inv k ρ → (∀ d ∈ ds, ∀ k ρ, k < N → Inv k ρ → ∃ ρ1 ρ2, g d ρ = some ρ1 ∧ b ρ1 = some (.nx ρ2) ∧ Inv (k + 1) ρ2) →
    ∃ ρ', forM g b ds ρ = some (.nx ρ') ∧ Inv (k + ds.length) ρ'
  | [], k, ρ, _, hI, _ => ⟨ρ, rfl, hI⟩
  | d :: ds, k, ρ, hk, hI, h => by
    rw [List.length_cons] at hk
    obtain ⟨ρ1, ρ2, h1, h2, h3⟩ := h d (by simp) k ρ (by omega) hI
    obtain ⟨ρ', g1, g2⟩ := for_state N Inv ds (k + 1) ρ2 (by omega) h3 fun d hd => h d (by simp [hd])
    refine ⟨ρ', by simp [forM, h1, h2, g1], ?_⟩
    rw [List.length_cons, show k + (ds.length + 1) = k + 1 + ds.length by omega]; exact g2
theorem ev_lc {src : IM} {g : GM} {t : BM} {e : EM} {own : List Nat} {ρ ρ1 ρ2 : Rho} {ds ys : List PyData} (hs : src ρ = some (ds, ρ1)) (hl : lcM g t e own ds ρ1 = some (ys, ρ2)) (hz : ys.length ≤ 10000) : eLc src g t e own ρ = some (.ow (.list ys), ρ2) := by
  have : ys.length ≤ sizeLine := Nat.le_trans hz (by decide)
  simp [eLc, hs, hl, this]

/-! ### the pen within a reckoning -/
def PenAt (b : Int) (p : PyData) : Prop := ∃ (cs : List Int) (at_ left : Int), p = penD cs at_ left ∧ 0 ≤ at_ ∧ at_ ≤ b
theorem PenAt.mono {b c : Int} {p : PyData} (h : PenAt b p) (k : b ≤ c) : PenAt c p := let ⟨cs, a, l, e, h0, h1⟩ := h; ⟨cs, a, l, e, h0, by omega⟩
theorem pen_take {b : Int} {p : PyData} (h : PenAt b p) (hb : b ≤ 2147483648) (n : Int) (hn : 0 < n) (hz : n < 2 ^ 64) : ∃ (p' : PyData) (x : Int), pTake [p, .int n] = some (.fz (.int x), [p']) ∧ 0 ≤ x ∧ x < n ∧ PenAt (b + 1) p' := by
  obtain ⟨cs, a, l, rfl, h0, h1⟩ := h
  have hl : n.natAbs.log2 < 9000 := Nat.lt_of_lt_of_le (log_le (k := 64) (by omega) (by decide)) (by decide)
  obtain ⟨a', l', x, e, x0, x1, a0, a1⟩ := take_ok cs a l n h0 (by omega) hn hl
  exact ⟨_, x, e, x0, x1, cs, a', l', rfl, by omega, by omega⟩
noncomputable def mOneOf : SM := sRet (eFn gIx [(.bor 1), (.val (eCall pTake [(.bor 0), (.val (eFn gLen [(.bor 1)]))]))])
noncomputable def pOneOf : Fn := fnM 2 [true, false] mOneOf
theorem ix_get {ds : List PyData} {j : Int} (h0 : 0 ≤ j) (h1 : j < ds.length) : ∃ d ∈ ds, gIx [.list ds, .int j] = some (.fz d) := by
  have h : j.toNat < ds.length := by omega
  refine ⟨ds[j.toNat], List.getElem_mem h, ?_⟩
  simp [gIx, atI, ixN, h0, h1, h]
theorem pen_one {b : Int} {p : PyData} (h : PenAt b p) (hb : b ≤ 2147483648) (ds : List PyData) (hn : 0 < ds.length) (hz : ds.length < 10000) : ∃ (p' d : PyData), pOneOf [p, .list ds] = some (.fz d, [p']) ∧ d ∈ ds ∧ PenAt (b + 1) p' := by
  obtain ⟨p', x, e, x0, x1, hp⟩ := pen_take h hb ds.length (by omega) (by omega)
  obtain ⟨d, hd, e2⟩ := ix_get x0 x1
  refine ⟨p', d, ?_, hd, hp⟩
  have hl : gLen [.list ds] = some (.fz (.int ds.length)) := rfl
  have e3 : eCall pTake [(.bor 0), (.val (eFn gLen [(.bor 1)]))] [.io p, .fz (.list ds)] = some (.fz (.int x), [.io p', .fz (.list ds)]) :=
    ev_pen (p := p) (p' := p') rfl rfl (os_cons (os_val (evs1 (os_bor rfl) hl)) os_nil) rfl e
  have e4 : mOneOf [.io p, .fz (.list ds)] = some (.rt (.fz d) [.io p', .fz (.list ds)]) := by
    have := evs2 (ρ := [.io p, .fz (.list ds)]) (os_bor (i := 1) rfl) (os_val e3) e2
    simp [mOneOf, sRet, this]
  simp [pOneOf, fnM, initR, e4, ioOut]

/-! ### tests -/
theorem fn_rt {n : Nat} {ms : List Bool} {m : SM} {ds os : List PyData} {r : Sl} {ρ' : Rho} (hl : ds.length = ms.length) (h : m (initR ms ds ++ List.replicate (n - ms.length) .un) = some (.rt r ρ')) (ho : ioOut ms ρ' = some os) : fnM n ms m ds = some (r, os) := by simp [fnM, hl, h, ho]
theorem fn_nx {n : Nat} {ms : List Bool} {m : SM} {ds os : List PyData} {ρ' : Rho} (hl : ds.length = ms.length) (h : m (initR ms ds ++ List.replicate (n - ms.length) .un) = some (.nx ρ')) (ho : ioOut ms ρ' = some os) : fnM n ms m ds = some (.fz .none, os) := by simp [fnM, hl, h, ho]
section
variable {ρ ρ1 ρ2 : Rho} {c e : Bool} {a b : BM} {ma mb : EM} {r : Sl} {sa sb : SM} {o : Option Out}
theorem tb_not (h : a ρ = some (c, ρ1)) : bNot a ρ = some (!c, ρ1) := by simp [bNot, h]
theorem or_t (h : a ρ = some (true, ρ1)) : bOr a b ρ = some (true, ρ1) := by simp [bOr, h]
theorem or_f {x : Option (Bool × Rho)} (h : a ρ = some (false, ρ1)) (k : b ρ1 = x) : bOr a b ρ = x := by simp [bOr, h, k]
theorem and_t {x : Option (Bool × Rho)} (h : a ρ = some (true, ρ1)) (k : b ρ1 = x) : bAnd a b ρ = x := by simp [bAnd, h, k]
theorem and_f (h : a ρ = some (false, ρ1)) : bAnd a b ρ = some (false, ρ1) := by simp [bAnd, h]
theorem eor_t (h : ma ρ = some (.fz (.bool true), ρ1)) : eOr ma mb ρ = some (.fz (.bool true), ρ1) := by simp [eOr, h]
theorem eor_f {x : Option (Sl × Rho)} (h : ma ρ = some (.fz (.bool false), ρ1)) (k : mb ρ1 = x) : eOr ma mb ρ = x := by simp [eOr, h, k]
theorem eand_t {x : Option (Sl × Rho)} (h : ma ρ = some (.fz (.bool true), ρ1)) (k : mb ρ1 = x) : eAnd ma mb ρ = x := by simp [eAnd, h, k]
theorem eand_f (h : ma ρ = some (.fz (.bool false), ρ1)) : eAnd ma mb ρ = some (.fz (.bool false), ρ1) := by simp [eAnd, h]
theorem enot_ok (h : ma ρ = some (.fz (.bool c), ρ1)) : eNot ma ρ = some (.fz (.bool (!c)), ρ1) := by simp [eNot, h]
theorem eif_t {x : Option (Sl × Rho)} (h : a ρ = some (true, ρ1)) (k : ma ρ1 = x) : eIf a ma mb ρ = x := by simp [eIf, h, k]
theorem eif_f {x : Option (Sl × Rho)} (h : a ρ = some (false, ρ1)) (k : mb ρ1 = x) : eIf a ma mb ρ = x := by simp [eIf, h, k]
theorem if_t (h : a ρ = some (true, ρ1)) (k : sa ρ1 = o) : sIf a sa sb ρ = o := by simp [sIf, h, k]
theorem if_f (h : a ρ = some (false, ρ1)) (k : sb ρ1 = o) : sIf a sa sb ρ = o := by simp [sIf, h, k]
theorem st_ret (h : ma ρ = some (r, ρ1)) : sRet ma ρ = some (.rt r ρ1) := by simp [sRet, h]
theorem st_rt {r : Sl} (h : sa ρ = some (.rt r ρ1)) : sSeq sa sb ρ = some (.rt r ρ1) := by simp [sSeq, h]
end
theorem neI (i j : Int) : gNe [.int i, .int j] = some (.fz (.bool (!decide (i = j)))) := by
  simp [gNe, bothStr, SeqAt.shaped, PyData.eqv, PyData.canLay0, PyData.depth]
  rfl
theorem eqI (i j : Int) : gEq [.int i, .int j] = some (.fz (.bool (decide (i = j)))) := by
  simp [gEq, bothStr, SeqAt.shaped, PyData.eqv, PyData.canLay0, PyData.depth]
  rfl
theorem isi_ok (b : String) (d : PyData) : gIsi b [d] = some (.fz (.bool (isaD b d))) := rfl
theorem chain_ok {g g' : List PyData → Option Sl} {a b c : Opd} {ρ : Rho} {d e f : PyData} {x : Bool} {s : Sl} (ha : OS a ρ d ρ) (hb : OS b ρ e ρ) (hc : OS c ρ f ρ) (h1 : g [d, e] = some (.fz (.bool x))) (h2 : x = true → g' [e, f] = some s) (h3 : x = false → s = .fz (.bool false)) : eChain g g' a b c ρ = some (s, ρ) := by
  unfold OS at ha hb hc
  cases x with
  | true => simp [eChain, ha, hb, hc, fin_some, h1, h2 rfl]
  | false => simp [eChain, ha, hb, hc, fin_some, h1, h3 rfl]
theorem le_ok {a b : Int} : gLe [.int a, .int b] = some (.fz (.bool (decide (a ≤ b)))) := rfl

/-! ### values that are shown -/
mutual
def niceD : PyData → Bool
  | .none => true
  | .bool _ => true
  | .int i => decide (i.natAbs.log2 < 1920)
  | .str x => PyData.strOk x
  | .list ds => niceDs ds
  | .tuple ds => niceDs ds
  | .dict ps => niceKv ps
def niceDs : List PyData → Bool
  | [] => true
  | d :: ds => niceD d && niceDs ds
def niceKv : List (PyData × PyData) → Bool
  | [] => true
  | (k, v) :: ps => niceD k && niceD v && niceKv ps
end
mutual
theorem nice_sh : ∀ d : PyData, niceD d = true → d.showable = true
  | .none, _ => rfl
  | .bool _, _ => rfl
  | .int i, h => h
  | .str x, _ => rfl
  | .list ds, h => by rw [PyData.showable]; exact nice_shs ds (by rw [niceD] at h; exact h)
  | .tuple ds, h => by rw [PyData.showable]; exact nice_shs ds (by rw [niceD] at h; exact h)
  | .dict ps, h => by rw [PyData.showable]; exact nice_shk ps (by rw [niceD] at h; exact h)
theorem nice_shs : ∀ ds : List PyData, niceDs ds = true → PyData.showableAll ds = true
  | [], _ => rfl
  | d :: ds, h => by
    rw [niceDs, Bool.and_eq_true] at h
    rw [PyData.showableAll, nice_sh d h.1, nice_shs ds h.2]; rfl
theorem nice_shk : ∀ ps : List (PyData × PyData), niceKv ps = true → PyData.showableKv ps = true
  | [], _ => rfl
  | (k, v) :: ps, h => by
    rw [niceKv, Bool.and_eq_true, Bool.and_eq_true] at h
    rw [PyData.showableKv, nice_sh k h.1.1, nice_sh v h.1.2, nice_shk ps h.2]; rfl
end
theorem str_short {x : Str} (h : PyData.strOk x = true) : (x.cps.toList.all fun c => decide (c < 16 ^ 8)) = true := by
  have h0 : x.cps.all (· < 0x110000) = true := h
  rw [List.all_eq_true]
  intro c hc
  have h1 := (Array.all_eq_true_iff_forall_mem.mp h0) c (Array.mem_toList_iff.mp hc)
  have h2 : c < 0x110000 := by simpa using h1
  have e : (16 : Nat) ^ 8 = 4294967296 := by decide
  exact decide_eq_true (by omega)
mutual
theorem nice_lf : ∀ d : PyData, niceD d = true → d.leavesShort 1930 = true
  | .none, _ => by rw [PyData.leavesShort]
  | .bool _, _ => by rw [PyData.leavesShort]
  | .int i, h => by
    rw [PyData.leavesShort]
    have h1 : i.natAbs.log2 < 1920 := of_decide_eq_true (by rw [niceD] at h; exact h)
    have h2 := int_text_length_le (k := 1920) (by decide) h1
    refine decide_eq_true ?_
    rw [PyData.shown]
    exact Nat.le_trans (Nat.le_of_eq (by show (Str.ofString (toString i)).length = _; rw [PySem.ofString_length])) (Nat.le_trans h2 (by decide))
  | .str x, h => by rw [PyData.leavesShort]; exact str_short (by rw [niceD] at h; exact h)
  | .list ds, h => by rw [PyData.leavesShort]; exact nice_lfs ds (by rw [niceD] at h; exact h)
  | .tuple ds, h => by rw [PyData.leavesShort]; exact nice_lfs ds (by rw [niceD] at h; exact h)
  | .dict ps, h => by rw [PyData.leavesShort]; exact nice_lfk ps (by rw [niceD] at h; exact h)
theorem nice_lfs : ∀ ds : List PyData, niceDs ds = true → PyData.leavesShortAll 1930 ds = true
  | [], _ => by rw [PyData.leavesShortAll]
  | d :: ds, h => by
    rw [niceDs, Bool.and_eq_true] at h
    rw [PyData.leavesShortAll, nice_lf d h.1, nice_lfs ds h.2]; rfl
theorem nice_lfk : ∀ ps : List (PyData × PyData), niceKv ps = true → PyData.leavesShortKv 1930 ps = true
  | [], _ => by rw [PyData.leavesShortKv]
  | (k, v) :: ps, h => by
    rw [niceKv, Bool.and_eq_true, Bool.and_eq_true] at h
    rw [PyData.leavesShortKv, nice_lf k h.1.1, nice_lf v h.1.2, nice_lfk ps h.2]; rfl
end
theorem repr_nice {d : PyData} (h : niceD d = true) (hw : d.weight ≤ 8000) (hd : d.depth ≤ 60) : gRepr [d] = some (.fz (.str d.shown)) := by
  have h1 := PyData.shown_le 1930 (by decide) d (nice_lf d h)
  have h2 : (1930 + 2) * d.weight ≤ (1930 + 2) * 8000 := Nat.mul_le_mul_left _ hw
  have h3 : d.shown.length ≤ sizeLine := Nat.le_trans h1 (Nat.le_trans (Nat.add_le_add_right h2 _) (by decide))
  show (if d.showable = true ∧ d.shown.length ≤ sizeLine ∧ d.depth ≤ 60 then _ else _) = _
  rw [if_pos ⟨nice_sh d h, h3, hd⟩]
/-- a value that a law looks at -/
def Vl (w k : Nat) (d : PyData) : Prop := niceD d = true ∧ d.weight ≤ w ∧ d.depth ≤ k
theorem Vl.mono {w w' k k' : Nat} {d : PyData} (h : Vl w k d) (hw : w ≤ w') (hk : k ≤ k') : Vl w' k' d := ⟨h.1, Nat.le_trans h.2.1 hw, Nat.le_trans h.2.2 hk⟩
theorem Vl.repr {d : PyData} (h : Vl 8000 60 d) : gRepr [d] = some (.fz (.str d.shown)) := repr_nice h.1 h.2.1 h.2.2
theorem vl_all {w k : Nat} : ∀ {ds : List PyData}, (∀ d ∈ ds, Vl w k d) → niceDs ds = true ∧ PyData.weightAll ds ≤ ds.length * (w + 1) ∧ PyData.depthAll ds ≤ k
  | [], _ => ⟨rfl, by simp [PyData.weightAll], by simp [PyData.depthAll]⟩
  | d :: ds, h => by
    obtain ⟨a, b, c⟩ := h d (by simp)
    obtain ⟨x, y, z⟩ := vl_all (ds := ds) fun d hd => h d (by simp [hd])
    refine ⟨by simp [niceDs, a, x], ?_, ?_⟩
    · rw [PyData.weightAll, List.length_cons, Nat.add_mul]; omega
    · rw [PyData.depthAll]; exact Nat.max_le.mpr ⟨c, z⟩
theorem vl_tup {w k : Nat} {ds : List PyData} (h : ∀ d ∈ ds, Vl w k d) : Vl (ds.length * (w + 1)) (k + 1) (.tuple ds) := by
  obtain ⟨x, y, z⟩ := vl_all h
  exact ⟨by rw [niceD]; exact x, by rw [PyData.weight]; exact y, by rw [PyData.depth]; omega⟩
theorem vl_list {w k : Nat} {ds : List PyData} (h : ∀ d ∈ ds, Vl w k d) : Vl (ds.length * (w + 1)) (k + 1) (.list ds) := by
  obtain ⟨x, y, z⟩ := vl_all h
  exact ⟨by rw [niceD]; exact x, by rw [PyData.weight]; exact y, by rw [PyData.depth]; omega⟩
theorem vl_int {i : Int} (h : i.natAbs < 2 ^ 200) : Vl 201 0 (.int i) := by
  have h1 : i.natAbs.log2 < 200 := log_le h (by decide)
  refine ⟨by rw [niceD]; exact decide_eq_true (by omega), ?_, by rw [PyData.depth]; exact Nat.le_refl _⟩
  rw [PyData.weight]
  split <;> omega
theorem os_frz {i : Nat} {ρ : Rho} {d : PyData} (h : ρ[i]? = some (.ow d)) : OS (.val (eName i)) ρ d (ρ.set i (.fz d)) := os_val (by simp [eName, h])
theorem catL {x y : List PyData} (h : x.length + y.length ≤ 10000) : gAdd [.list x, .list y] = some (.ow (.list (x ++ y))) := by
  have : x.length + y.length ≤ sizeLine := Nat.le_trans h (by decide)
  simp [gAdd, this]
theorem catT {x y : List PyData} (h : x.length + y.length ≤ 10000) : gAdd [.tuple x, .tuple y] = some (.fz (.tuple (x ++ y))) := by
  have : x.length + y.length ≤ sizeLine := Nat.le_trans h (by decide)
  simp [gAdd, this]
theorem cut_mem {α : Type} {xs : List α} {lo hi : Option Int} {x : α} (h : x ∈ cutD xs lo hi) : x ∈ xs := List.mem_of_mem_drop (List.mem_of_mem_take h)
theorem cut_len {α : Type} (xs : List α) (lo hi : Option Int) : (cutD xs lo hi).length ≤ xs.length := by
  unfold cutD
  rw [List.length_take, List.length_drop]
  omega
theorem sl_lo {o : Opd} {ρ ρ1 ρ2 : Rho} {d : PyData} {m : EM} {i : Int} {s : Sl} (h : OS o ρ d ρ1) (hm : m ρ1 = some (.fz (.int i), ρ2)) (hg : gCut (some i) none d = some s) : eSl o (some m) none ρ = some (s, ρ2) := by
  unfold OS at h
  simp [eSl, h, partM, hm, fin_some, hg]
theorem sl_hi {o : Opd} {ρ ρ1 ρ2 : Rho} {d : PyData} {m : EM} {i : Int} {s : Sl} (h : OS o ρ d ρ1) (hm : m ρ1 = some (.fz (.int i), ρ2)) (hg : gCut none (some i) d = some s) : eSl o none (some m) ρ = some (s, ρ2) := by
  unfold OS at h
  simp [eSl, h, partM, hm, fin_some, hg]
theorem neS (x y : Str) : gNe [.str x, .str y] = some (.fz (.bool (!(x == y)))) := by
  simp [gNe, bothStr, PyData.eqv]
theorem rng1_ok {o : Opd} {ρ ρ' : Rho} {n : Int} (h : OS o ρ (.int n) ρ') (h0 : 0 ≤ n) (h1 : n ≤ 1000000) : jArgs fRng1 [o] ρ = some (rangeD 0 n.toNat, ρ') := by
  unfold OS at h
  have h2 : n < 4611686018427387904 := by omega
  have h3 : -4611686018427387904 ≤ n := by omega
  simp [jArgs, pres, h, fins, fin_some, fRng1, h2, h3]
theorem jv_ok {m : EM} {ρ ρ' : Rho} {r : Sl} {ds : List PyData} (h : m ρ = some (r, ρ')) (hr : r.dat = some (.list ds)) : jVal m ρ = some (ds, ρ') := by simp [jVal, h, hr]
/-- a slot that may be stored -/
def Pl (s : Sl) : Prop := s = .un ∨ ∃ d, s = .fz d
theorem Pl.un : Pl .un := .inl rfl
theorem Pl.fz {d : PyData} : Pl (.fz d) := .inr ⟨d, rfl⟩
theorem put_pl {ρ : Rho} {i : Nat} {s r : Sl} (h : ρ[i]? = some s) (hs : Pl s) : put i r ρ = some (ρ.set i r) := by
  unfold put
  rcases hs with rfl | ⟨d, rfl⟩ <;> rw [h]
theorem gN_pl {ρ : Rho} {i : Nat} {s : Sl} {d : PyData} (h : ρ[i]? = some s) (hs : Pl s) : gN i d ρ = some (ρ.set i (.fz d)) := put_pl h hs
theorem plain1 {ρ : Rho} {i : Nat} {s : Sl} (h : ρ[i]? = some s) (hs : Pl s) : plainS ρ [i] = true := by
  unfold plainS
  rcases hs with rfl | ⟨d, rfl⟩ <;> simp [h]
theorem st_setP {i : Nat} {m : EM} {ρ ρ1 : Rho} {r s : Sl} (h : m ρ = some (r, ρ1)) (hi : ρ1[i]? = some s) (hs : Pl s) : sSet i m ρ = some (.nx (ρ1.set i r)) := st_set h (put_pl hi hs)
theorem max_ok (i j : Int) : gMax [.int i, .int j] = some (.fz (.int (if j > i then j else i))) := rfl
theorem st_for {src : IM} {g : GM} {b : SM} {ρ ρ1 ρ2 : Rho} {ds : List PyData} (h : src ρ = some (ds, ρ1)) (k : forM g b ds ρ1 = some (.nx ρ2)) : sFor src g b ρ = some (.nx ρ2) := by simp [sFor, h, k]
end Vw

set_option Elab.async false
set_option linter.all false
set_option maxRecDepth 100000
set_option maxHeartbeats 4000000
/-! sorted of data that are alike; sorted(set(..)) of whole numbers -/
namespace Vw
open PySem PySem.W L2 PyProof.Rows

theorem alikeDs_all {ds : List PyData} (h : alikeDs ds = true) : PySem.W.AllAlike ds := fun d hd e he => by
  have h1 := List.all_eq_true.mp h d hd
  exact List.all_eq_true.mp h1 e he
theorem sortableDs_all {ds : List PyData} (h : sortableDs ds = true) : PySem.W.Sortable ds := by
  unfold sortableDs at h
  rcases Bool.or_eq_true _ _ ▸ h with h | h
  · refine .inl fun d hd => ?_
    have := List.all_eq_true.mp h d hd
    cases d with
    | tuple xs => cases xs with
      | nil => cases this
      | cons x r => exact ⟨x, r, rfl⟩
    | _ => cases this
  · refine .inr fun d hd => ?_
    have := List.all_eq_true.mp h d hd
    cases d with
    | none => cases this
    | tuple xs => cases this
    | _ => exact ⟨(by intro z; cases z), (by intro xs z; cases z)⟩
/-- what stands for data, item by item -/
def StV (K : PySem.W.Frag) (A : Addr → Prop) (H : Hp) (u : Value) (d : PyData) : Prop := ∃ x : V, RelV x u ∧ Rep K A H x d
theorem stv_of {K : PySem.W.Frag} {A : Addr → Prop} {H : Hp} : ∀ {xs : List V} {us : List Value} {ds : List PyData}, Vals xs us → RepAll K A H xs ds → PySem.W.EachIs (StV K A H) us ds
  | _, _, _, .nil, h => by cases h; exact .nil
  | _, _, _, .cons r t, h => by
    cases h with
    | cons h1 h2 => exact .cons ⟨_, r, h1⟩ (stv_of t h2)
theorem stv_back {K : PySem.W.Frag} {A : Addr → Prop} {H : Hp} : ∀ {us : List Value} {ds : List PyData}, PySem.W.EachIs (StV K A H) us ds → ∃ xs, Vals xs us ∧ RepAll K A H xs ds
  | _, _, .nil => ⟨[], .nil, .nil⟩
  | _, _, .cons ⟨x, r, h⟩ t => let ⟨xs, a, b⟩ := stv_back t; ⟨x :: xs, .cons r a, .cons h b⟩
section
variable {X : Cx}
theorem rds_each {h : Heap} : ∀ {us : List Value} {ds : List PyData}, RDs h us ds → PySem.W.EachIs (fun v b => ∃ as, Reads h v (id b) as) us ds
  | _, _, .nil => .nil
  | _, _, .cons r t => .cons r.rd (rds_each t)
theorem depthDs_all : ∀ {ds : List PyData}, depthDs ds = true → PyData.depthAll ds ≤ 60
  | [], _ => by simp [PyData.depthAll]
  | d :: ds, h => by
    unfold depthDs at h
    rw [List.all_cons, Bool.and_eq_true] at h
    rw [PyData.depthAll]
    exact Nat.max_le.mpr ⟨of_decide_eq_true h.1, depthDs_all h.2⟩
def rSortedD (K : PySem.W.Frag) : List V → Hp → VK → Prop := fun vs H Q => ∃ (A : Addr → Prop) (p : Addr) (xs : List V) (ds : List PyData), vs = [.ref p] ∧ SqL K H p xs ∧ RepAll K A H xs ds ∧ alikeDs ds = true ∧ sortableDs ds = true ∧ depthDs ds = true ∧
  ∀ (q : Addr) (ys : List V), H q = none → RepAll K A H ys (sortD ds) → Q (.ref q) (upd H q (.lst ys))
theorem c_sorted (hu : X.A.units + 64 < cLine) : CallR X (.builtin "sorted") (rSortedD X.K) := by
  intro pins s σ H vs us Q I r h
  obtain ⟨A, p, xs, ds, rfl, hs, hr, ha, hk, hd, q⟩ := h
  obtain ⟨its, rv, hl, hz⟩ := I.list hs
  rw [Vals.ref1 r]
  have e : PySem.W.EachIs (StV X.K A H) its ds := stv_of rv hr
  have er : PySem.W.EachIs (fun v b => ∃ as, Reads s.heap v (id b) as) its ds := rds_each (RepAll.reads I hr (depthDs_all hd) rv)
  have hlen : its.length = ds.length := e.length
  refine PySem.W.sorted_data (enc := id) hl.isList e er (by rw [List.map_id]; exact alikeDs_all ha) (by rw [List.map_id]; exact sortableDs_all hk) (by rw [← hlen, ← rv.length]; exact hz) (fun b hb => ?_) fun out ho eo => ?_
  · have := of_decide_eq_true (List.all_eq_true.mp hd b hb)
    show X.A.units + 2 + b.depth < cLine
    omega
  · obtain ⟨ys, hv, hr'⟩ := stv_back eo
    obtain ⟨ep, he'⟩ := PyProof.Rows.sortedAll_at s.heap its out.toArray
    have hn : ys.length ≤ sizeLine := by
      rw [hv.length, ho, ← hlen, ← rv.length]
      exact hz
    exact ⟨.ref _, upd H (s.heap.objs.size + 1) (.lst ys), I.laid (t' := s.toks) (fun _ _ => PyProof.Rows.sortedAll_old) (Nat.le_succ _) ⟨hn, out, ep, hv, he'⟩, rfl, q _ _ (I.hok.fresh (Nat.le_succ _)) hr'⟩
theorem fnSorted {K : PySem.W.Frag} : FnD K (rSortedD K) gSorted := fun A vs ds H s Q hA hr e k => by
  unfold gSorted at e
  split at e
  · rename_i es
    split at e
    · rename_i hd
      cases e
      obtain ⟨x, rfl, h⟩ := hr.one
      obtain ⟨p, xs, rfl, a1, a2⟩ := h.lst
      exact ⟨A, p, xs, es, rfl, SqL.of a1, a2, hd.1, hd.2.1, hd.2.2, fun q ys hq h2 => k _ _ (same_upd hq _) ⟨q, rfl, hq, new_lst h2 hq⟩⟩
    · cases e
  · cases e
theorem x_sorted {k : Nat} {a : Expr} {os : List Opd} {p pos : Pos} (hr : Room k X.A) (gl : Gl X "sorted") (hm : X.mg "sorted" = none) (ha : XA X [a] os) (he : starEach [a] X.env = (false, eval a X.env) :: starEach [] X.env := by rfl) (hpl : (backTo pos (starEach [] X.env)).any (·.1) = false := by rfl) : XE X (.Call (.Name "sorted" p) [a] [] pos) (eFn gSorted os) := x_callB (c_sorted hr.units) fnSorted gl hm (by decide +kernel) ha (by decide) (by decide) he hpl
end

/-! ### set of a list of whole numbers, in order -/
section
variable {P : Program} {w : World} {A : Around} {E : Value → Shared → Prop} {s : Shared}
abbrev set0 (w : World) : Obj := { cls := .type "set", dict := none, data := .set #[] 0 (.fresh 0 0 (!w.params.followText "set-order")) }
set_option maxHeartbeats 6400000 in
theorem set_lstI {l : Addr} {its : Array Value} (ns : List Int) {Q : Value → Shared → Prop} (h0 : A.handled = none) (hl : s.heap.IsList l its) (hv : IntsAre its.toList ns) (hb : ns.length + 1 < scanBound)
    (k : ∀ (g : Heap) (u c : Nat), SetR w g s.heap.objs.size (fun j => decide (j ∈ ns)) c → c ≤ ns.length → (∀ b o, s.heap.get? b = some o → g.get? b = some o) → Q (.ref s.heap.objs.size) { s with heap := g, toks := u }) : wpAny (model P w) A (call (.type "set") [.ref l]) Q E s := by
  have sz : its.size = ns.length := by have z := IntsAre.length hv; rwa [Array.length_toList] at z
  obtain ⟨_, _, q1⟩ := F.called_set.mro
  have q2 := F.called_set.made
  have q3 := F.called_set.sub
  refine wpAny_call (codeAny_of_tree (by
    show wpAny _ _ (callAny (.type "set") _) _ _ _
    refine wpAny_pure ⟨Code.quiet_builtin _ (by decide +kernel), codeAny_builtin F.entry_type_call ?_⟩
    rw [Around.under_plain (weight_type_call_type "set" [.ref l] []) rfl]
    have q4 := F.called_set.notType
    have q5 := F.called_set.canCreate
    have q6 := F.typeCall_set_1 (.ref l)
    repeat (any_goals (first | assumption | wp_step))
    refine codeAny_mono (code_set_led1 (.ref l) (E := E) (Q₁ := fun ob z => ob = .ref s.heap.objs.size ∧ z = { s with heap := s.heap.push (set0 w) }) ⟨rfl, rfl⟩) fun r z hr => ?_
    match r, hr with
    | .error _, hr => exact hr
    | .ok (.ret _), hr =>
      obtain ⟨rfl, rfl⟩ := hr
      have a1 : (s.heap.push (set0 w)).get? s.heap.objs.size = some (set0 w) := Heap.get?_push_size _ rfl
      have a2 : Shared.TypeIs { s with heap := s.heap.push (set0 w) } (.ref s.heap.objs.size) "set" := ⟨_, a1, rfl⟩
      have a3 := F.called_set.init.lookup
      have a4 := F.called_set.init.bind (.ref s.heap.objs.size)
      repeat (any_goals (first | assumption | wp_step))
      refine codeAny_mono (codeAny_call_builtin (R := wants (fun r z => r = .none ∧ ∃ g u c, z = { s with heap := g, toks := u } ∧ SetR w g s.heap.objs.size (fun j => decide (j ∈ ns)) c ∧ c ≤ ns.length ∧ (∀ b o, s.heap.get? b = some o → g.get? b = some o)) E) F.called_set.init.plain F.entry_set_init (check_set_init_1 a2 ?_)) fun r2 z2 hr2 => ?_
      · obtain ⟨⟨oc, od, dt, sl⟩, b1, b2, nl, b3⟩ := hl
        simp only at b2 b3
        subst b2; subst b3
        have b4 : (s.heap.push (set0 w)).get? l = some { cls := .type "list", dict := od, data := .seq its nl, slots := sl } := Heap.get?_push_of_some _ b1
        have b5 := F.sub_list_set
        have b6 := F.sub_list_frozenset
        have b7 : (Value.type "list" == Value.type "dict") = false := by decide
        have b8 : (s.heap.push (set0 w)).IsList l its := ⟨_, b4, rfl, nl, rfl⟩
        unfold Builtin.«set.__init__» noKeywords Builtin.Frozenset.updateFrom
        generalize hPI : pyIter = PI
        wp_walk
        subst hPI
        refine wpAny_pyIter_list b8 (wpAny_bind (wpAny_runValue ?_))
        have c1 : l < s.heap.objs.size := Heap.lt_size b1
        have c2 : A.in1.in1.in1.handled = none := by simp [h0]
        have c3 : (s.heap.push (set0 w)).objs.size = s.heap.objs.size + 1 := Heap.size_push ..
        have c4 : l ≠ (s.heap.push (set0 w)).objs.size := by rw [c3]; exact Nat.ne_of_lt (Nat.lt_succ_of_lt c1)
        have c5 : s.heap.objs.size ∉ [(s.heap.push (set0 w)).objs.size, l] := fun z => by
          rcases List.mem_cons.mp z with z | z
          · rw [c3] at z; exact Nat.ne_of_lt (Nat.lt_succ_self _) z
          · exact Nat.ne_of_gt c1 (List.mem_singleton.mp z)
        have c6 : ∀ (i : Nat) (v : Value), its[i]? = some v → ∃ k t, ns[i]? = some k ∧ v = .int k t := fun i v e => by
          have hi : i < ns.length := by rw [← sz]; exact (Array.getElem?_eq_some_iff.mp e).1
          obtain ⟨t, e2⟩ := PyProof.Rows.IntsAre.int_at hv i v (by rw [Array.getElem?_toList]; exact e)
          exact ⟨ns[i], t, List.getElem?_eq_getElem hi, by rw [e2, List.getD_eq_getElem?_getD, List.getElem?_eq_getElem hi] <;> rfl⟩
        refine set_update_ints ((Walks.list c2 _ l c4 its).toS) s.heap.objs.size c5 ns sz hb c6 (its.size - 0) 0 _ (by omega) (Nat.zero_le _) ⟨⟨_, Heap.get?_push_size _ rfl, rfl, rfl⟩, b8.push _⟩ ⟨0, Nat.le_refl 0, setR_new_at (Heap.get?_push_of_some _ a1)⟩ ?_
        rintro ⟨g, g2, d2, u, o2⟩ c hm hc hS
        obtain rfl : g2 = s.gens := hm.gens
        obtain rfl : d2 = s.drawn := hm.drawn
        obtain rfl : o2 = s.os := hm.os
        show wpAny _ _ _ _ _ _
        refine wpAny_pure ?_
        show wpAny _ _ (ret Value.none) _ _ _
        refine wpAny_pure ⟨rfl, g, u, c, rfl, hS, by omega, fun b o e => ?_⟩
        have e1 : b < s.heap.objs.size := Heap.lt_size e
        refine hm.heap b o (fun z => ?_) (Heap.get?_push_of_some _ (Heap.get?_push_of_some _ e))
        rcases List.mem_cons.mp z with z | z
        · exact Nat.ne_of_lt e1 z
        · have z := List.mem_singleton.mp z
          rw [c3] at z
          exact Nat.ne_of_lt (Nat.lt_succ_of_lt e1) z
      · match r2, hr2 with
        | .error _, hr2 => exact hr2
        | .ok (.ret _), hr2 =>
          obtain ⟨rfl, g, u, c, rfl, d1, d2, d3⟩ := hr2
          repeat (any_goals (first | assumption | wp_step))
          exact k _ _ _ d1 d2 d3))
end
section
variable {X : Cx}
def rSetL (K : PySem.W.Frag) (w : World) : List V → Hp → VK → Prop := fun vs H Q => ∃ (a : Addr) (ns : List Int), vs = [V.ref a] ∧ SqL K H a (ns.map V.int) ∧ ns.length < 60 ∧ ∀ (p : Addr) (c : Nat), H p = none → c ≤ ns.length → Q (.ref p) (upd H p (SetO w p (fun j => decide (j ∈ ns)) c))
theorem c_setL (hc : X.calm = true) : CallR X (.type "set") (rSetL X.K X.w) := by
  intro pins s σ H vs us Q I r h
  obtain ⟨a, ns, rfl, hs, h60, q⟩ := h
  obtain ⟨its, rv, hl, hz⟩ := I.list hs
  rw [Vals.ref1 r]
  refine set_lstI (its := its.toArray) ns (I.ok.hd hc) hl.isList (by simpa using rv.ints) (by unfold scanBound; omega) fun g u c R hc' hk => ?_
  exact ⟨.ref _, upd H s.heap.objs.size (SetO X.w s.heap.objs.size (fun j => decide (j ∈ ns)) c), I.laid (t' := u) hk (Nat.le_refl _) (setO_new R), rfl, q _ c (I.hok.fresh (Nat.le_refl _)) hc'⟩
end
/-! ### sorted(set(..)) -/
def insI (a : Int) : List Int → List Int
  | [] => [a]
  | b :: l => if a < b then a :: b :: l else if a = b then b :: l else b :: insI a l
def ascI : List Int → List Int
  | [] => []
  | a :: l => insI a (ascI l)
theorem mem_insI {a x : Int} : ∀ {l : List Int}, x ∈ insI a l ↔ x = a ∨ x ∈ l
  | [] => by simp [insI]
  | b :: l => by
    unfold insI
    split
    · simp
    · split
      · rename_i h; subst h; simp
      · simp only [List.mem_cons, mem_insI (l := l)]
        exact ⟨fun h => by rcases h with h | h | h <;> simp [h], fun h => by rcases h with h | h | h <;> simp [h]⟩
theorem mem_ascI {x : Int} : ∀ {l : List Int}, x ∈ ascI l ↔ x ∈ l
  | [] => by simp [ascI]
  | a :: l => by rw [ascI, mem_insI, mem_ascI (l := l), List.mem_cons]
theorem insI_asc {a : Int} : ∀ {l : List Int}, l.Pairwise (· < ·) → (insI a l).Pairwise (· < ·)
  | [], _ => by simp [insI]
  | b :: l, h => by
    have h1 := List.pairwise_cons.mp h
    unfold insI
    split
    · rename_i ha
      refine List.pairwise_cons.mpr ⟨fun x hx => ?_, h⟩
      rcases List.mem_cons.mp hx with rfl | hx
      · exact ha
      · have := h1.1 x hx; omega
    · split
      · exact h
      · refine List.pairwise_cons.mpr ⟨fun x hx => ?_, insI_asc h1.2⟩
        rcases mem_insI.mp hx with rfl | hx
        · omega
        · exact h1.1 x hx
theorem ascI_asc : ∀ (l : List Int), (ascI l).Pairwise (· < ·)
  | [] => .nil
  | a :: l => insI_asc (ascI_asc l)
theorem asc_unique : ∀ {l m : List Int}, l.Pairwise (· < ·) → m.Pairwise (· < ·) → (∀ x, x ∈ l ↔ x ∈ m) → l = m
  | [], [], _, _, _ => rfl
  | [], b :: m, _, _, h => by have := (h b).mpr (by simp); cases this
  | a :: l, [], _, _, h => by have := (h a).mp (by simp); cases this
  | a :: l, b :: m, hl, hm, h => by
    have h1 := List.pairwise_cons.mp hl
    have h2 := List.pairwise_cons.mp hm
    have e : a = b := by
      have p := (h a).mp (by simp)
      have q := (h b).mpr (by simp)
      rcases List.mem_cons.mp p with p | p
      · exact p
      · rcases List.mem_cons.mp q with q | q
        · exact q.symm
        · have := h1.1 b q; have := h2.1 a p; omega
    subst e
    congr 1
    refine asc_unique h1.2 h2.2 fun x => ⟨fun hx => ?_, fun hx => ?_⟩
    · rcases List.mem_cons.mp ((h x).mp (by simp [hx])) with rfl | z
      · have := h1.1 _ hx; omega
      · exact z
    · rcases List.mem_cons.mp ((h x).mpr (by simp [hx])) with rfl | z
      · have := h2.1 _ hx; omega
      · exact z
def gSortSet : List PyData → Option Sl
  | [.list ds] => match intsOf ds with
    | some ns => if ns.length < 60 then some (.ow (.list ((ascI ns).map .int))) else none
    | none => none
  | _ => none
section
variable {X : Cx}
def rSortSet (K : PySem.W.Frag) (w : World) : List V → Hp → VK → Prop := fun vs H Q => ∀ x, vs = [x] → rSetL K w [x] H fun y H2 => rSortedSet w [y] H2 Q
theorem fnSortSet {K : PySem.W.Frag} {w : World} : FnD K (rSortSet K w) gSortSet := fun A vs ds H s Q hA hr e k x hv => by
  subst hv
  unfold gSortSet at e
  split at e
  · rename_i es
    split at e
    · rename_i ns hn
      split at e
      · rename_i hl
        cases e
        obtain ⟨x', e', h⟩ := hr.one
        cases e'
        obtain ⟨p, xs, rfl, a1, a2⟩ := h.lst
        rw [intsOf_eq hn] at a2
        have a3 := a2.ints
        subst a3
        refine ⟨p, ns, rfl, SqL.of a1, hl, fun q c hq hc => ⟨q, _, c, rfl, upd_same, by omega, fun ms r h1 h2 h3 h4 => ?_⟩⟩
        have e1 : ms = ascI ns := asc_unique h1 (ascI_asc ns) fun z => by rw [h2 z, decide_eq_true_iff, mem_ascI]
        have s1 : Same H (upd H q (SetO w q (fun j => decide (j ∈ ns)) c)) := same_upd hq _
        have h5 : H r = none := s1.free h4
        subst e1
        refine k _ _ (s1.trans (same_upd h4 _)) ⟨r, rfl, h5, ?_⟩
        exact new_lst (RepAll.ofInts (A := A) _) h4
      · cases e
    · cases e
  · cases e
theorem x_sortSet {k : Nat} {a : Expr} {o : Opd} {p p2 pos pos2 : Pos} (hc : X.calm = true) (hr : Room k X.A) (gl : Gl X "sorted") (hm : X.mg "sorted" = none) (gl2 : Gl X "set") (hm2 : X.mg "set" = none) (ha : XO X a o)
    (he : starEach [.Call (.Name "set" p2) [a] [] pos2] X.env = (false, eval (.Call (.Name "set" p2) [a] [] pos2) X.env) :: starEach [] X.env := by rfl) (hpl : (backTo pos (starEach [] X.env)).any (·.1) = false := by rfl)
    (he2 : starEach [a] X.env = (false, eval a X.env) :: starEach [] X.env := by rfl) (hpl2 : (backTo pos2 (starEach [] X.env)).any (·.1) = false := by rfl) :
    XE X (.Call (.Name "sorted" p) [.Call (.Name "set" p2) [a] [] pos2] [] pos) (eFn gSortSet [o]) :=
  pe_imp (pe_callB (cr_sortedSet hc) gl hm (by decide +kernel) (pa_cons (pe_callTy (c_setL hc) gl2 hm2 (by decide +kernel) (pa_cons ha pa_nil he2) (by decide) (by decide) he2 hpl2) pa_nil he) (by decide) (by decide) he hpl) fun σ H Q q => by
    have h := pM1 (tM_fn (fnSortSet (w := X.w)) q)
    exact oM_mono h fun x H1 h => h x rfl
end
/-! ### t == () -/
def gEqE : List PyData → Option Sl
  | [.tuple ds, .tuple []] => some (.fz (.bool ds.isEmpty))
  | ds => gEq ds
def rEqE (K : PySem.W.Frag) : R2 := fun x y H Q => (∃ a b xs, x = .ref a ∧ y = .ref b ∧ SqT K H a xs ∧ SqT K H b [] ∧ Q (.bl xs.isEmpty) H) ∨ (rEqD K x y H Q ∨ rEq x y H Q)
section
variable {X : Cx}
theorem op_eqE (hu : X.A.units + 64 < cLine) : OpR X (compareOp .Eq) (rEqE X.K) := by
  intro pins s σ H x y v u Q I rx ry h
  rcases h with ⟨a, b, xs, rfl, rfl, h1, h2, q⟩ | h
  · cases rx
    cases ry
    obtain ⟨i1, r1, t1, _⟩ := I.tuple h1
    obtain ⟨i2, r2, t2, _⟩ := I.tuple h2
    cases r2
    refine PySem.SeqAt.eq_tupleAt (e := fun _ => true) t1 t2 (by omega) (fun j _ h => absurd h (by simp)) ?_
    refine ⟨.bl xs.isEmpty, H, I, ?_, q⟩
    have hl := r1.length
    cases xs with
    | nil => cases r1; rfl
    | cons x xs =>
      cases i1 with
      | nil => cases hl
      | cons z zs => rfl
  · exact ((op_eqD hu).or op_eq) pins s σ H x y v u Q I rx ry h
theorem fnEqE {K : PySem.W.Frag} : FnD K (r2 (rEqE K)) gEqE := fnD2 fun A x y ds H s Q hA hr e k => by
  unfold gEqE at e
  split at e
  · rename_i es
    cases e
    obtain ⟨h1, h2⟩ := RepT.two hr
    obtain ⟨p, xs, rfl, a1, a2⟩ := h1.tup
    obtain ⟨p2, ys, rfl, b1, b2⟩ := h2.tup
    cases b2
    refine .inl ⟨p, p2, xs, rfl, rfl, a1, b1, ?_⟩
    have hl := a2.length
    have e : xs.isEmpty = es.isEmpty := by
      cases xs with
      | nil => cases a2; rfl
      | cons x xs => cases es with
        | nil => cases hl
        | cons z zs => rfl
    rw [e]
    exact k _ H (Same.refl H) (.bl _)
  · exact .inr (fnEq A [x, y] ds H s Q hA hr e k x y rfl)
variable {k : Nat} {a b : Expr} {oa ob : Opd} {pos : Pos}
theorem x_eqE (hr : Room k X.A) (ha : XO X a oa) (hb : XO X b ob) : XE X (.Compare a [.Eq] [b] pos) (eFn gEqE [oa, ob]) := x_cmp (op_eqE hr.units) fnEqE ha hb (nomark _ (by decide) (by decide))
theorem t_eqE (hr : Room k X.A) (ha : XO X a oa) (hb : XO X b ob) : XT X (.Compare a [.Eq] [b] pos) (bOf (eFn gEqE [oa, ob])) := t_cmp (op_eqE hr.units) fnEqE ha hb (nomark _ (by decide) (by decide))
end
end Vw

set_option Elab.async false
set_option linter.all false
set_option maxRecDepth 100000
set_option maxHeartbeats 4000000
/-! what the laws' _law_same tells of a value and itself -/
namespace Vw
open PySem L2 PyProof.Rows

noncomputable def mSame (rec : Fn) : SM := sSeq (sIf (bOr (bOf (eFn gIsN [(.bor 1), (.val (eC .none))])) (bOf (eFn gIsN [(.bor 0), (.val (eC .none))]))) (sRet (eAnd (eFn gIsN [(.bor 1), (.val (eC .none))]) (eFn gIsN [(.bor 0), (.val (eC .none))]))) (sNil)) (sSeq (sIf (bOr (bOf (eFn (gIsi "bool") [(.bor 1)])) (bOf (eFn (gIsi "bool") [(.bor 0)]))) (sRet (eAnd (eFn (gIsi "bool") [(.bor 1)]) (eAnd (eFn (gIsi "bool") [(.bor 0)]) (eFn gEq [(.bor 0), (.bor 1)])))) (sNil)) (sSeq (sIf (bOf (eFn (gIsiT "int" "str") [(.bor 1)])) (sSeq (sIf (bOf (eFn gNe [(.val (eFn (gIsi "int") [(.bor 0)])), (.val (eFn (gIsi "int") [(.bor 1)]))])) (sRet (eC (.bool false))) (sNil)) (sRet (eAnd (eFn (gIsiT "int" "str") [(.bor 0)]) (eFn gEq [(.bor 0), (.bor 1)])))) (sNil)) (sSeq (sIf (bOr (bOf (eFn gNe [(.val (eFn (gIsi "tuple") [(.bor 1)])), (.val (eFn (gIsi "tuple") [(.bor 0)]))])) (bOf (eFn gNe [(.val (eFn (gIsi "list") [(.bor 1)])), (.val (eFn (gIsi "list") [(.bor 0)]))]))) (sRet (eC (.bool false))) (sNil)) (sSeq (sIf (bOf (eFn gNe [(.val (eFn gLen [(.bor 0)])), (.val (eFn gLen [(.bor 1)]))])) (sRet (eC (.bool false))) (sNil)) (sRet (eFn gNotIn [(.val (eC (.bool false))), (.val (eLc (jArgs fZip [(.val (eName 0)), (.val (eName 1))]) (gT (gsCons (gN 2) (gsCons (gN 3) (gsNil)))) (bYes) (eCall rec [(.val (eName 2)), (.val (eName 3))]) [2, 3]))]))))))
/-- plain values without dicts -/
def flatT : PyData → Bool
  | .dict _ => false
  | _ => true
mutual
def noDict : PyData → Bool
  | .dict _ => false
  | .list ds => noDicts ds
  | .tuple ds => noDicts ds
  | _ => true
def noDicts : List PyData → Bool
  | [] => true
  | d :: ds => noDict d && (decide (ds.length < 10000) && noDicts ds)
end
theorem neB (a b : Bool) : gNe [.bool a, .bool b] = some (.fz (.bool (!(a == b)))) := by
  simp [gNe, bothStr, SeqAt.shaped, PyData.eqv, PyData.canLay0, PyData.depth]
theorem eqB (a b : Bool) : gEq [.bool a, .bool b] = some (.fz (.bool (a == b))) := by
  simp [gEq, bothStr, SeqAt.shaped, PyData.eqv, PyData.canLay0, PyData.depth]
theorem eqS (x y : Str) : gEq [.str x, .str y] = some (.fz (.bool (x == y))) := by
  simp [gEq, bothStr, PyData.eqv]
theorem notin_trues : ∀ n : Nat, gNotIn [.bool false, .list (List.replicate n (.bool true))] = some (.fz (.bool true)) := fun n => by
  have h1 : ∀ n : Nat, PyData.canLayAll0 (List.replicate n (.bool true)) = true ∧ PyData.depthAll (List.replicate n (.bool true)) = 0 := by
    intro n
    induction n with
    | zero => simp [PyData.canLayAll0, PyData.depthAll]
    | succ n ih => simp [List.replicate_succ, PyData.canLayAll0, PyData.depthAll, PyData.canLay0, PyData.depth, ih.1, ih.2]
  have h2 : SeqAt.shaped (.bool false) = true := by simp [SeqAt.shaped, PyData.canLay0, PyData.depth]
  have h3 : SeqAt.shaped (.list (List.replicate n (.bool true))) = true := by simp [SeqAt.shaped, PyData.canLay0, PyData.depth, (h1 n).1, (h1 n).2]
  have h4 : ((List.replicate n (PyData.bool true)).any fun e => PyData.eqv e (.bool false)) = false := by
    rw [Bool.eq_false_iff]
    intro z
    obtain ⟨x, hx, e⟩ := List.any_eq_true.mp z
    rw [(List.mem_replicate.mp hx).2] at e
    simp [PyData.eqv] at e
  show (if SeqAt.shaped (.bool false) = true ∧ SeqAt.shaped (.list (List.replicate n (.bool true))) = true then _ else _) = _
  rw [if_pos ⟨h2, h3⟩, h4]
  rfl
section
variable {r : Nat → Fn}
theorem isTy (b : String) (d : PyData) (ρ : Rho) (i : Nat) (h : ρ[i]? = some (.fz d)) : eFn (gIsi b) [(.bor i)] ρ = some (.fz (.bool (isaD b d)), ρ) := evs1 (os_bor h) (isi_ok b d)
theorem isNn (d : PyData) (ρ : Rho) (i : Nat) (h : ρ[i]? = some (.fz d)) : eFn gIsN [(.bor i), (.val (eC .none))] ρ = some (.fz (.bool (isNone d)), ρ) := evs2 (os_bor h) os_c rfl
theorem zip_self (ds : List PyData) : zipD ds ds = ds.map fun d => .tuple [d, d] := by
  unfold zipD
  induction ds with
  | nil => rfl
  | cons d ds ih => simp [ih]
theorem seq_same (hr : ∀ n, r (n + 1) = fnM 4 [false, false] (mSame (r n))) (n : Nat) (lst : Bool) (ds : List PyData) (hl : ds.length ≤ 10000) (ih : ∀ d ∈ ds, r n [d, d] = some (.fz (.bool true), [])) : r (n + 1) [if lst = true then .list ds else .tuple ds, if lst = true then .list ds else .tuple ds] = some (.fz (.bool true), []) := by
  generalize hD : (if lst = true then PyData.list ds else PyData.tuple ds) = D
  have f1 : isNone D = false := by subst hD; cases lst <;> rfl
  have f2 : isaD "bool" D = false := by subst hD; cases lst <;> rfl
  have f3 : gIsiT "int" "str" [D] = some (.fz (.bool false)) := by subst hD; cases lst <;> rfl
  have f4 : gLen [D] = some (.fz (.int ds.length)) := by subst hD; cases lst <;> rfl
  have f5 : fZip [D, D] = some (zipD ds ds) := by subst hD; cases lst <;> rfl
  let ρ : Rho := [.fz D, .fz D, .un, .un]
  have a1 := isNn D ρ 1 rfl
  have a0 := isNn D ρ 0 rfl
  rw [f1] at a1 a0
  have b1 := isTy "bool" D ρ 1 rfl
  have b0 := isTy "bool" D ρ 0 rfl
  rw [f2] at b1 b0
  have t3 : bOf (eFn (gIsiT "int" "str") [(.bor 1)]) ρ = some (false, ρ) := tr_of (evs1 (os_bor rfl) f3)
  have t4 : bOf (eFn gNe [(.val (eFn (gIsi "tuple") [(.bor 1)])), (.val (eFn (gIsi "tuple") [(.bor 0)]))]) ρ = some (false, ρ) := tr_of (evs2 (os_val (isTy "tuple" D ρ 1 rfl)) (os_val (isTy "tuple" D ρ 0 rfl)) (by rw [neB, beq_self_eq_true]; rfl))
  have t5 : bOf (eFn gNe [(.val (eFn (gIsi "list") [(.bor 1)])), (.val (eFn (gIsi "list") [(.bor 0)]))]) ρ = some (false, ρ) := tr_of (evs2 (os_val (isTy "list" D ρ 1 rfl)) (os_val (isTy "list" D ρ 0 rfl)) (by rw [neB, beq_self_eq_true]; rfl))
  have t6 : bOf (eFn gNe [(.val (eFn gLen [(.bor 0)])), (.val (eFn gLen [(.bor 1)]))]) ρ = some (false, ρ) := tr_of (evs2 (os_val (evs1 (os_bor rfl) f4)) (os_val (evs1 (os_bor rfl) f4)) (by rw [neI, decide_eq_true rfl]; rfl))
  have hs : jArgs fZip [(.val (eName 0)), (.val (eName 1))] ρ = some (ds.map fun d => .tuple [d, d], ρ) := by
    have h : Os [(.val (eName 0)), (.val (eName 1))] ρ [D, D] ρ := os_cons (os_name rfl) (os_cons (os_name rfl) os_nil)
    unfold Os at h
    simp [jArgs, h, fins, fin_some, f5, zip_self]
  have hc : eLc (jArgs fZip [(.val (eName 0)), (.val (eName 1))]) (gT (gsCons (gN 2) (gsCons (gN 3) (gsNil)))) (bYes) (eCall (r n) [(.val (eName 2)), (.val (eName 3))]) [2, 3] ρ = some (.ow (.list (List.replicate ds.length (.bool true))), ρ) := by
    have e := lc_pure (g := gT (gsCons (gN 2) (gsCons (gN 3) (gsNil)))) (e := eCall (r n) [(.val (eName 2)), (.val (eName 3))]) (own := [2, 3]) (ρ := ρ) (F := fun _ => .bool true) rfl (ds.map fun d => .tuple [d, d]) (fun d hd => by
      obtain ⟨d0, h0, rfl⟩ := List.mem_map.mp hd
      exact ⟨[.fz D, .fz D, .fz d0, .fz d0], .fz (.bool true), [.fz D, .fz D, .fz d0, .fz d0], by simp [gT, gsCons, gN, gsNil, wipeR, put, ρ], ev_call rfl (os_cons (os_name rfl) (os_cons (os_name rfl) os_nil)) (ih d0 h0), rfl, rfl⟩)
    have e2 : (ds.map fun d => PyData.tuple [d, d]).map (fun _ => PyData.bool true) = List.replicate ds.length (.bool true) := by
      rw [List.map_map]
      clear e hs ih hl f5 f4 hD
      induction ds with
      | nil => rfl
      | cons d ds ih => simpa [List.replicate_succ] using ih
    rw [e2] at e
    exact ev_lc hs e (by simpa using hl)
  rw [hr]
  exact fn_rt rfl (st_seq (if_f (or_f (tr_of a1) (tr_of a0)) rfl) (st_seq (if_f (or_f (tr_of b1) (tr_of b0)) rfl) (st_seq (if_f t3 rfl) (st_seq (if_f (or_f t4 t5) rfl) (st_seq (if_f t6 rfl) (st_ret (evs2 os_c (os_own hc) (notin_trues _)))))))) rfl
mutual
theorem same_self (hr : ∀ n, r (n + 1) = fnM 4 [false, false] (mSame (r n))) : ∀ (d : PyData) (n : Nat), noDict d = true → d.depth < n → r n [d, d] = some (.fz (.bool true), [])
  | .none, n + 1, _, _ => by
    rw [hr]
    have a1 := isNn .none [.fz .none, .fz .none, .un, .un] 1 rfl
    have a0 := isNn .none [.fz .none, .fz .none, .un, .un] 0 rfl
    exact fn_rt rfl (st_rt (if_t (or_t (tr_of a1)) (st_ret (eand_t a1 a0)))) rfl
  | .bool b, n + 1, _, _ => by
    rw [hr]
    let ρ : Rho := [.fz (.bool b), .fz (.bool b), .un, .un]
    have a1 := isNn (.bool b) ρ 1 rfl
    have a0 := isNn (.bool b) ρ 0 rfl
    have b1 := isTy "bool" (.bool b) ρ 1 rfl
    have b0 := isTy "bool" (.bool b) ρ 0 rfl
    have e : eFn gEq [(.bor 0), (.bor 1)] ρ = some (.fz (.bool true), ρ) := evs2 (os_bor rfl) (os_bor rfl) (by rw [eqB, beq_self_eq_true])
    exact fn_rt rfl (st_seq (if_f (or_f (tr_of a1) (tr_of a0)) rfl) (st_rt (if_t (or_t (tr_of b1)) (st_ret (eand_t b1 (eand_t b0 e)))))) rfl
  | .int i, n + 1, _, _ => by
    rw [hr]
    let ρ : Rho := [.fz (.int i), .fz (.int i), .un, .un]
    have a1 := isNn (.int i) ρ 1 rfl
    have a0 := isNn (.int i) ρ 0 rfl
    have b1 := isTy "bool" (.int i) ρ 1 rfl
    have b0 := isTy "bool" (.int i) ρ 0 rfl
    have e : eFn gEq [(.bor 0), (.bor 1)] ρ = some (.fz (.bool true), ρ) := evs2 (os_bor rfl) (os_bor rfl) (by rw [eqI, decide_eq_true rfl])
    have t1 : eFn (gIsiT "int" "str") [(.bor 1)] ρ = some (.fz (.bool true), ρ) := evs1 (os_bor rfl) rfl
    have t0 : eFn (gIsiT "int" "str") [(.bor 0)] ρ = some (.fz (.bool true), ρ) := evs1 (os_bor rfl) rfl
    have t2 : bOf (eFn gNe [(.val (eFn (gIsi "int") [(.bor 0)])), (.val (eFn (gIsi "int") [(.bor 1)]))]) ρ = some (false, ρ) := tr_of (evs2 (os_val (isTy "int" (.int i) ρ 0 rfl)) (os_val (isTy "int" (.int i) ρ 1 rfl)) (by rw [neB, beq_self_eq_true]; rfl))
    exact fn_rt rfl (st_seq (if_f (or_f (tr_of a1) (tr_of a0)) rfl) (st_seq (if_f (or_f (tr_of b1) (tr_of b0)) rfl) (st_rt (if_t (tr_of t1) (st_seq (if_f t2 rfl) (st_ret (eand_t t0 e))))))) rfl
  | .str i, n + 1, _, _ => by
    rw [hr]
    let ρ : Rho := [.fz (.str i), .fz (.str i), .un, .un]
    have a1 := isNn (.str i) ρ 1 rfl
    have a0 := isNn (.str i) ρ 0 rfl
    have b1 := isTy "bool" (.str i) ρ 1 rfl
    have b0 := isTy "bool" (.str i) ρ 0 rfl
    have e : eFn gEq [(.bor 0), (.bor 1)] ρ = some (.fz (.bool true), ρ) := evs2 (os_bor rfl) (os_bor rfl) (by rw [eqS, beq_self_eq_true])
    have t1 : eFn (gIsiT "int" "str") [(.bor 1)] ρ = some (.fz (.bool true), ρ) := evs1 (os_bor rfl) rfl
    have t0 : eFn (gIsiT "int" "str") [(.bor 0)] ρ = some (.fz (.bool true), ρ) := evs1 (os_bor rfl) rfl
    have t2 : bOf (eFn gNe [(.val (eFn (gIsi "int") [(.bor 0)])), (.val (eFn (gIsi "int") [(.bor 1)]))]) ρ = some (false, ρ) := tr_of (evs2 (os_val (isTy "int" (.str i) ρ 0 rfl)) (os_val (isTy "int" (.str i) ρ 1 rfl)) (by rw [neB, beq_self_eq_true]; rfl))
    exact fn_rt rfl (st_seq (if_f (or_f (tr_of a1) (tr_of a0)) rfl) (st_seq (if_f (or_f (tr_of b1) (tr_of b0)) rfl) (st_rt (if_t (tr_of t1) (st_seq (if_f t2 rfl) (st_ret (eand_t t0 e))))))) rfl
  | .list ds, n + 1, h, hd => by
    rw [noDict] at h
    rw [PyData.depth] at hd
    exact seq_same hr n true ds (sames_len h) (sames hr ds n h (by omega))
  | .tuple ds, n + 1, h, hd => by
    rw [noDict] at h
    rw [PyData.depth] at hd
    exact seq_same hr n false ds (sames_len h) (sames hr ds n h (by omega))
theorem sames (hr : ∀ n, r (n + 1) = fnM 4 [false, false] (mSame (r n))) : ∀ (ds : List PyData) (n : Nat), noDicts ds = true → PyData.depthAll ds < n → ∀ d ∈ ds, r n [d, d] = some (.fz (.bool true), [])
  | d :: ds, n, h, hd, e, he => by
    rw [noDicts, Bool.and_eq_true, Bool.and_eq_true] at h
    rw [PyData.depthAll] at hd
    rcases List.mem_cons.mp he with he | he
    · rw [he]; exact same_self hr d n h.1 (by omega)
    · exact sames hr ds n h.2.2 (by omega) e he
theorem sames_len : ∀ {ds : List PyData}, noDicts ds = true → ds.length ≤ 10000
  | [], _ => by simp
  | d :: ds, h => by
    rw [noDicts, Bool.and_eq_true, Bool.and_eq_true] at h
    have := of_decide_eq_true h.2.1
    rw [List.length_cons]
    omega
end
end
end Vw

set_option Elab.async false
set_option linter.all false
set_option maxRecDepth 100000
set_option maxHeartbeats 4000000
/-! trees of copies, their copies -/
namespace Vw
open PySem L2 PyProof.Rows

mutual
inductive Tr where
  | leaf (c : Int)
  | node (t u : Int) (ps : Trs)
inductive Trs where
  | nil
  | cons (p : Tr) (ps : Trs)
end
def ratD (a : Int × Int) : PyData := .tuple [.int a.1, .int a.2]
mutual
def Tr.d : Tr → PyData
  | .leaf c => .int c
  | .node t u ps => .tuple [ratD (t, u), .tuple ps.ds]
def Trs.ds : Trs → List PyData
  | .nil => []
  | .cons p ps => p.d :: ps.ds
end
mutual
def Tr.cps : Tr → List Int
  | .leaf c => [c]
  | .node _ _ ps => ps.cps
def Trs.cps : Trs → List Int
  | .nil => []
  | .cons p ps => p.cps ++ ps.cps
end
mutual
def Tr.ht : Tr → Nat
  | .leaf _ => 0
  | .node _ _ ps => ps.ht + 1
def Trs.ht : Trs → Nat
  | .nil => 0
  | .cons p ps => max p.ht ps.ht
end
abbrev iD (ns : List Int) : PyData := .list (ns.map .int)
/-- a slot that is no other's -/
def Pw (s : Sl) : Prop := ∀ d, s ≠ .io d
theorem Pw.un : Pw .un := fun d z => by cases z
theorem Pw.fz {d : PyData} : Pw (.fz d) := fun e z => by cases z
theorem Pw.ow {d : PyData} : Pw (.ow d) := fun e z => by cases z
theorem put_pw {ρ : Rho} {i : Nat} {s r : Sl} (h : ρ[i]? = some s) (hs : Pw s) : put i r ρ = some (ρ.set i r) := by
  unfold put
  rw [h]
  cases s with
  | io d => exact (hs d rfl).elim
  | _ => rfl
theorem st_setW {i : Nat} {m : EM} {ρ ρ1 : Rho} {r s : Sl} (h : m ρ = some (r, ρ1)) (hi : ρ1[i]? = some s) (hs : Pw s) : sSet i m ρ = some (.nx (ρ1.set i r)) := st_set h (put_pw hi hs)
theorem gN_pw {ρ : Rho} {i : Nat} {s : Sl} {d : PyData} (h : ρ[i]? = some s) (hs : Pw s) : gN i d ρ = some (ρ.set i (.fz d)) := put_pw h hs
/-- a change of an own list -/
theorem ev_mut {h : PyData → List PyData → Option (PyData × PyData)} {i : Nat} {os : List Opd} {ρ ρ1 : Rho} {xs ys ds : List PyData} {r e : PyData} (h0 : own? ρ i = some (.list xs)) (hs : Os os ρ ds ρ1) (h1 : own? ρ1 i = some (.list ys)) (hh : h (.list ys) ds = some (r, e)) : eMut "list" h i os ρ = some (.fz r, setOwn ρ1 i e) := by
  have hl := os_len hs
  unfold Os at hs
  simp [eMut, h0, kindD, hs, fins_some os ds ρ1 hl, h1, hh]
theorem st_drop {m : EM} {ρ ρ1 : Rho} {r : Sl} (h : m ρ = some (r, ρ1)) : sDrop m ρ = some (.nx ρ1) := by simp [sDrop, h]
theorem ext_ok {xs ys : List PyData} (h : xs.length + ys.length ≤ 10000) : hExtend (.list xs) [.list ys] = some (.none, .list (xs ++ ys)) := by
  have : xs.length + ys.length ≤ sizeLine := Nat.le_trans h (by decide)
  simp [hExtend, this]
theorem for_cons {g : GM} {b : SM} {d : PyData} {ds : List PyData} {ρ ρ1 ρ2 : Rho} {o : Option Out} (h1 : g d ρ = some ρ1) (h2 : b ρ1 = some (.nx ρ2)) (h3 : forM g b ds ρ2 = o) : forM g b (d :: ds) ρ = o := by simp [forM, h1, h2, h3]
theorem for_rt {g : GM} {b : SM} {d : PyData} {ds : List PyData} {ρ ρ1 ρ2 : Rho} {r : Sl} (h1 : g d ρ = some ρ1) (h2 : b ρ1 = some (.rt r ρ2)) : forM g b (d :: ds) ρ = some (.rt r ρ2) := by simp [forM, h1, h2]
theorem jv_tup {m : EM} {ρ ρ' : Rho} {r : Sl} {ds : List PyData} (h : m ρ = some (r, ρ')) (hr : r.dat = some (.tuple ds)) : jVal m ρ = some (ds, ρ') := by simp [jVal, h, hr]

/-! ### the copies of a tree, as the package and as the laws tell them -/
noncomputable def mCopies (rec : Fn) : SM := sSeq (sIf (bNot (bOf (eFn (gIsi "tuple") [(.bor 0)]))) (sRet (eFn gLst' [(.val (eName 0))])) (sNil)) (sSeq (sSet 1 (eFn gLst' [])) (sSeq (sFor (jVal (eFn gIx [(.bor 0), (.val (eC (.int 1)))])) (gN 2) (sDrop (eMut "list" hExtend 1 [(.val (eCall rec [(.val (eName 2))]))]))) (sRet (eMove 1))))
noncomputable def mCopiesL (rec : Fn) : SM := sSeq (sIf (bNot (bOf (eFn (gIsi "tuple") [(.bor 0)]))) (sRet (eFn gLst' [(.val (eName 0))])) (sNil)) (sSeq (sSet 1 (eFn gLst' [])) (sSeq (sFor (jVal (eFn gIx [(.bor 0), (.val (eC (.int 1)))])) (gN 2) (sSet 1 (eFn gAdd [(.bor 1), (.val (eCall rec [(.val (eName 2))]))]))) (sRet (eMove 1))))
theorem Tr.isT : ∀ t : Tr, isaD "tuple" t.d = (match t with | .leaf _ => false | .node _ _ _ => true)
  | .leaf _ => rfl
  | .node _ _ _ => rfl
section
variable {r : Nat → Fn}
/-- either way a part's copies are put behind -/
def Puts (b : Fn → SM) (bd : Fn → SM) : Prop := ∀ (f : Fn) (T : PyData) (acc : List Int) (p : PyData) (cs : List Int), f [p] = some (.ow (iD cs), []) → acc.length + cs.length ≤ 10000 → bd f [.fz T, .ow (iD acc), .fz p] = some (.nx [.fz T, .ow (iD (acc ++ cs)), .fz p])
theorem puts_ext : Puts mCopies fun rec => sDrop (eMut "list" hExtend 1 [(.val (eCall rec [(.val (eName 2))]))]) := fun f T acc p cs hf hl => by
  have e := ev_mut (ρ := [.fz T, .ow (iD acc), .fz p]) (i := 1) rfl (os_cons (os_own (ev_call rfl (os_cons (os_name (i := 2) rfl) os_nil) hf)) os_nil) rfl (ext_ok (xs := acc.map .int) (ys := cs.map .int) (by simpa using hl))
  have e2 : (acc ++ cs).map PyData.int = acc.map .int ++ cs.map .int := List.map_append
  show _ = some (Out.nx [.fz T, .ow (.list ((acc ++ cs).map .int)), .fz p])
  rw [e2]
  exact st_drop e
theorem puts_add : Puts mCopiesL fun rec => sSet 1 (eFn gAdd [(.bor 1), (.val (eCall rec [(.val (eName 2))]))]) := fun f T acc p cs hf hl => by
  have e := ev2 (ρ := [.fz T, .ow (iD acc), .fz p]) (ov_bor (i := 1) rfl) (ov_own (ev_call rfl (os_cons (os_name (i := 2) rfl) os_nil) hf)) (catL (x := acc.map .int) (y := cs.map .int) (by simpa using hl))
  have e2 : (acc ++ cs).map PyData.int = acc.map .int ++ cs.map .int := List.map_append
  show _ = some (Out.nx [.fz T, .ow (.list ((acc ++ cs).map .int)), .fz p])
  rw [e2]
  exact st_setW e rfl Pw.ow
mutual
theorem cps_t {m bd : Fn → SM} (hm : ∀ f, m f = sSeq (sIf (bNot (bOf (eFn (gIsi "tuple") [(.bor 0)]))) (sRet (eFn gLst' [(.val (eName 0))])) (sNil)) (sSeq (sSet 1 (eFn gLst' [])) (sSeq (sFor (jVal (eFn gIx [(.bor 0), (.val (eC (.int 1)))])) (gN 2) (bd f)) (sRet (eMove 1))))) (hb : Puts m bd) (hr : ∀ n, r (n + 1) = fnM 3 [false] (m (r n))) :
    ∀ (t : Tr) (n : Nat), t.ht < n → t.cps.length ≤ 1000 → r n [t.d] = some (.ow (iD t.cps), [])
  | .leaf c, n + 1, _, _ => by
    rw [hr, hm]
    have t0 := tb_not (tr_of (evs1 (ρ := [.fz (.int c), .un, .un]) (os_bor (i := 0) rfl) (isi_ok "tuple" (.int c))))
    exact fn_rt rfl (st_rt (if_t t0 (st_ret (evn (os_cons (os_name rfl) os_nil) (lst_ok (by simp)))))) rfl
  | .node t u ps, n + 1, h, hl => by
    have h1 : ps.ht < n := by simp only [Tr.ht] at h; omega
    have hl1 : ps.cps.length ≤ 1000 := hl
    rw [hr, hm]
    have t0 := tb_not (tr_of (evs1 (ρ := [.fz (Tr.node t u ps).d, .un, .un]) (os_bor (i := 0) rfl) (isi_ok "tuple" (Tr.node t u ps).d)))
    obtain ⟨s, hs, e⟩ := cps_ts hm hb hr ps n h1 (Tr.node t u ps).d [] .un Pw.un (by simp; omega)
    have e1 : sFor (jVal (eFn gIx [(.bor 0), (.val (eC (.int 1)))])) (gN 2) (bd (r n)) [.fz (Tr.node t u ps).d, .ow (iD []), .un] = some (.nx [.fz (Tr.node t u ps).d, .ow (iD ([] ++ ps.cps)), s]) :=
      st_for (jv_tup (evs2 (os_bor rfl) os_c (s := .fz (.tuple ps.ds)) (by simp [Tr.d, gIx, atI, ixN])) rfl) e
    exact fn_rt (ρ' := [.fz (Tr.node t u ps).d, .un, s]) rfl (st_seq (if_f t0 rfl) (st_seq (st_set (evn os_nil (lst_ok (by simp))) rfl) (st_seq e1 (st_ret rfl)))) rfl
theorem cps_ts {m bd : Fn → SM} (hm : ∀ f, m f = sSeq (sIf (bNot (bOf (eFn (gIsi "tuple") [(.bor 0)]))) (sRet (eFn gLst' [(.val (eName 0))])) (sNil)) (sSeq (sSet 1 (eFn gLst' [])) (sSeq (sFor (jVal (eFn gIx [(.bor 0), (.val (eC (.int 1)))])) (gN 2) (bd f)) (sRet (eMove 1))))) (hb : Puts m bd) (hr : ∀ n, r (n + 1) = fnM 3 [false] (m (r n))) :
    ∀ (ps : Trs) (n : Nat), ps.ht < n → ∀ (T : PyData) (acc : List Int) (s : Sl), Pw s → acc.length + ps.cps.length ≤ 1000 → ∃ s', Pw s' ∧ forM (gN 2) (bd (r n)) ps.ds [.fz T, .ow (iD acc), s] = some (.nx [.fz T, .ow (iD (acc ++ ps.cps)), s'])
  | .nil, n, _, T, acc, s, hs, _ => ⟨s, hs, by simp [Trs.ds, Trs.cps, forM]⟩
  | .cons p ps, n, h, T, acc, s, hs, hl => by
    simp only [Trs.ht] at h
    simp only [Trs.cps, List.length_append] at hl
    have hp := cps_t hm hb hr p n (by omega) (by omega)
    obtain ⟨s', hs', e⟩ := cps_ts hm hb hr ps n (by omega) T (acc ++ p.cps) (.fz p.d) Pw.fz (by rw [List.length_append]; omega)
    refine ⟨s', hs', ?_⟩
    rw [Trs.ds, Trs.cps, ← List.append_assoc]
    exact for_cons (gN_pw rfl hs) (hb (r n) T acc p.d p.cps hp (by omega)) e
end
theorem copies_ok (hr : ∀ n, r (n + 1) = fnM 3 [false] (mCopies (r n))) (t : Tr) (n : Nat) (h : t.ht < n) (hl : t.cps.length ≤ 1000) : r n [t.d] = some (.ow (iD t.cps), []) := cps_t (fun _ => rfl) puts_ext hr t n h hl
theorem copiesL_ok (hr : ∀ n, r (n + 1) = fnM 3 [false] (mCopiesL (r n))) (t : Tr) (n : Nat) (h : t.ht < n) (hl : t.cps.length ≤ 1000) : r n [t.d] = some (.ow (iD t.cps), []) := cps_t (fun _ => rfl) puts_add hr t n h hl
end
/-- a whole number among some -/
theorem in_ints (neg : Bool) (a : Int) (cs : List Int) : inD neg [.int a, iD cs] = some (.fz (.bool (neg ^^ decide (a ∈ cs)))) := by
  have h1 : SeqAt.shaped (.int a) = true := by simp [SeqAt.shaped, PyData.canLay0, PyData.depth]
  have h2 : ∀ cs : List Int, PyData.canLayAll0 (cs.map .int) = true ∧ PyData.depthAll (cs.map .int) = 0 := by
    intro cs
    induction cs with
    | nil => simp [PyData.canLayAll0, PyData.depthAll]
    | cons c cs ih => simp [PyData.canLayAll0, PyData.depthAll, PyData.canLay0, PyData.depth, ih.1, ih.2]
  have h3 : SeqAt.shaped (iD cs) = true := by simp [SeqAt.shaped, PyData.canLay0, PyData.depth, (h2 cs).1, (h2 cs).2]
  have h4 : ((cs.map PyData.int).any fun e => PyData.eqv e (.int a)) = decide (a ∈ cs) := by
    rw [Bool.eq_iff_iff]
    simp only [List.any_map, List.any_eq_true, decide_eq_true_iff, Function.comp, PyData.eqv, beq_iff_eq]
    exact ⟨fun ⟨x, hx, e⟩ => e ▸ hx, fun h => ⟨a, h, rfl⟩⟩
  show (if SeqAt.shaped (.int a) = true ∧ SeqAt.shaped (iD cs) = true then _ else _) = _
  rw [if_pos ⟨h1, h3⟩, h4]
end Vw

set_option Elab.async false
set_option linter.all false
set_option maxRecDepth 100000
set_option maxHeartbeats 4000000
/-! the mirrors reckoned by rewriting: each piece is asked only once what stands ahead of it is known -/
namespace Vw
open PySem L2 PyProof.Rows

section
variable {i j l : Nat} {d e : PyData} {ds es : List PyData} {ρ ρ1 ρ2 : Rho} {r s : Sl} {c : Bool} {os : List Opd} {o : Opd} {x : Option PyData} {xs : List (Option PyData)} {m a b : EM} {ta tb : BM} {sa sb : SM} {f : List PyData → Option (Sl × List PyData)} {g g' : List PyData → Option Sl} {gm : GM} {src : IM}
def nameK : Option Sl → Rho → Nat → Option (Sl × Rho)
  | some (.fz d), ρ, _ => some (.fz d, ρ)
  | some (.ow d), ρ, i => some (.fz d, ρ.set i (.fz d))
  | _, _, _ => none
theorem eName_k : eName i ρ = nameK ρ[i]? ρ i := by
  unfold eName nameK
  split <;> simp_all
theorem nameK_f : nameK (some (.fz d)) ρ i = some (.fz d, ρ) := rfl
theorem nameK_o : nameK (some (.ow d)) ρ i = some (.fz d, ρ.set i (.fz d)) := rfl
def moveK : Option Sl → Rho → Nat → Option (Sl × Rho)
  | some (.fz d), ρ, _ => some (.fz d, ρ)
  | some (.ow d), ρ, i => some (.ow d, ρ.set i .un)
  | _, _, _ => none
theorem eMove_k : eMove i ρ = moveK ρ[i]? ρ i := by
  unfold eMove moveK
  split <;> simp_all
theorem moveK_f : moveK (some (.fz d)) ρ i = some (.fz d, ρ) := rfl
theorem moveK_o : moveK (some (.ow d)) ρ i = some (.ow d, ρ.set i .un) := rfl
theorem eC_k : eC d ρ = some (.fz d, ρ) := rfl
def pvK : Option (Sl × Rho) → Option (Option PyData × Rho)
  | some (.fz d, ρ) => some (some d, ρ)
  | some (.ow d, ρ) => some (some d, ρ)
  | some (.io d, ρ) => some (some d, ρ)
  | _ => none
theorem pre_val : pre (.val m) ρ = pvK (m ρ) := by
  show ((m ρ).bind fun p => p.1.dat.map fun d => (some d, p.2)) = _
  cases h : m ρ with
  | none => rfl
  | some p => obtain ⟨s, q⟩ := p; cases s <;> rfl
theorem pvK_f : pvK (some (.fz d, ρ)) = some (some d, ρ) := rfl
theorem pvK_o : pvK (some (.ow d, ρ)) = some (some d, ρ) := rfl
def pbK : Option Sl → Rho → Option (Option PyData × Rho)
  | some (.fz d), ρ => some (some d, ρ)
  | some (.ow _), ρ => some (none, ρ)
  | some (.io _), ρ => some (none, ρ)
  | _, _ => none
theorem pre_bor : pre (.bor i) ρ = pbK ρ[i]? ρ := by
  rw [pre]
  cases h : ρ[i]? with
  | none => rfl
  | some s => cases s <;> rfl
theorem pbK_f : pbK (some (.fz d)) ρ = some (some d, ρ) := rfl
theorem pbK_o : pbK (some (.ow d)) ρ = some (none, ρ) := rfl
theorem pbK_i : pbK (some (.io d)) ρ = some (none, ρ) := rfl
def pcK2 : Option PyData → Option (List (Option PyData) × Rho) → Option (List (Option PyData) × Rho)
  | x, some (xs, ρ) => some (x :: xs, ρ)
  | _, none => none
def pcK : Option (Option PyData × Rho) → List Opd → Option (List (Option PyData) × Rho)
  | some (x, ρ), os => pcK2 x (pres os ρ)
  | none, _ => none
theorem pres_n : pres [] ρ = some ([], ρ) := rfl
theorem pres_c : pres (o :: os) ρ = pcK (pre o ρ) os := by
  unfold pcK pcK2
  rw [pres]
  cases h : pre o ρ with
  | none => rfl
  | some p =>
    obtain ⟨y, q⟩ := p
    simp only [Option.bind_some]
    cases h2 : pres os q <;> simp
theorem pcK_s : pcK (some (x, ρ)) os = pcK2 x (pres os ρ) := rfl
theorem pcK2_s : pcK2 x (some (xs, ρ)) = some (x :: xs, ρ) := rfl
theorem fin_s : fin o (some d) ρ = some d := by cases o <;> rfl
def fbK : Option Sl → Option PyData
  | some (.ow d) => some d
  | some (.io d) => some d
  | _ => none
theorem fin_b : fin (.bor i) none ρ = fbK ρ[i]? := by
  unfold fbK
  rw [fin]
  cases h : ρ[i]? with
  | none => simp
  | some s => cases s <;> simp
theorem fbK_o : fbK (some (.ow d)) = some d := rfl
theorem fbK_i : fbK (some (.io d)) = some d := rfl
def fcK : Option PyData → Option (List PyData) → Option (List PyData)
  | some d, some ds => some (d :: ds)
  | _, _ => none
theorem fins_n : fins [] [] ρ = some [] := rfl
theorem fins_c : fins (o :: os) (x :: xs) ρ = fcK (fin o x ρ) (fins os xs ρ) := by
  unfold fcK
  rw [fins]
  cases fin o x ρ <;> cases fins os xs ρ <;> rfl
theorem fcK_s : fcK (some d) (some ds) = some (d :: ds) := rfl
def fnK3 : Option Sl → Rho → Option (Sl × Rho)
  | some s, ρ => some (s, ρ)
  | none, _ => none
def fnK2 (g : List PyData → Option Sl) : Option (List PyData) → Rho → Option (Sl × Rho)
  | some ds, ρ => fnK3 (g ds) ρ
  | none, _ => none
def fnK (g : List PyData → Option Sl) (os : List Opd) : Option (List (Option PyData) × Rho) → Option (Sl × Rho)
  | some (xs, ρ) => fnK2 g (fins os xs ρ) ρ
  | none => none
theorem eFn_k : eFn g os ρ = fnK g os (pres os ρ) := by
  unfold eFn fnK fnK2 fnK3
  cases pres os ρ with
  | none => rfl
  | some p =>
    obtain ⟨ys, q⟩ := p
    simp only [Option.bind_some]
    cases fins os ys q with
    | none => rfl
    | some z => simp only [Option.bind_some]; cases g z <;> rfl
theorem fnK_s : fnK g os (some (xs, ρ)) = fnK2 g (fins os xs ρ) ρ := rfl
theorem fnK2_s : fnK2 g (some ds) ρ = fnK3 (g ds) ρ := rfl
theorem fnK3_s : fnK3 (some s) ρ = some (s, ρ) := rfl
-- calls
def noSl (i : Nat) : List Opd → Bool
  | [] => true
  | .val _ :: os => noSl i os
  | .bor j :: os => (i != j) && noSl i os
theorem noSl_iff : ∀ {os : List Opd}, noSl i os = true ↔ ∀ b ∈ os.map slotOf, (some i : Option Nat) = none ∨ some i ≠ b
  | [] => by simp [noSl]
  | .val _ :: os => by simp [noSl, slotOf, noSl_iff (os := os)]
  | .bor j :: os => by simp [noSl, slotOf, noSl_iff (os := os)]
theorem apart_n : apart [] = true := rfl
theorem apart_v : apart (.val m :: os) = apart os := by simp [apart, slotOf]
theorem apart_b : apart (.bor i :: os) = (noSl i os && apart os) := by
  have h := noSl_iff (i := i) (os := os)
  rw [Bool.eq_iff_iff, Bool.and_eq_true, h]
  simp [apart, slotOf]
theorem noSl_n : noSl i [] = true := rfl
theorem noSl_v : noSl i (.val m :: os) = noSl i os := rfl
theorem ioOk_n : ioOk [] [] = true := rfl
theorem ioOk_v : ioOk (.val m :: os) (x :: xs) = ioOk os xs := by cases x <;> rfl
theorem ioOk_b : ioOk (.bor i :: os) (none :: xs) = ioOk os xs := rfl
theorem outs_n : outs [] [] ρ = some ρ := rfl
theorem outs_v : outs (.val m :: os) ds ρ = outs os ds ρ := by cases ds <;> rfl
def outK : Option Sl → Nat → PyData → List Opd → List PyData → Rho → Option Rho
  | some (.ow _), i, d, os, ds, ρ => outs os ds (ρ.set i (.ow d))
  | some (.io _), i, d, os, ds, ρ => outs os ds (ρ.set i (.io d))
  | _, _, _, _, _, _ => none
theorem outs_b : outs (.bor i :: os) (d :: ds) ρ = outK ρ[i]? i d os ds ρ := by
  unfold outK
  rw [outs]
  split <;> simp_all
theorem outK_o : outK (some (.ow e)) i d os ds ρ = outs os ds (ρ.set i (.ow d)) := rfl
theorem outK_i : outK (some (.io e)) i d os ds ρ = outs os ds (ρ.set i (.io d)) := rfl
def callK4 (r : Sl) : Option Rho → Option (Sl × Rho)
  | some ρ => some (r, ρ)
  | none => none
def callK3 (os : List Opd) : Option (Sl × List PyData) → Rho → Option (Sl × Rho)
  | some (r, es), ρ => callK4 r (outs os es ρ)
  | none, _ => none
def callK2 (f : List PyData → Option (Sl × List PyData)) (os : List Opd) : Bool → Option (List PyData) → Rho → Option (Sl × Rho)
  | true, some ds, ρ => callK3 os (f ds) ρ
  | _, _, _ => none
def callK (f : List PyData → Option (Sl × List PyData)) (os : List Opd) : Bool → Option (List (Option PyData) × Rho) → Option (Sl × Rho)
  | true, some (xs, ρ) => callK2 f os (ioOk os xs) (fins os xs ρ) ρ
  | _, _ => none
theorem eCall_k : eCall f os ρ = callK f os (apart os) (pres os ρ) := by
  unfold eCall callK callK2 callK3 callK4
  cases apart os with
  | false => simp
  | true =>
    cases pres os ρ with
    | none => simp
    | some p =>
      obtain ⟨ys, q⟩ := p
      simp only [if_true, Option.bind_some]
      cases ioOk os ys with
      | false => cases fins os ys q <;> simp
      | true =>
        cases fins os ys q with
        | none => simp
        | some z =>
          simp only [if_true, Option.bind_some]
          cases f z with
          | none => simp
          | some w => obtain ⟨w1, w2⟩ := w; simp only [Option.bind_some]; cases outs os w2 q <;> rfl
theorem callK_s : callK f os true (some (xs, ρ)) = callK2 f os (ioOk os xs) (fins os xs ρ) ρ := rfl
theorem callK2_s : callK2 f os true (some ds) ρ = callK3 os (f ds) ρ := rfl
theorem callK3_s : callK3 os (some (r, es)) ρ = callK4 r (outs os es ρ) := rfl
theorem callK4_s : callK4 r (some ρ) = some (r, ρ) := rfl
-- truth
def bofK : Option (Sl × Rho) → Option (Bool × Rho)
  | some (.fz (.bool c), ρ) => some (c, ρ)
  | _ => none
theorem bOf_k : bOf a ρ = bofK (a ρ) := by
  unfold bOf bofK
  cases h : a ρ with
  | none => rfl
  | some p => obtain ⟨s, q⟩ := p; cases s <;> (try rfl); rename_i d; cases d <;> rfl
theorem bofK_s : bofK (some (.fz (.bool c), ρ)) = some (c, ρ) := rfl
def bandK : Option (Bool × Rho) → BM → Option (Bool × Rho)
  | some (true, ρ), b => b ρ
  | some (false, ρ), _ => some (false, ρ)
  | none, _ => none
theorem bAnd_k : bAnd ta tb ρ = bandK (ta ρ) tb := by
  unfold bAnd bandK
  cases h : ta ρ with
  | none => rfl
  | some p => obtain ⟨s, q⟩ := p; cases s <;> rfl
theorem bandK_t : bandK (some (true, ρ)) tb = tb ρ := rfl
theorem bandK_f : bandK (some (false, ρ)) tb = some (false, ρ) := rfl
def borK : Option (Bool × Rho) → BM → Option (Bool × Rho)
  | some (true, ρ), _ => some (true, ρ)
  | some (false, ρ), b => b ρ
  | none, _ => none
theorem bOr_k : bOr ta tb ρ = borK (ta ρ) tb := by
  unfold bOr borK
  cases h : ta ρ with
  | none => rfl
  | some p => obtain ⟨s, q⟩ := p; cases s <;> rfl
theorem borK_t : borK (some (true, ρ)) tb = some (true, ρ) := rfl
theorem borK_f : borK (some (false, ρ)) tb = tb ρ := rfl
def bnotK : Option (Bool × Rho) → Option (Bool × Rho)
  | some (c, ρ) => some (!c, ρ)
  | none => none
theorem bNot_k : bNot ta ρ = bnotK (ta ρ) := by
  unfold bNot bnotK
  cases ta ρ <;> rfl
theorem bnotK_s : bnotK (some (c, ρ)) = some (!c, ρ) := rfl
theorem bYes_k : bYes ρ = some (true, ρ) := rfl
def btruK : Option PyData → Rho → Option (Bool × Rho)
  | some d, ρ => (truD d).map fun b => (b, ρ)
  | none, _ => none
def btruK0 (o : Opd) : Option (Option PyData × Rho) → Option (Bool × Rho)
  | some (x, ρ) => btruK (fin o x ρ) ρ
  | none => none
theorem bTru_k : bTru o ρ = btruK0 o (pre o ρ) := by
  unfold bTru btruK0 btruK
  cases pre o ρ with
  | none => rfl
  | some p => obtain ⟨y, q⟩ := p; simp only [Option.bind_some]; cases fin o y q <;> rfl
theorem btruK0_s : btruK0 o (some (x, ρ)) = btruK (fin o x ρ) ρ := rfl
theorem btruK_i {k : Int} : btruK (some (.int k)) ρ = some (k != 0, ρ) := rfl
theorem btruK_b : btruK (some (.bool c)) ρ = some (c, ρ) := rfl
theorem btruK_l : btruK (some (.list ds)) ρ = some (!ds.isEmpty, ρ) := rfl
theorem btruK_t : btruK (some (.tuple ds)) ρ = some (!ds.isEmpty, ρ) := rfl
theorem btruK_n : btruK (some .none) ρ = some (false, ρ) := rfl
def eandK : Option (Sl × Rho) → EM → Option (Sl × Rho)
  | some (.fz (.bool true), ρ), b => b ρ
  | some (.fz (.bool false), ρ), _ => some (.fz (.bool false), ρ)
  | _, _ => none
theorem eAnd_k : eAnd a b ρ = eandK (a ρ) b := by
  unfold eAnd eandK
  cases h : a ρ with
  | none => rfl
  | some p => obtain ⟨s, q⟩ := p; cases s <;> (try rfl); rename_i d; cases d <;> (try rfl); rename_i z; cases z <;> rfl
theorem eandK_t : eandK (some (.fz (.bool true), ρ)) b = b ρ := rfl
theorem eandK_f : eandK (some (.fz (.bool false), ρ)) b = some (.fz (.bool false), ρ) := rfl
def eorK : Option (Sl × Rho) → EM → Option (Sl × Rho)
  | some (.fz (.bool true), ρ), _ => some (.fz (.bool true), ρ)
  | some (.fz (.bool false), ρ), b => b ρ
  | _, _ => none
theorem eOr_k : eOr a b ρ = eorK (a ρ) b := by
  unfold eOr eorK
  cases h : a ρ with
  | none => rfl
  | some p => obtain ⟨s, q⟩ := p; cases s <;> (try rfl); rename_i d; cases d <;> (try rfl); rename_i z; cases z <;> rfl
theorem eorK_t : eorK (some (.fz (.bool true), ρ)) b = some (.fz (.bool true), ρ) := rfl
theorem eorK_f : eorK (some (.fz (.bool false), ρ)) b = b ρ := rfl
def enotK : Option (Sl × Rho) → Option (Sl × Rho)
  | some (.fz (.bool c), ρ) => some (.fz (.bool (!c)), ρ)
  | _ => none
theorem eNot_k : eNot a ρ = enotK (a ρ) := by
  unfold eNot enotK
  cases h : a ρ with
  | none => rfl
  | some p => obtain ⟨s, q⟩ := p; cases s <;> (try rfl); rename_i d; cases d <;> rfl
theorem enotK_s : enotK (some (.fz (.bool c), ρ)) = some (.fz (.bool (!c)), ρ) := rfl
def eifK : Option (Bool × Rho) → EM → EM → Option (Sl × Rho)
  | some (true, ρ), a, _ => a ρ
  | some (false, ρ), _, b => b ρ
  | none, _, _ => none
theorem eIf_k : eIf ta a b ρ = eifK (ta ρ) a b := by
  unfold eIf eifK
  cases h : ta ρ with
  | none => rfl
  | some p => obtain ⟨s, q⟩ := p; cases s <;> rfl
theorem eifK_t : eifK (some (true, ρ)) a b = a ρ := rfl
theorem eifK_f : eifK (some (false, ρ)) a b = b ρ := rfl
-- statements
def seqK : Option Out → SM → Option Out
  | some (.nx ρ), b => b ρ
  | x, _ => x
theorem sSeq_k : sSeq sa sb ρ = seqK (sa ρ) sb := by
  unfold sSeq seqK
  cases h : sa ρ with
  | none => rfl
  | some o => cases o <;> rfl
theorem seqK_n : seqK (some (.nx ρ)) sb = sb ρ := rfl
theorem seqK_r : seqK (some (.rt r ρ)) sb = some (.rt r ρ) := rfl
theorem seqK_b : seqK (some (.bk ρ)) sb = some (.bk ρ) := rfl
theorem seqK_c : seqK (some (.ct ρ)) sb = some (.ct ρ) := rfl
def ifK : Option (Bool × Rho) → SM → SM → Option Out
  | some (true, ρ), a, _ => a ρ
  | some (false, ρ), _, b => b ρ
  | none, _, _ => none
theorem sIf_k : sIf ta sa sb ρ = ifK (ta ρ) sa sb := by
  unfold sIf ifK
  cases h : ta ρ with
  | none => rfl
  | some p => obtain ⟨s, q⟩ := p; cases s <;> rfl
theorem ifK_t : ifK (some (true, ρ)) sa sb = sa ρ := rfl
theorem ifK_f : ifK (some (false, ρ)) sa sb = sb ρ := rfl
theorem sNil_k : sNil ρ = some (.nx ρ) := rfl
theorem sBreak_k : sBreak ρ = some (.bk ρ) := rfl
theorem sCont_k : sCont ρ = some (.ct ρ) := rfl
theorem sRetN_k : sRetN ρ = some (.rt (.fz .none) ρ) := rfl
def rtK : Option (Sl × Rho) → Option Out
  | some (r, ρ) => some (.rt r ρ)
  | none => none
theorem sRet_k : sRet m ρ = rtK (m ρ) := by
  unfold sRet rtK
  cases m ρ <;> rfl
theorem rtK_s : rtK (some (r, ρ)) = some (.rt r ρ) := rfl
def drK : Option (Sl × Rho) → Option Out
  | some (_, ρ) => some (.nx ρ)
  | none => none
theorem sDrop_k : sDrop m ρ = drK (m ρ) := by
  unfold sDrop drK
  cases m ρ <;> rfl
theorem drK_s : drK (some (r, ρ)) = some (.nx ρ) := rfl
def setK2 : Option Rho → Option Out
  | some ρ => some (.nx ρ)
  | none => none
def setK (i : Nat) : Option (Sl × Rho) → Option Out
  | some (r, ρ) => setK2 (put i r ρ)
  | none => none
theorem sSet_k : sSet i m ρ = setK i (m ρ) := by
  unfold sSet setK setK2
  cases m ρ with
  | none => rfl
  | some p => simp only [Option.bind_some]; cases put i p.1 p.2 <;> rfl
theorem setK_s : setK i (some (r, ρ)) = setK2 (put i r ρ) := rfl
theorem setK2_s : setK2 (some ρ) = some (.nx ρ) := rfl
def putK : Option Sl → Nat → Sl → Rho → Option Rho
  | some .un, i, r, ρ => some (ρ.set i r)
  | some (.fz _), i, r, ρ => some (ρ.set i r)
  | some (.ow _), i, r, ρ => some (ρ.set i r)
  | _, _, _, _ => none
theorem put_k : put i r ρ = putK ρ[i]? i r ρ := by
  unfold put putK
  split
  · rename_i h; rw [h]
  · rename_i s hn h; rw [h]; cases s <;> (try rfl); exact (hn _ rfl).elim
  · rename_i h; rw [h]
theorem putK_u : putK (some .un) i r ρ = some (ρ.set i r) := rfl
theorem putK_f : putK (some (.fz d)) i r ρ = some (ρ.set i r) := rfl
theorem putK_o : putK (some (.ow d)) i r ρ = some (ρ.set i r) := rfl
theorem putK_w (h : Pw s) : putK (some s) i r ρ = some (ρ.set i r) := by
  cases s with
  | io d => exact (h d rfl).elim
  | _ => rfl
theorem putK_l (h : Pl s) : putK (some s) i r ρ = some (ρ.set i r) := by
  rcases h with rfl | ⟨d, rfl⟩ <;> rfl
def parK2 (i j : Nat) (x : Sl) : Option (Sl × Rho) → Option Out
  | some (y, ρ) => match put i x ρ with
    | some ρ3 => setK2 (put j y ρ3)
    | none => none
  | none => none
def parK3 (j : Nat) (y : Sl) : Option Rho → Option Out
  | some ρ => setK2 (put j y ρ)
  | none => none
def parK (i j : Nat) : Option (Sl × Rho) → EM → Option Out
  | some (x, ρ), b => parK2 i j x (b ρ)
  | none, _ => none
theorem sPar_k : sPar i j a b ρ = parK i j (a ρ) b := by
  unfold sPar parK parK2 setK2
  cases a ρ with
  | none => rfl
  | some p =>
    obtain ⟨x, q⟩ := p
    simp only [Option.bind_some]
    cases b q with
    | none => rfl
    | some w =>
      obtain ⟨y, z⟩ := w
      simp only [Option.bind_some]
      cases put i x z with
      | none => rfl
      | some v => simp only [Option.bind_some]; cases put j y v <;> rfl
theorem parK_s : parK i j (some (r, ρ)) b = parK2 i j r (b ρ) := rfl
theorem parK2_s : parK2 i j r (some (s, ρ)) = parK3 j s (put i r ρ) := by
  show (match put i r ρ with | some ρ3 => setK2 (put j s ρ3) | none => none) = _
  cases put i r ρ <;> rfl
theorem parK3_s : parK3 j s (some ρ) = setK2 (put j s ρ) := rfl
def tupK : Option (Sl × Rho) → GM → Option Out
  | some (.fz d, ρ), g => setK2 (g d ρ)
  | some (.ow d, ρ), g => setK2 (g d ρ)
  | some (.io d, ρ), g => setK2 (g d ρ)
  | _, _ => none
theorem sTup_k : sTup m gm ρ = tupK (m ρ) gm := by
  unfold sTup tupK setK2
  cases m ρ with
  | none => rfl
  | some p =>
    obtain ⟨s, q⟩ := p
    cases s <;> simp only [Option.bind_some, Sl.dat, Option.bind_none] <;> (rename_i z; cases gm z q <;> rfl)
theorem tupK_f : tupK (some (.fz d, ρ)) gm = setK2 (gm d ρ) := rfl
theorem tupK_o : tupK (some (.ow d, ρ)) gm = setK2 (gm d ρ) := rfl
theorem gN_k : gN i d ρ = put i (.fz d) ρ := rfl
def gsK : Option Rho → (List PyData → Rho → Option Rho) → List PyData → Option Rho
  | some ρ, gs, ds => gs ds ρ
  | none, _, _ => none
theorem gT_k {gs : List PyData → Rho → Option Rho} : gT gs (.tuple ds) ρ = gs ds ρ := rfl
theorem gsCons_k {gs : List PyData → Rho → Option Rho} : gsCons gm gs (d :: ds) ρ = gsK (gm d ρ) gs ds := by
  show (gm d ρ).bind (gs ds) = _
  cases gm d ρ <;> rfl
theorem gsK_s {gs : List PyData → Rho → Option Rho} : gsK (some ρ) gs ds = gs ds ρ := rfl
theorem gsNil_k : gsNil [] ρ = some ρ := rfl
def forK : Option (List PyData × Rho) → GM → SM → Option Out
  | some (ds, ρ), g, b => forM g b ds ρ
  | none, _, _ => none
theorem sFor_k : sFor src gm sb ρ = forK (src ρ) gm sb := by
  unfold sFor forK
  cases src ρ <;> rfl
theorem forK_s : forK (some (ds, ρ)) gm sb = forM gm sb ds ρ := rfl
def jvK : Option (Sl × Rho) → Option (List PyData × Rho)
  | some (.fz (.list ds), ρ) => some (ds, ρ)
  | some (.fz (.tuple ds), ρ) => some (ds, ρ)
  | some (.ow (.list ds), ρ) => some (ds, ρ)
  | some (.ow (.tuple ds), ρ) => some (ds, ρ)
  | some (.io (.list ds), ρ) => some (ds, ρ)
  | some (.io (.tuple ds), ρ) => some (ds, ρ)
  | _ => none
theorem jVal_k : jVal m ρ = jvK (m ρ) := by
  unfold jVal jvK
  cases m ρ with
  | none => rfl
  | some p => obtain ⟨s, q⟩ := p; cases s <;> (try rfl) <;> (rename_i d; cases d <;> rfl)
theorem jvK_fl : jvK (some (.fz (.list ds), ρ)) = some (ds, ρ) := rfl
theorem jvK_ft : jvK (some (.fz (.tuple ds), ρ)) = some (ds, ρ) := rfl
theorem jvK_ol : jvK (some (.ow (.list ds), ρ)) = some (ds, ρ) := rfl
variable {fj : List PyData → Option (List PyData)}
def jaK3 : Option (List PyData) → Rho → Option (List PyData × Rho)
  | some ds, ρ => some (ds, ρ)
  | none, _ => none
def jaK2 (f : List PyData → Option (List PyData)) : Option (List PyData) → Rho → Option (List PyData × Rho)
  | some ds, ρ => jaK3 (f ds) ρ
  | none, _ => none
def jaK (f : List PyData → Option (List PyData)) (os : List Opd) : Option (List (Option PyData) × Rho) → Option (List PyData × Rho)
  | some (xs, ρ) => jaK2 f (fins os xs ρ) ρ
  | none => none
theorem jArgs_k : jArgs fj os ρ = jaK fj os (pres os ρ) := by
  unfold jArgs jaK jaK2 jaK3
  cases pres os ρ with
  | none => rfl
  | some p =>
    obtain ⟨ys, q⟩ := p
    simp only [Option.bind_some]
    cases fins os ys q with
    | none => rfl
    | some z => simp only [Option.bind_some]; cases fj z <;> rfl
theorem jaK_s : jaK fj os (some (xs, ρ)) = jaK2 fj (fins os xs ρ) ρ := rfl
theorem jaK2_s : jaK2 fj (some ds) ρ = jaK3 (fj ds) ρ := rfl
theorem jaK3_s : jaK3 (some ds) ρ = some (ds, ρ) := rfl
def lcK2 : Option (List PyData × Rho) → Option (Sl × Rho)
  | some (ys, ρ) => if ys.length ≤ sizeLine then some (.ow (.list ys), ρ) else none
  | none => none
def lcK (g : GM) (t : BM) (e : EM) (own : List Nat) : Option (List PyData × Rho) → Option (Sl × Rho)
  | some (ds, ρ) => lcK2 (lcM g t e own ds ρ)
  | none => none
variable {own : List Nat}
theorem eLc_k : eLc src gm ta m own ρ = lcK gm ta m own (src ρ) := by
  unfold eLc lcK lcK2
  cases src ρ with
  | none => rfl
  | some p => simp only [Option.bind_some]; cases lcM gm ta m own p.1 p.2 <;> rfl
theorem lcK_s : lcK gm ta m own (some (ds, ρ)) = lcK2 (lcM gm ta m own ds ρ) := rfl
theorem lcK2_s {ys : List PyData} (h : ys.length ≤ 10000) : lcK2 (some (ys, ρ)) = some (.ow (.list ys), ρ) := by
  have : ys.length ≤ sizeLine := Nat.le_trans h (by decide)
  simp [lcK2, this]
-- slices
def pmK : Option (Sl × Rho) → Option (Option Int × Rho)
  | some (.fz (.int i), ρ) => some (some i, ρ)
  | _ => none
theorem partM_n : partM none ρ = some (none, ρ) := rfl
theorem partM_s : partM (some m) ρ = pmK (m ρ) := by
  unfold pmK
  rw [partM]
  cases m ρ with
  | none => rfl
  | some p => obtain ⟨s, q⟩ := p; cases s <;> (try rfl); rename_i d; cases d <;> rfl
theorem pmK_s {k : Int} : pmK (some (.fz (.int k), ρ)) = some (some k, ρ) := rfl
def slK4 (lo hi : Option Int) : Option PyData → Rho → Option (Sl × Rho)
  | some d, ρ => fnK3 (gCut lo hi d) ρ
  | none, _ => none
def slK3 (o : Opd) (x : Option PyData) (lo : Option Int) : Option (Option Int × Rho) → Option (Sl × Rho)
  | some (hi, ρ) => slK4 lo hi (fin o x ρ) ρ
  | none => none
def slK2 (o : Opd) (x : Option PyData) (hi : Option EM) : Option (Option Int × Rho) → Option (Sl × Rho)
  | some (lo, ρ) => slK3 o x lo (partM hi ρ)
  | none => none
def slK (o : Opd) (lo hi : Option EM) : Option (Option PyData × Rho) → Option (Sl × Rho)
  | some (x, ρ) => slK2 o x hi (partM lo ρ)
  | none => none
variable {lo hi : Option EM} {li ui : Option Int}
theorem eSl_k : eSl o lo hi ρ = slK o lo hi (pre o ρ) := by
  unfold eSl slK slK2 slK3 slK4 fnK3
  cases pre o ρ with
  | none => rfl
  | some p =>
    obtain ⟨y, q⟩ := p
    simp only [Option.bind_some]
    cases partM lo q with
    | none => rfl
    | some w =>
      obtain ⟨y2, q2⟩ := w
      simp only [Option.bind_some]
      cases partM hi q2 with
      | none => rfl
      | some z =>
        obtain ⟨y3, q3⟩ := z
        simp only [Option.bind_some]
        cases fin o y q3 with
        | none => rfl
        | some v => simp only [Option.bind_some]; cases gCut y2 y3 v <;> rfl
theorem slK_s : slK o lo hi (some (x, ρ)) = slK2 o x hi (partM lo ρ) := rfl
theorem slK2_s : slK2 o x hi (some (li, ρ)) = slK3 o x li (partM hi ρ) := rfl
theorem slK3_s : slK3 o x li (some (ui, ρ)) = slK4 li ui (fin o x ρ) ρ := rfl
theorem slK4_s : slK4 li ui (some d) ρ = fnK3 (gCut li ui d) ρ := rfl
theorem gCut_l : gCut li ui (.list ds) = some (.ow (.list (cutD ds li ui))) := rfl
theorem gCut_t : gCut li ui (.tuple ds) = some (.fz (.tuple (cutD ds li ui))) := rfl
-- own lists changed
def ownK : Option Sl → Option PyData
  | some (.ow d) => some d
  | some (.io d) => some d
  | _ => none
theorem own_k : own? ρ i = ownK ρ[i]? := by
  unfold own? ownK
  cases h : ρ[i]? with
  | none => simp
  | some s => cases s <;> simp
theorem ownK_o : ownK (some (.ow d)) = some d := rfl
theorem ownK_i : ownK (some (.io d)) = some d := rfl
def soK : Option Sl → Rho → Nat → PyData → Rho
  | some (.ow _), ρ, i, d => ρ.set i (.ow d)
  | some (.io _), ρ, i, d => ρ.set i (.io d)
  | _, ρ, _, _ => ρ
theorem setOwn_k : setOwn ρ i d = soK ρ[i]? ρ i d := by
  unfold setOwn soK
  cases h : ρ[i]? with
  | none => simp
  | some s => cases s <;> simp
theorem soK_o : soK (some (.ow e)) ρ i d = ρ.set i (.ow d) := rfl
theorem soK_i : soK (some (.io e)) ρ i d = ρ.set i (.io d) := rfl
variable {hm : PyData → List PyData → Option (PyData × PyData)}
def mutK3 (i : Nat) : Option (PyData × PyData) → Rho → Option (Sl × Rho)
  | some (r, e), ρ => some (.fz r, setOwn ρ i e)
  | none, _ => none
def mutK2 (h : PyData → List PyData → Option (PyData × PyData)) (i : Nat) : Option (List PyData) → Option PyData → Rho → Option (Sl × Rho)
  | some ds, some d, ρ => mutK3 i (h d ds) ρ
  | _, _, _ => none
def mutK1 (h : PyData → List PyData → Option (PyData × PyData)) (i : Nat) (os : List Opd) : Option (List (Option PyData) × Rho) → Option (Sl × Rho)
  | some (xs, ρ) => mutK2 h i (fins os xs ρ) (own? ρ i) ρ
  | none => none
def mutK (h : PyData → List PyData → Option (PyData × PyData)) (i : Nat) (os : List Opd) : Option PyData → Rho → Option (Sl × Rho)
  | some (.list _), ρ => mutK1 h i os (pres os ρ)
  | _, _ => none
theorem eMut_k : eMut "list" hm i os ρ = mutK hm i os (own? ρ i) ρ := by
  unfold eMut
  cases h0 : own? ρ i with
  | none => rfl
  | some d0 =>
    simp only [Option.bind_some]
    cases d0 with
    | list zs =>
      rw [if_pos (by rfl)]
      show _ = mutK1 hm i os (pres os ρ)
      cases h1 : pres os ρ with
      | none => rfl
      | some p =>
        obtain ⟨ys, q⟩ := p
        show _ = mutK2 hm i (fins os ys q) (own? q i) q
        simp only [Option.bind_some]
        cases h2 : fins os ys q with
        | none => rfl
        | some z =>
          simp only [Option.bind_some]
          cases h3 : own? q i with
          | none => rfl
          | some v =>
            show _ = mutK3 i (hm v z) q
            simp only [Option.bind_some]
            cases h4 : hm v z <;> rfl
    | _ => simp [kindD, mutK]
theorem mutK_s : mutK hm i os (some (.list ds)) ρ = mutK1 hm i os (pres os ρ) := rfl
theorem mutK1_s : mutK1 hm i os (some (xs, ρ)) = mutK2 hm i (fins os xs ρ) (own? ρ i) ρ := rfl
theorem mutK2_s : mutK2 hm i (some ds) (some d) ρ = mutK3 i (hm d ds) ρ := rfl
theorem mutK3_s : mutK3 i (some (d, e)) ρ = some (.fz d, setOwn ρ i e) := rfl
-- a def
def ioK (d : PyData) : Option (List PyData) → Option (List PyData)
  | some l => some (d :: l)
  | none => none
theorem ioOut_n : ioOut [] ρ = some [] := by cases ρ <;> rfl
variable {ms : List Bool} {sm : SM} {n : Nat}
theorem ioOut_f : ioOut (false :: ms) (s :: ρ) = ioOut ms ρ := rfl
theorem ioOut_t : ioOut (true :: ms) (.io d :: ρ) = ioK d (ioOut ms ρ) := by
  rw [ioOut]
  cases ioOut ms ρ <;> rfl
theorem ioK_s : ioK d (some ds) = some (d :: ds) := rfl
def retK2 (r : Sl) : Option (List PyData) → Option (Sl × List PyData)
  | some os => some (r, os)
  | none => none
def retK (ms : List Bool) : Option Out → Option (Sl × List PyData)
  | some (.rt r ρ) => retK2 r (ioOut ms ρ)
  | some (.nx ρ) => retK2 (.fz .none) (ioOut ms ρ)
  | _ => none
def fnMK : Bool → List Bool → Option Out → Option (Sl × List PyData)
  | true, ms, o => retK ms o
  | false, _, _ => none
theorem fnM_k : fnM n ms sm ds = fnMK (ds.length == ms.length) ms (sm (initR ms ds ++ List.replicate (n - ms.length) .un)) := by
  unfold fnM fnMK retK retK2
  cases h : (ds.length == ms.length) with
  | false =>
    have : ¬ ds.length = ms.length := by simpa using h
    rw [if_neg this]
  | true =>
    have : ds.length = ms.length := by simpa using h
    rw [if_pos this]
    cases sm (initR ms ds ++ List.replicate (n - ms.length) .un) with
    | none => rfl
    | some o =>
      simp only [Option.bind_some]
      cases o with
      | nx q => simp only; cases ioOut ms q <;> rfl
      | rt x q => simp only; cases ioOut ms q <;> rfl
      | bk q => rfl
      | ct q => rfl
theorem fnMK_t {oo : Option Out} : fnMK true ms oo = retK ms oo := rfl
theorem retK_r : retK ms (some (.rt r ρ)) = retK2 r (ioOut ms ρ) := rfl
theorem retK_n : retK ms (some (.nx ρ)) = retK2 (.fz .none) (ioOut ms ρ) := rfl
theorem retK2_s : retK2 r (some ds) = some (r, ds) := rfl
theorem initR_n : initR [] [] = [] := rfl
theorem initR_f : initR (false :: ms) (d :: ds) = .fz d :: initR ms ds := rfl
theorem initR_t : initR (true :: ms) (d :: ds) = .io d :: initR ms ds := rfl
-- reading alone
def paK : Option PyData → Option (List PyData) → Option (List PyData)
  | some d, some ds => some (d :: ds)
  | _, _ => none
variable {pm : PM} {pms : List PM}
theorem pAll_n : pAll [] ρ = some [] := rfl
theorem pAll_c : pAll (pm :: pms) ρ = paK (pm ρ) (pAll pms ρ) := by
  unfold paK
  rw [pAll]
  cases pm ρ <;> cases pAll pms ρ <;> rfl
theorem paK_s : paK (some d) (some ds) = some (d :: ds) := rfl
def pnK : Option Sl → Option PyData
  | some (.fz d) => some d
  | some (.ow d) => some d
  | some (.io d) => some d
  | _ => none
theorem pName_k : pName i ρ = pnK ρ[i]? := by
  unfold pName pnK
  cases h : ρ[i]? with
  | none => rfl
  | some s => cases s <;> rfl
theorem pnK_f : pnK (some (.fz d)) = some d := rfl
theorem pnK_o : pnK (some (.ow d)) = some d := rfl
theorem pnK_i : pnK (some (.io d)) = some d := rfl
theorem pC_k : pC d ρ = some d := rfl
def pfK2 : Option Sl → Option PyData
  | some s => s.dat
  | none => none
def pfK (g : List PyData → Option Sl) : Option (List PyData) → Option PyData
  | some ds => pfK2 (g ds)
  | none => none
theorem pFn_k : pFn g pms ρ = pfK g (pAll pms ρ) := by
  unfold pFn pfK pfK2
  cases pAll pms ρ with
  | none => rfl
  | some z => simp only [Option.bind_some]; cases g z <;> rfl
theorem pfK_s : pfK g (some ds) = pfK2 (g ds) := rfl
theorem pfK2_f : pfK2 (some (.fz d)) = some d := rfl
theorem pfK2_o : pfK2 (some (.ow d)) = some d := rfl
def pcaK2 : Option (Sl × List PyData) → Option PyData
  | some (s, []) => s.dat
  | _ => none
def pcaK (f : List PyData → Option (Sl × List PyData)) : Option (List PyData) → Option PyData
  | some ds => pcaK2 (f ds)
  | none => none
theorem pCall_k : pCall f pms ρ = pcaK f (pAll pms ρ) := by
  unfold pCall pcaK pcaK2
  cases pAll pms ρ with
  | none => rfl
  | some z => simp only [Option.bind_some]; cases f z with
    | none => rfl
    | some p => obtain ⟨s, l⟩ := p; cases l <;> rfl
theorem pcaK_s : pcaK f (some ds) = pcaK2 (f ds) := rfl
theorem pcaK2_f : pcaK2 (some (.fz d, [])) = some d := rfl
theorem pcaK2_o : pcaK2 (some (.ow d, [])) = some d := rfl
def epK : Option PyData → Rho → Option (Sl × Rho)
  | some d, ρ => if flatD d = true then some (.fz d, ρ) else none
  | none, _ => none
theorem ePure_k : ePure pm ρ = epK (pm ρ) ρ := by
  unfold ePure epK
  cases pm ρ <;> rfl
theorem epK_b : epK (some (.bool c)) ρ = some (.fz (.bool c), ρ) := rfl
theorem eDict0_k : eDict0 ρ = some (.ow (.dict []), ρ) := rfl
theorem eRng_k {lst : Bool} : eRng lst os ρ = eFn (gRng lst) os ρ := rfl
-- chains
def chK3 (b c : Opd) (x : Option PyData) (g' : List PyData → Option Sl) : Bool → Rho → Option (Sl × Rho)
  | true, ρ => (pre c ρ).bind fun r => (fin b x r.2).bind fun e' => (fin c r.1 r.2).bind fun f => (g' [e', f]).map fun s => (s, r.2)
  | false, ρ => some (.fz (.bool false), ρ)
theorem chain_k {oa ob oc : Opd} {k : Int × Int × Int} (ha : OS oa ρ (.int k.1) ρ) (hb : OS ob ρ (.int k.2.1) ρ) (hc : OS oc ρ (.int k.2.2) ρ) : eChain gLe gLe oa ob oc ρ = some (.fz (.bool (decide (k.1 ≤ k.2.1) && decide (k.2.1 ≤ k.2.2))), ρ) :=
  chain_ok (x := decide (k.1 ≤ k.2.1)) ha hb hc le_ok (fun z => by rw [le_ok, z, Bool.true_and]) fun z => by rw [z, Bool.false_and]
end
-- comprehensions, turn by turn
section
variable {d y : PyData} {ds ys : List PyData} {ρ ρ0 ρ1 : Rho} {s : Sl} {m : EM} {ta : BM} {gm : GM} {own vs : List Nat} {v : Nat}
def plK : Option Sl → Bool
  | some (.fz _) => true
  | some .un => true
  | _ => false
theorem plainS_n : plainS ρ [] = true := rfl
theorem plainS_c : plainS ρ (v :: vs) = (plK ρ[v]? && plainS ρ vs) := by
  unfold plainS plK
  rfl
theorem plK_f : plK (some (.fz d)) = true := rfl
theorem plK_u : plK (some .un) = true := rfl
theorem wipeR_n : wipeR ρ [] = ρ := rfl
theorem wipeR_c : wipeR ρ (v :: vs) = (wipeR ρ vs).set v .un := rfl
theorem backR_n : backR ρ ρ1 [] = ρ1 := rfl
theorem backR_c : backR ρ ρ1 (v :: vs) = (backR ρ ρ1 vs).set v (ρ.getD v .un) := rfl
def lmK4 (y : PyData) : Option (List PyData × Rho) → Option (List PyData × Rho)
  | some (ys, ρ) => some (y :: ys, ρ)
  | none => none
def lmK3 (g : GM) (t : BM) (e : EM) (own : List Nat) (ds : List PyData) (ρ0 : Rho) : Option (Sl × Rho) → Option (List PyData × Rho)
  | some (.fz y, ρ) => lmK4 y (lcM g t e own ds (backR ρ0 ρ own))
  | some (.ow y, ρ) => lmK4 y (lcM g t e own ds (backR ρ0 ρ own))
  | some (.io y, ρ) => lmK4 y (lcM g t e own ds (backR ρ0 ρ own))
  | _ => none
def lmK2 (g : GM) (t : BM) (e : EM) (own : List Nat) (ds : List PyData) (ρ0 : Rho) : Option (Bool × Rho) → Option (List PyData × Rho)
  | some (true, ρ) => lmK3 g t e own ds ρ0 (e ρ)
  | some (false, ρ) => lcM g t e own ds (backR ρ0 ρ own)
  | none => none
def lmK1 (g : GM) (t : BM) (e : EM) (own : List Nat) (ds : List PyData) (ρ0 : Rho) : Option Rho → Option (List PyData × Rho)
  | some ρ => lmK2 g t e own ds ρ0 (t ρ)
  | none => none
def lmK (g : GM) (t : BM) (e : EM) (own : List Nat) (ds : List PyData) (ρ0 : Rho) : Bool → Option Rho → Option (List PyData × Rho)
  | true, o => lmK1 g t e own ds ρ0 o
  | false, _ => none
theorem lcM_n : lcM gm ta m own [] ρ = some ([], ρ) := rfl
theorem lcM_c : lcM gm ta m own (d :: ds) ρ = lmK gm ta m own ds ρ (plainS ρ own) (gm d (wipeR ρ own)) := by
  rw [lcM]
  cases plainS ρ own with
  | false => rfl
  | true =>
    show _ = lmK1 gm ta m own ds ρ (gm d (wipeR ρ own))
    rw [if_pos rfl]
    cases gm d (wipeR ρ own) with
    | none => rfl
    | some q =>
      show _ = lmK2 gm ta m own ds ρ (ta q)
      simp only [Option.bind_some]
      cases ta q with
      | none => rfl
      | some p =>
        obtain ⟨c, q2⟩ := p
        cases c with
        | false => rfl
        | true =>
          show _ = lmK3 gm ta m own ds ρ (m q2)
          simp only [Option.bind_some, if_true]
          cases m q2 with
          | none => rfl
          | some z =>
            obtain ⟨s, q3⟩ := z
            cases s with
            | un => rfl
            | _ =>
              simp only [Option.bind_some, Sl.dat, lmK3, lmK4]
              cases lcM gm ta m own ds (backR ρ q3 own) <;> rfl
theorem lmK_s {o : Option Rho} : lmK gm ta m own ds ρ0 true o = lmK1 gm ta m own ds ρ0 o := rfl
theorem lmK1_s : lmK1 gm ta m own ds ρ0 (some ρ) = lmK2 gm ta m own ds ρ0 (ta ρ) := rfl
theorem lmK2_t : lmK2 gm ta m own ds ρ0 (some (true, ρ)) = lmK3 gm ta m own ds ρ0 (m ρ) := rfl
theorem lmK2_f : lmK2 gm ta m own ds ρ0 (some (false, ρ)) = lcM gm ta m own ds (backR ρ0 ρ own) := rfl
theorem lmK3_f : lmK3 gm ta m own ds ρ0 (some (.fz y, ρ)) = lmK4 y (lcM gm ta m own ds (backR ρ0 ρ own)) := rfl
theorem lmK3_o : lmK3 gm ta m own ds ρ0 (some (.ow y, ρ)) = lmK4 y (lcM gm ta m own ds (backR ρ0 ρ own)) := rfl
theorem lmK4_s : lmK4 y (some (ys, ρ)) = some (y :: ys, ρ) := rfl
-- loops, turn by turn
variable {b : SM} {r : Sl}
def fmK2 (g : GM) (b : SM) (ds : List PyData) : Option Out → Option Out
  | some (.nx ρ) => forM g b ds ρ
  | some (.ct ρ) => forM g b ds ρ
  | some (.bk ρ) => some (.nx ρ)
  | some (.rt r ρ) => some (.rt r ρ)
  | none => none
def fmK1 (g : GM) (b : SM) (ds : List PyData) : Option Rho → Option Out
  | some ρ => fmK2 g b ds (b ρ)
  | none => none
theorem forM_n : forM gm b [] ρ = some (.nx ρ) := rfl
theorem forM_c : forM gm b (d :: ds) ρ = fmK1 gm b ds (gm d ρ) := by
  rw [forM]
  cases gm d ρ with
  | none => rfl
  | some q =>
    show _ = fmK2 gm b ds (b q)
    simp only [Option.bind_some]
    cases b q with
    | none => rfl
    | some o => cases o <;> rfl
theorem fmK1_s : fmK1 gm b ds (some ρ) = fmK2 gm b ds (b ρ) := rfl
theorem fmK2_n : fmK2 gm b ds (some (.nx ρ)) = forM gm b ds ρ := rfl
theorem fmK2_c : fmK2 gm b ds (some (.ct ρ)) = forM gm b ds ρ := rfl
theorem fmK2_b : fmK2 gm b ds (some (.bk ρ)) = some (.nx ρ) := rfl
theorem fmK2_r : fmK2 gm b ds (some (.rt r ρ)) = some (.rt r ρ) := rfl
end
-- operations
theorem isa_tup_t (ds : List PyData) : isaD "tuple" (.tuple ds) = true := rfl
theorem isa_tup_n : isaD "tuple" .none = false := rfl
theorem isa_tup_i (i : Int) : isaD "tuple" (.int i) = false := rfl
theorem isa_tup_b (i : Bool) : isaD "tuple" (.bool i) = false := rfl
theorem isa_tup_s (i : Str) : isaD "tuple" (.str i) = false := rfl
theorem isa_tup_l (i : List PyData) : isaD "tuple" (.list i) = false := rfl
theorem isa_tup_d (i : List (PyData × PyData)) : isaD "tuple" (.dict i) = false := rfl
theorem isa_int_t (ds : List PyData) : isaD "int" (.tuple ds) = false := rfl
theorem isa_int_n : isaD "int" .none = false := rfl
theorem isa_int_i (i : Int) : isaD "int" (.int i) = true := rfl
theorem isa_int_b (i : Bool) : isaD "int" (.bool i) = true := rfl
theorem isa_int_s (i : Str) : isaD "int" (.str i) = false := rfl
theorem isa_int_l (i : List PyData) : isaD "int" (.list i) = false := rfl
theorem isa_int_d (i : List (PyData × PyData)) : isaD "int" (.dict i) = false := rfl
theorem isa_boo_t (ds : List PyData) : isaD "bool" (.tuple ds) = false := rfl
theorem isa_boo_n : isaD "bool" .none = false := rfl
theorem isa_boo_i (i : Int) : isaD "bool" (.int i) = false := rfl
theorem isa_boo_b (i : Bool) : isaD "bool" (.bool i) = true := rfl
theorem isa_boo_s (i : Str) : isaD "bool" (.str i) = false := rfl
theorem isa_boo_l (i : List PyData) : isaD "bool" (.list i) = false := rfl
theorem isa_boo_d (i : List (PyData × PyData)) : isaD "bool" (.dict i) = false := rfl
theorem isa_str_t (ds : List PyData) : isaD "str" (.tuple ds) = false := rfl
theorem isa_str_n : isaD "str" .none = false := rfl
theorem isa_str_i (i : Int) : isaD "str" (.int i) = false := rfl
theorem isa_str_b (i : Bool) : isaD "str" (.bool i) = false := rfl
theorem isa_str_s (i : Str) : isaD "str" (.str i) = true := rfl
theorem isa_str_l (i : List PyData) : isaD "str" (.list i) = false := rfl
theorem isa_str_d (i : List (PyData × PyData)) : isaD "str" (.dict i) = false := rfl
theorem len_t {ds : List PyData} : gLen [.tuple ds] = some (.fz (.int ds.length)) := rfl
theorem len_l {ds : List PyData} : gLen [.list ds] = some (.fz (.int ds.length)) := rfl
section
variable {a b c : PyData} {ds : List PyData} {i j : Int}
theorem ix_t0 : gIx [.tuple (a :: ds), .int 0] = some (.fz a) := by simp [gIx, atI, ixN]
theorem ix_t1 : gIx [.tuple (a :: b :: ds), .int 1] = some (.fz b) := by
  have : (1 : Int) < (ds.length : Int) + 1 + 1 := by omega
  simp [gIx, atI, ixN, this]
theorem ix_t2 : gIx [.tuple (a :: b :: c :: ds), .int 2] = some (.fz c) := by
  have : (2 : Int) < (ds.length : Int) + 1 + 1 + 1 := by omega
  simp [gIx, atI, ixN, this]
theorem ix_l0 : gIx [.list (a :: ds), .int 0] = some (.fz a) := by simp [gIx, atI, ixN]
theorem ix_l1 : gIx [.list (a :: b :: ds), .int 1] = some (.fz b) := by
  have : (1 : Int) < (ds.length : Int) + 1 + 1 := by omega
  simp [gIx, atI, ixN, this]
theorem ix_l2 : gIx [.list (a :: b :: c :: ds), .int 2] = some (.fz c) := by
  have : (2 : Int) < (ds.length : Int) + 1 + 1 + 1 := by omega
  simp [gIx, atI, ixN, this]
theorem app_k (h : ds.length < 10000) : hAppend (.list ds) [a] = some (.none, .list (ds ++ [a])) := by
  have : ds.length < sizeLine := Nat.lt_of_lt_of_le h (by decide)
  simp [hAppend, this]
theorem cast_k (n : Nat) : ((no_index (OfNat.ofNat n) : Nat) : Int) = OfNat.ofNat n := rfl
theorem sub_k : gSub [.int i, .int j] = some (.fz (.int (i - j))) := rfl
theorem neg_k : gNeg [.int i] = some (.fz (.int (-i))) := rfl
theorem ge_k : gGe [.int i, .int j] = some (.fz (.bool (decide (j ≤ i)))) := rfl
theorem isN_k : gIsN [a, .none] = some (.fz (.bool (isNone a))) := rfl
theorem notN_k : gNotN [a, .none] = some (.fz (.bool (!isNone a))) := rfl
theorem isNone_n : isNone .none = true := rfl
theorem isNone_t : isNone (.tuple ds) = false := rfl
theorem isNone_l : isNone (.list ds) = false := rfl
theorem isNone_i : isNone (.int i) = false := rfl
theorem tuple_l : gTuple [.list ds] = some (.fz (.tuple ds)) := rfl
theorem tuple_t : gTuple [.tuple ds] = some (.fz (.tuple ds)) := rfl
theorem list_l : gList [.list ds] = some (.ow (.list ds)) := rfl
theorem list_t : gList [.tuple ds] = some (.ow (.list ds)) := rfl
theorem rev_l : gRev [.list ds] = some (.ow (.list ds.reverse)) := rfl
theorem rev_t : gRev [.tuple ds] = some (.fz (.tuple ds.reverse)) := rfl
theorem min_k : gMin [.int i, .int j] = some (.fz (.int (if j < i then j else i))) := rfl
theorem eqE_t : gEqE [.tuple ds, .tuple []] = some (.fz (.bool ds.isEmpty)) := rfl
theorem isB_k {x y n : Bool} : gIsB n [.bool x, .bool y] = some (.fz (.bool (n ^^ (x == y)))) := rfl
theorem rng_k (h0 : 0 ≤ i) (h1 : i ≤ 16777216) : gRng true [.int i] = some (.ow (.list (rangeD 0 i.toNat))) := by
  show (if 0 ≤ i ∧ i ≤ 16777216 then _ else _) = _
  rw [if_pos ⟨h0, h1⟩]; rfl
end
end Vw

set_option Elab.async false
set_option linter.all false
set_option maxRecDepth 100000
/-! list comprehensions with two sources -/
namespace Vw
open PySem L2 PyProof.Rows

theorem Mv.trans {M O O1 O2 : Addr → Prop} {H H1 H2 : Hp} (a : Mv M O H O1 H1) (b : Mv M O1 H1 O2 H2) : Mv M O H O2 H2 := fun c o e n => let ⟨e1, n1⟩ := a c o e n; b c o e1 n1
theorem lc_run {K : PySem.W.Frag} {g : GM} {t : BM} {e : EM} {own ts : List Nat} (hts : ∀ t ∈ ts, t ∈ own) {M Ob : Addr → Prop} {D : Addr} {ρ0 ρ' : Rho} {σ : L2.St} {Hb H0 : Hp} {J : It} {ds ys done0 : List PyData} {acc0 : List V} {Fin : Hp → Prop}
    (S0 : Sr K (fun b => M b ∨ b = D) ρ0 σ H0) (nD : Hb D = none) (E0 : Ext Ob Hb (OO ρ0 σ) H0) (hD0 : H0 D = some (.lst acc0)) (rA0 : RepAll K (fun b => (M b ∨ b = D) ∨ OO ρ0 σ b) H0 acc0 done0)
    (Y : Yld K (fun b => M b ∨ b = D) (OO ρ0 σ) H0 J ds) (e2 : lcM g t e own ds ρ0 = some (ys, ρ')) (hlen : (done0 ++ ys).length ≤ sizeLine)
    (fin : ∀ H' acc, Sr K (fun b => M b ∨ b = D) ρ' σ H' → Ext Ob Hb (OO ρ' σ) H' → Mv (fun b => M b ∨ b = D) (OO ρ0 σ) H0 (OO ρ' σ) H' → IoK ρ0 ρ' → H' D = some (.lst acc) → RepAll K (fun b => (M b ∨ b = D) ∨ OO ρ' σ b) H' acc (done0 ++ ys) → Fin H') :
    ∃ W : Nat → Nat → Hp → Prop, (∃ m, W 0 m H0) ∧ ∀ i m H, W i m H → (J.stop i H ∧ Fin H) ∨ (J.go i H ∧ ∃ Nx : Hp → Prop, (∀ H', Nx H' → ∃ m', m' < m ∧ W (i + 1) m' H') ∧ ∀ x H', J.yld i H x H' → gM K ts g x (wipe σ own) H' fun σ2 H2 => wipe σ2 own = wipe σ own ∧ bM K t σ2 H2 fun b H3 =>
      if b = true then tM K e σ2 H3 fun y H4 => ∃ acc, H4 D = some (.lst acc) ∧ acc.length < sizeLine ∧ Nx (upd H4 D (.lst (acc ++ [y]))) else Nx H3) := by
  refine ⟨fun i m H' => ∃ ρi acc done rest, Sr K (fun b => M b ∨ b = D) ρi σ H' ∧ Ext Ob Hb (OO ρi σ) H' ∧ Mv (fun b => M b ∨ b = D) (OO ρ0 σ) H0 (OO ρi σ) H' ∧ IoK ρ0 ρi ∧ H' D = some (.lst acc) ∧ RepAll K (fun b => (M b ∨ b = D) ∨ OO ρi σ b) H' acc done ∧
    lcM g t e own (ds.drop i) ρi = some (rest, ρ') ∧ done0 ++ ys = done ++ rest ∧ m = ds.length - i ∧ i ≤ ds.length,
    ⟨_, ρ0, acc0, done0, ys, S0, E0, Ext.refl.mv, IoK.refl _, hD0, rA0, by simpa using e2, rfl, rfl, Nat.zero_le _⟩, ?_⟩
  rintro i m H' ⟨ρi, acc, done, rest, S', E', V', I', hD, rA, ef, hys, hm, hi⟩
  have lv : Live (fun b => (M b ∨ b = D) ∨ OO ρi σ b) H' := fun b z => S'.liveA b z
  have nDo : ¬ OO ρi σ D := fun z => S'.ooM z (.inr rfl)
  by_cases hlt : i < ds.length
  · refine .inr ⟨((Y _ H' V' lv i).1 hlt).1, fun H' => ∃ ρi acc done rest, Sr K (fun b => M b ∨ b = D) ρi σ H' ∧ Ext Ob Hb (OO ρi σ) H' ∧ Mv (fun b => M b ∨ b = D) (OO ρ0 σ) H0 (OO ρi σ) H' ∧ IoK ρ0 ρi ∧ H' D = some (.lst acc) ∧ RepAll K (fun b => (M b ∨ b = D) ∨ OO ρi σ b) H' acc done ∧
      lcM g t e own (ds.drop (i + 1)) ρi = some (rest, ρ') ∧ done0 ++ ys = done ++ rest, ?_, fun x H2 y => ?_⟩
    · rintro H2 ⟨ρ3, acc3, done3, rest3, h1, h2, hv, h3, h4, h5, h6, h7⟩
      exact ⟨ds.length - (i + 1), by omega, ρ3, acc3, done3, rest3, h1, h2, hv, h3, h4, h5, h6, h7, rfl, hlt⟩
    · obtain ⟨sm, d, ed, rd⟩ := ((Y _ H' V' lv i).1 hlt).2 x H2 y
      have edrop : ds.drop i = d :: ds.drop (i + 1) := by
        rw [List.drop_eq_getElem_cons hlt]
        rw [List.getElem?_eq_getElem hlt] at ed
        cases ed
        rfl
      rw [edrop] at ef
      simp only [lcM] at ef
      split at ef
      case isFalse => cases ef
      rename_i hpl
      have S2 := S'.same sm
      obtain ⟨Sw, hoo⟩ := S2.wiped hpl
      have H2D : H2 D = some (.lst acc) := sm _ _ hD
      have rd' : Rep K (fun b => (M b ∨ b = D) ∨ OO (wipeR ρi own) (wipe σ own) b) H2 x d := rd.less fun b z => z.imp id (hoo b).mp
      cases e3 : g d (wipeR ρi own) with
      | none => rw [e3] at ef; cases ef
      | some ρ3 =>
        rw [e3] at ef
        simp only [Option.bind_some] at ef
        refine ⟨_, wipeR ρi own, d, ρ3, Sw, rd', e3, fun σ2 hon A3 S3 => ⟨wipe_eq hon hts, ?_⟩⟩
        have hw := wipe_eq hon hts
        cases e4 : t ρ3 with
        | none => rw [e4] at ef; cases ef
        | some p4 =>
          obtain ⟨c, ρ4⟩ := p4
          rw [e4] at ef
          simp only [Option.bind_some] at ef
          refine ⟨_, ρ3, c, ρ4, S3, e4, fun H4 x3 x4 S4 => ?_⟩
          have E2 : Ext (OO ρi σ) H2 (OO (wipeR ρi own) (wipe σ own)) H2 := Ext.refl.less fun b z => (hoo b).mp z
          have E24 : Ext (OO ρi σ) H2 (OO ρ4 σ2) H4 := (E2.trans A3.ext).trans x3
          have I24 : IoK (wipeR ρi own) ρ4 := A3.io.trans x4
          have keepD : ∀ (ρ5 : Rho) (H5 : Hp), Ext (OO ρi σ) H2 (OO ρ5 σ2) H5 → H5 D = some (.lst acc) := fun ρ5 H5 E => E.keep D _ H2D nDo
          cases c with
          | false =>
            simp only [Bool.false_eq_true, if_false] at ef
            refine iteF ?_
            have hl4 : ρ4.length = ρi.length := I24.1.trans (wipeR_len _ _)
            obtain ⟨S5, hoo5⟩ := S2.backed hpl E24 S4 hl4 hw
            have E25 : Ext (OO ρi σ) H2 (OO (backR ρi ρ4 own) σ) H4 := E24.less hoo5
            refine ⟨_, acc, done, rest, S5, (E'.trans (Ext.same sm)).trans E25, V'.trans (((Ext.same sm).trans E25).mv), I'.trans (I24.backed hpl), keepD _ _ E24, ?_, ef, hys⟩
            exact RepAll.ext (E25) (rA.move (Same.mv sm))
          | true =>
            simp only [if_true] at ef
            refine iteT ?_
            cases e5 : e ρ4 with
            | none => rw [e5] at ef; cases ef
            | some p5 =>
              obtain ⟨r5, ρ5⟩ := p5
              rw [e5] at ef
              simp only [Option.bind_some] at ef
              refine ⟨_, ρ4, r5, ρ5, S4, e5, fun v H5 x5 x6 R5 => ?_⟩
              obtain ⟨d5, hd5, S5, rp5⟩ := R5.fz
              rw [hd5] at ef
              simp only [Option.bind_some] at ef
              cases e6 : lcM g t e own (ds.drop (i + 1)) (backR ρi ρ5 own) with
              | none => rw [e6] at ef; cases ef
              | some p6 =>
                obtain ⟨ys6, ρ6⟩ := p6
                rw [e6] at ef
                cases ef
                have E25 : Ext (OO ρi σ) H2 (OO ρ5 σ2) H5 := E24.trans x5
                have I25 := I24.trans x6
                have hl5 : ρ5.length = ρi.length := I25.1.trans (wipeR_len _ _)
                obtain ⟨S6, hoo6⟩ := S2.backed hpl E25 S5 hl5 hw
                have E26 : Ext (OO ρi σ) H2 (OO (backR ρi ρ5 own) σ) H5 := E25.less hoo6
                have H5D := keepD _ _ E25
                have rA5 : RepAll K (fun b => (M b ∨ b = D) ∨ OO (backR ρi ρ5 own) σ b) H5 acc done := RepAll.ext E26 (rA.move (Same.mv sm))
                refine ⟨acc, H5D, ?_, ?_⟩
                · have h1 := rA.length
                  rw [hys] at hlen
                  simp only [List.length_append, List.length_cons] at hlen
                  omega
                · have mvD : ∀ b o, H5 b = some o → ¬ ((M b ∨ b = D) ∨ OO (backR ρi ρ5 own) σ b) → (upd H5 D (.lst (acc ++ [v]))) b = some o ∧ ¬ ((M b ∨ b = D) ∨ OO (backR ρi ρ5 own) σ b) := fun b o e n => ⟨by rw [upd_ne fun z => n (.inl (.inr z))]; exact e, n⟩
                  refine ⟨backR ρi ρ5 own, acc ++ [v], done ++ [d5], ys6, ⟨S6.len, fun j d' e' => ?_, fun j d' e' => ?_, S6.inj, fun b z => ?_⟩, ?_, (V'.trans (((Ext.same sm).trans E26).mv)).trans mvD, I'.trans (I25.backed hpl), upd_same, ?_, e6, by simp [hys]⟩
                  · obtain ⟨v', g1, g2⟩ := S6.fz j d' e'
                    exact ⟨v', g1, g2.move mvD⟩
                  · obtain ⟨p', g1, g2, g3⟩ := S6.ow j d' e'
                    exact ⟨p', g1, g2, g3.move mvD (upd_ne fun z => g2 (.inr z))⟩
                  · by_cases hb : b = D
                    · subst hb; rw [upd_same]; exact fun z => nomatch z
                    · rw [upd_ne hb]; exact S6.mt b z
                  · have E15 := (E'.trans (Ext.same sm)).trans E26
                    refine ⟨fun b o e n => ?_, E15.nw, fun b h => ?_⟩
                    · rw [upd_ne (ne_of_none e nD)]; exact E15.keep b o e n
                    · by_cases hb : b = D
                      · subst hb; rw [upd_same]; exact fun z => nomatch z
                      · rw [upd_ne hb]; exact E15.live b h
                  · exact (rA5.append (.cons (rp5.less fun b z => z.imp id (hoo6 b)) .nil)).move mvD
  · have hi' : i = ds.length := by omega
    subst hi'
    rw [List.drop_length] at ef
    cases ef
    refine .inl ⟨(Y _ H' V' lv _).2 (Nat.le_refl _), fin H' acc S' E' V' I' hD ?_⟩
    rw [hys]
    simpa using rA
section
variable {K : PySem.W.Frag} {M : Addr → Prop} {ρ ρ1 ρ' : Rho} {σ σ2 : L2.St} {H H' : Hp} {vs : List Nat}
/-- a turn ends -/
theorem Sr.backedM (S : Sr K M ρ σ H) (h : plainS ρ vs = true) (e : Mv M (OO ρ σ) H (OO ρ' σ2) H') (S' : Sr K M ρ' σ2 H') (hl : ρ'.length = ρ.length) (hw : wipe σ2 vs = wipe σ vs) : Sr K M (backR ρ ρ' vs) σ H' ∧ ∀ b, OO (backR ρ ρ' vs) σ b → OO ρ' σ2 b := by
  have hs : ∀ i, i ∉ vs → σ2[i]? = σ[i]? := fun i hi => by rw [← wipe_out σ2 hi, hw, wipe_out σ hi]
  have ows : ∀ i, Ows (backR ρ ρ' vs) i → i ∉ vs ∧ Ows ρ' i := fun i ⟨d, e⟩ => by
    have hi : i ∉ vs := fun hi => by
      rw [backR_in ρ ρ' hl hi (plainS_get h hi).1] at e
      exact (plainS_get h hi).2 ⟨d, e⟩
    rw [backR_out ρ ρ' hi] at e
    exact ⟨hi, d, e⟩
  have hoo : ∀ b, OO (backR ρ ρ' vs) σ b → OO ρ' σ2 b := fun b ⟨i, h1, h2⟩ => by
    obtain ⟨hi, h3⟩ := ows i h1
    exact ⟨i, h3, by rw [hs i hi]; exact h2⟩
  refine ⟨⟨by rw [backR_len, hl, S.len], fun i d ed => ?_, fun i d ed => ?_, fun i j p h1 h2 h3 h4 => ?_, S'.mt⟩, hoo⟩
  · by_cases hi : i ∈ vs
    · rw [backR_in ρ ρ' hl hi (plainS_get h hi).1] at ed
      obtain ⟨v, h1, h2⟩ := S.fz i d ed
      exact ⟨v, h1, (h2.move e).less fun b z => z.imp id (hoo b)⟩
    · rw [backR_out ρ ρ' hi] at ed
      obtain ⟨v, h1, h2⟩ := S'.fz i d ed
      exact ⟨v, by rw [← hs i hi]; exact h1, h2.less fun b z => z.imp id (hoo b)⟩
  · obtain ⟨hi, _⟩ := ows i ⟨d, ed⟩
    rw [backR_out ρ ρ' hi] at ed
    obtain ⟨p, h1, h2, h3⟩ := S'.ow i d ed
    exact ⟨p, by rw [← hs i hi]; exact h1, h2, h3.move (fun b o e n => ⟨e, fun z => n (z.imp id (hoo b))⟩) rfl⟩
  · obtain ⟨hi, g1⟩ := ows i h1
    obtain ⟨hj, g2⟩ := ows j h2
    rw [← hs i hi] at h3
    rw [← hs j hj] at h4
    exact S'.inj i j p g1 g2 h3 h4
end
def lcM2 (g : GM) (t : BM) (src1 : IM) (g1 : GM) (t1 : BM) (e : EM) (own vs1 : List Nat) : List PyData → Rho → Option (List PyData × Rho)
  | [], ρ => some ([], ρ)
  | d :: ds, ρ => if plainS ρ own = true then (g d (wipeR ρ own)).bind fun ρ1 => (t ρ1).bind fun p => if p.1 = true then
        (src1 p.2).bind fun q => (lcM g1 t1 e vs1 q.1 q.2).bind fun z => (lcM2 g t src1 g1 t1 e own vs1 ds (backR ρ z.2 own)).map fun y => (z.1 ++ y.1, y.2)
      else lcM2 g t src1 g1 t1 e own vs1 ds (backR ρ p.2 own)
    else none
def eLc2 (src : IM) (g : GM) (t : BM) (src1 : IM) (g1 : GM) (t1 : BM) (e : EM) (own vs1 : List Nat) : EM := fun ρ => (src ρ).bind fun p => (lcM2 g t src1 g1 t1 e own vs1 p.1 p.2).bind fun q => if q.1.length ≤ sizeLine then some (.ow (.list q.1), q.2) else none
theorem tM_lc2 {K : PySem.W.Frag} {src src1 : IM} {g g1 : GM} {t t1 : BM} {e : EM} {own ts vs1 ts1 : List Nat} (hts : ∀ t ∈ ts, t ∈ own) (hts1 : ∀ t ∈ ts1, t ∈ vs1) {σ : L2.St} {H : Hp} {Q : VK} (q : tM K (eLc2 src g t src1 g1 t1 e own vs1) σ H Q) : tLc2 (jM K src) (gM K ts g) (bM K t) (jM K src1) (gM K ts1 g1) (bM K t1) (tM K e) own vs1 σ H Q := by
  obtain ⟨M, ρ, r, ρ', S, ee, k⟩ := q
  unfold eLc2 at ee
  cases e1 : src ρ with
  | none => rw [e1] at ee; cases ee
  | some p =>
    obtain ⟨ds, ρ1⟩ := p
    rw [e1] at ee
    simp only [Option.bind_some] at ee
    cases e2 : lcM2 g t src1 g1 t1 e own vs1 ds ρ1 with
    | none => rw [e2] at ee; cases ee
    | some p2 =>
      obtain ⟨ys, ρ2⟩ := p2
      rw [e2] at ee
      simp only [Option.bind_some] at ee
      split at ee
      case isFalse => cases ee
      rename_i hlen
      cases ee
      refine ⟨M, ρ, ds, ρ1, S, e1, fun J H1 x1 x2 S1 Y D nD => ?_⟩
      have smD : Same H1 (upd H1 D (.lst [])) := same_upd nD _
      have SD : Sr K (fun b => M b ∨ b = D) ρ1 σ (upd H1 D (.lst [])) := S1.moreM smD nD (by rw [upd_same]; exact fun z => nomatch z)
      refine ⟨fun i m H' => ∃ ρi acc done rest, Sr K (fun b => M b ∨ b = D) ρi σ H' ∧ Ext (OO ρ1 σ) H1 (OO ρi σ) H' ∧ IoK ρ1 ρi ∧ H' D = some (.lst acc) ∧ RepAll K (fun b => (M b ∨ b = D) ∨ OO ρi σ b) H' acc done ∧
        lcM2 g t src1 g1 t1 e own vs1 (ds.drop i) ρi = some (rest, ρ') ∧ ys = done ++ rest ∧ m = ds.length - i ∧ i ≤ ds.length,
        ⟨_, ρ1, [], [], ys, SD, Ext.same smD, IoK.refl _, upd_same, .nil, by simpa using e2, rfl, rfl, Nat.zero_le _⟩, ?_⟩
      rintro i m H' ⟨ρi, acc, done, rest, S', E', I', hD, rA, ef, hys, hm, hi⟩
      have lv : Live (fun b => M b ∨ OO ρi σ b) H' := fun b z => S'.liveA b (z.imp .inl id)
      have nDo : ¬ OO ρi σ D := fun z => S'.ooM z (.inr rfl)
      by_cases hlt : i < ds.length
      · refine .inr ⟨((Y _ H' E'.mv lv i).1 hlt).1, fun H' => ∃ ρi acc done rest, Sr K (fun b => M b ∨ b = D) ρi σ H' ∧ Ext (OO ρ1 σ) H1 (OO ρi σ) H' ∧ IoK ρ1 ρi ∧ H' D = some (.lst acc) ∧ RepAll K (fun b => (M b ∨ b = D) ∨ OO ρi σ b) H' acc done ∧
          lcM2 g t src1 g1 t1 e own vs1 (ds.drop (i + 1)) ρi = some (rest, ρ') ∧ ys = done ++ rest, ?_, fun x H2 y => ?_⟩
        · rintro H2 ⟨ρ3, acc3, done3, rest3, h1, h2, h3, h4, h5, h6, h7⟩
          exact ⟨ds.length - (i + 1), by omega, ρ3, acc3, done3, rest3, h1, h2, h3, h4, h5, h6, h7, rfl, hlt⟩
        · obtain ⟨sm, d, ed, rd⟩ := ((Y _ H' E'.mv lv i).1 hlt).2 x H2 y
          have edrop : ds.drop i = d :: ds.drop (i + 1) := by
            rw [List.drop_eq_getElem_cons hlt]
            rw [List.getElem?_eq_getElem hlt] at ed
            cases ed
            rfl
          rw [edrop] at ef
          simp only [lcM2] at ef
          split at ef
          case isFalse => cases ef
          rename_i hpl
          have S2 := S'.same sm
          obtain ⟨Sw, hoo⟩ := S2.wiped hpl
          have H2D : H2 D = some (.lst acc) := sm _ _ hD
          -- the item does not reach the new list: it stood, or is a new pair, ahead of it
          have rd' : Rep K (fun b => (M b ∨ b = D) ∨ OO (wipeR ρi own) (wipe σ own) b) H2 x d := by
            have Y2 := ((Y (fun b => OO ρi σ b ∨ b = D) H' (Ext.mv (O := OO ρ1 σ) ⟨fun b o e n => E'.keep b o e fun z => n z, fun b z => z.elim (E'.nw b) fun z => .inr (z ▸ nD), E'.live⟩) (fun b z => ?_) i).1 hlt).2 x H2 y
            · obtain ⟨_, d2, ed2, rd2⟩ := Y2
              rw [ed] at ed2
              cases ed2
              exact rd2.less fun b z => z.elim (fun z => z.elim .inl fun z => .inr (.inr z)) fun z => .inr (.inl ((hoo b).mp z))
            · rcases z with z | z | z
              · exact lv b (.inl z)
              · exact lv b (.inr z)
              · subst z; rw [hD]; exact fun z => nomatch z
          cases e3 : g d (wipeR ρi own) with
          | none => rw [e3] at ef; cases ef
          | some ρ3 =>
            rw [e3] at ef
            simp only [Option.bind_some] at ef
            refine ⟨_, wipeR ρi own, d, ρ3, Sw, rd', e3, fun σ2 hon A3 S3 => ⟨wipe_eq hon hts, ?_⟩⟩
            have hw := wipe_eq hon hts
            cases e4 : t ρ3 with
            | none => rw [e4] at ef; cases ef
            | some p4 =>
              obtain ⟨c, ρ4⟩ := p4
              rw [e4] at ef
              simp only [Option.bind_some] at ef
              refine ⟨_, ρ3, c, ρ4, S3, e4, fun H4 x3 x4 S4 => ?_⟩
              have E2 : Ext (OO ρi σ) H2 (OO (wipeR ρi own) (wipe σ own)) H2 := Ext.refl.less fun b z => (hoo b).mp z
              have E24 : Ext (OO ρi σ) H2 (OO ρ4 σ2) H4 := (E2.trans A3.ext).trans x3
              have I24 : IoK (wipeR ρi own) ρ4 := A3.io.trans x4
              have keepD : ∀ (ρ5 : Rho) (H5 : Hp), Ext (OO ρi σ) H2 (OO ρ5 σ2) H5 → H5 D = some (.lst acc) := fun ρ5 H5 E => E.keep D _ H2D nDo
              cases c with
              | false =>
                simp only [Bool.false_eq_true, if_false] at ef
                refine iteF ?_
                have hl4 : ρ4.length = ρi.length := I24.1.trans (wipeR_len _ _)
                obtain ⟨S5, hoo5⟩ := S2.backed hpl E24 S4 hl4 hw
                have E25 : Ext (OO ρi σ) H2 (OO (backR ρi ρ4 own) σ) H4 := E24.less hoo5
                refine ⟨_, acc, done, rest, S5, (E'.trans (Ext.same sm)).trans E25, I'.trans (I24.backed hpl), keepD _ _ E24, ?_, ef, hys⟩
                exact RepAll.ext (E25) (rA.move (Same.mv sm))
              | true =>
                simp only [if_true] at ef
                refine iteT ?_
                cases e5 : src1 ρ4 with
                | none => rw [e5] at ef; cases ef
                | some p5 =>
                  obtain ⟨ds1, ρ5⟩ := p5
                  rw [e5] at ef
                  simp only [Option.bind_some] at ef
                  cases e6 : lcM g1 t1 e vs1 ds1 ρ5 with
                  | none => rw [e6] at ef; cases ef
                  | some p6 =>
                    obtain ⟨ys6, ρ6⟩ := p6
                    rw [e6] at ef
                    simp only [Option.bind_some] at ef
                    cases e7 : lcM2 g t src1 g1 t1 e own vs1 (ds.drop (i + 1)) (backR ρi ρ6 own) with
                    | none => rw [e7] at ef; cases ef
                    | some p7 =>
                      obtain ⟨ys7, ρ7⟩ := p7
                      rw [e7] at ef
                      cases ef
                      refine ⟨_, ρ4, ds1, ρ5, S4, e5, fun J1 H5 x5 x6 S5 Y1 => ?_⟩
                      have E25 : Ext (OO ρi σ) H2 (OO ρ5 σ2) H5 := E24.trans x5
                      have I25 := I24.trans x6
                      refine lc_run hts1 S5 nD ((E'.trans (Ext.same sm)).trans E25) (keepD _ _ E25) (RepAll.ext E25 (rA.move (Same.mv sm))) Y1 e6 ?_ fun H6 acc6 S6 E6 V6 I6 hD6 rA6 => ?_
                      · rw [hys] at hlen
                        simp only [List.length_append] at hlen ⊢
                        omega
                      · have I26 := I25.trans I6
                        have hl6 : ρ6.length = ρi.length := I26.1.trans (wipeR_len _ _)
                        obtain ⟨S7, hoo7⟩ := S2.backedM hpl (Mv.trans E25.mv V6) S6 hl6 hw
                        refine ⟨backR ρi ρ6 own, acc6, done ++ ys6, ys7, S7, E6.less hoo7, I'.trans (I26.backed hpl), hD6, ?_, e7, by simp [hys]⟩
                        exact rA6.less fun b z => z.imp id (hoo7 b)
      · have hi' : i = ds.length := by omega
        subst hi'
        rw [List.drop_length] at ef
        cases ef
        refine .inl ⟨(Y _ H' E'.mv lv _).2 (Nat.le_refl _), k _ H' (x1.trans E') (x2.trans I') ⟨D, rfl, .inr (Classical.byContradiction fun z => x1.live D z nD), fun z => S1.mt D z nD, S', ?_⟩⟩
        exact ⟨acc, hD, by rw [hys]; simpa using rA⟩
section
variable {X : Cx}
theorem x_lc2 {elt tg iter tg1 iter1 : Expr} {ifs ifs1 : List Expr} {scope : Scope} {own : List (Str × Nat)} {ts vs1 ts1 : List Nat} {pos : Pos} {src src1 : IM} {g g1 : GM} {t t1 : BM} {e : EM} (hc : X.calm = true) (hN : X.N.Nodup) (hi : XI X tg iter src) (ok : BlkOk X.N X.env.scope scope own) (hv : ∀ i ∈ vs1, i ∈ own.map (·.2)) (hts : ∀ t ∈ ts, t ∈ own.map (·.2)) (hts1 : ∀ t ∈ ts1, t ∈ vs1)
    (hg : ∀ (s : Shared) (H : Hp) (C : Addr) (cl : List (Str × Addr)) (fp : List Addr), XG (X.blk s H scope (compEnvC scope cl C X.env) fp) tg ts g) (ht : ∀ (s : Shared) (H : Hp) (C : Addr) (cl : List (Str × Addr)) (fp : List Addr), XTs (X.blk s H scope (compEnvC scope cl C X.env) fp) ifs t)
    (hi1 : ∀ (s : Shared) (H : Hp) (C : Addr) (cl : List (Str × Addr)) (fp : List Addr), XI (X.blk s H scope (compEnvC scope cl C X.env) fp) tg1 iter1 src1)
    (hg1 : ∀ (s : Shared) (H : Hp) (C : Addr) (cl : List (Str × Addr)) (fp : List Addr), XG (X.blk s H scope (compEnvC scope cl C X.env) fp) tg1 ts1 g1) (ht1 : ∀ (s : Shared) (H : Hp) (C : Addr) (cl : List (Str × Addr)) (fp : List Addr), XTs (X.blk s H scope (compEnvC scope cl C X.env) fp) ifs1 t1)
    (he : ∀ (s : Shared) (H : Hp) (C : Addr) (cl : List (Str × Addr)) (fp : List Addr), XE (X.blk s H scope (compEnvC scope cl C X.env) fp) elt e) (hs : ∀ x, foldedSetIterable iter X.env x = pure x := by intro _; rfl) (hs1 : ∀ env x, foldedSetIterable iter1 env x = pure x := by intro _ _; rfl) :
    XE X (.ListComp elt [⟨tg, iter, ifs, 0⟩, ⟨tg1, iter1, ifs1, 0⟩] scope pos) (eLc2 src g t src1 g1 t1 e (own.map (·.2)) vs1) := pe_imp (pe_lc2 hc hN hi ok hv hg ht hi1 hg1 ht1 he hs hs1) fun σ H Q q => tM_lc2 hts hts1 q
theorem s_setLc2 {i : Nat} {y : Str} {py : Pos} {elt tg iter tg1 iter1 : Expr} {ifs ifs1 : List Expr} {scope : Scope} {own : List (Str × Nat)} {ts vs1 ts1 : List Nat} {pos spos : Pos} {src src1 : IM} {g g1 : GM} {t t1 : BM} {e : EM} (hc : X.calm = true) (hN : X.N.Nodup) (hy : X.N[i]? = some y) (hyl : X.env.scope.names.lookup y = some .local)
    (hsw : swapsWith (.ListComp elt [⟨tg, iter, ifs, 0⟩, ⟨tg1, iter1, ifs1, 0⟩] scope pos) (some (.Name y py)) spos.line X.env = pure true) (hi : XI X tg iter src) (ok : BlkOk X.N X.env.scope scope own) (hv : ∀ i ∈ vs1, i ∈ own.map (·.2)) (hts : ∀ t ∈ ts, t ∈ own.map (·.2)) (hts1 : ∀ t ∈ ts1, t ∈ vs1)
    (hg : ∀ (s : Shared) (H : Hp) (C : Addr) (cl : List (Str × Addr)) (fp : List Addr), XG (X.blk s H scope (compEnvC scope cl C X.env) fp) tg ts g) (ht : ∀ (s : Shared) (H : Hp) (C : Addr) (cl : List (Str × Addr)) (fp : List Addr), XTs (X.blk s H scope (compEnvC scope cl C X.env) fp) ifs t)
    (hi1 : ∀ (s : Shared) (H : Hp) (C : Addr) (cl : List (Str × Addr)) (fp : List Addr), XI (X.blk s H scope (compEnvC scope cl C X.env) fp) tg1 iter1 src1)
    (hg1 : ∀ (s : Shared) (H : Hp) (C : Addr) (cl : List (Str × Addr)) (fp : List Addr), XG (X.blk s H scope (compEnvC scope cl C X.env) fp) tg1 ts1 g1) (ht1 : ∀ (s : Shared) (H : Hp) (C : Addr) (cl : List (Str × Addr)) (fp : List Addr), XTs (X.blk s H scope (compEnvC scope cl C X.env) fp) ifs1 t1)
    (he : ∀ (s : Shared) (H : Hp) (C : Addr) (cl : List (Str × Addr)) (fp : List Addr), XE (X.blk s H scope (compEnvC scope cl C X.env) fp) elt e) (hs : ∀ x, foldedSetIterable iter X.env x = pure x := by intro _; rfl) (hs1 : ∀ env x, foldedSetIterable iter1 env x = pure x := by intro _ _; rfl) :
    XS X (.Assign [.Name y py] (.ListComp elt [⟨tg, iter, ifs, 0⟩, ⟨tg1, iter1, ifs1, 0⟩] scope pos) spos) (sSet i (eLc2 src g t src1 g1 t1 e (own.map (·.2)) vs1)) := ps_imp (ps_setLc2 hc hN hy hyl hsw hi ok hv hg ht hi1 hg1 ht1 he hs hs1) fun D σ H q => tM_lc2 hts hts1 (sM_set q)
end
end Vw

set_option Elab.async false
set_option linter.all false
set_option maxRecDepth 100000
set_option maxHeartbeats 4000000
/-! dicts: d[k], k in d, d[k] = v -/
namespace Vw
open PySem PySem.W PyProof.Rows L2

/-! ### of the heap -/
section
variable {P : Program} {w : World} {A : Around} {E : Value → Shared → Prop} {s : Shared} {d : Addr} {es : Array DictEntry} {ep : Nat} {kds : List PyData} {u : Value} {kd : PyData} {k : NestedKey}
theorem get_key {Q : Option Value → Shared → Prop} (hu : A.units + 8 < cLine) (hk : nk kd = some k) (h8 : k.depth ≤ 8) (hx : NestedIs s.heap k u)
    (ho : s.heap.get? d = some (dicObj es ep)) (ka : KeysAre s.heap es kds) (q0 : (∀ j : Nat, kds[j]? ≠ some kd) → Q none { s with toks := s.toks + k.draws }) (q1 : ∀ (j : Nat) (e : DictEntry), kds[j]? = some kd → es[j]? = some e → Q (some e.val) { s with toks := s.toks + k.draws }) :
    wpAny (model P w) A (dictGet d u) Q E s := by
  unfold dictGet
  try with_reducible refine wpAny_holding ?_
  refine wpAny_bind (pyHash_key k u A s _ hx (by omega) ?_)
  rw [nk_hash w kd k hk]
  refine wpAny_bind (find_key (s := { s with toks := s.toks + k.draws }) hu hk h8 hx ho rfl ka ?_ ?_)
  · intro h
    exact wpAny_pure (q0 h)
  · intro j hj
    refine wpAny_bind (wpAny_dictEntries (s := { s with toks := s.toks + k.draws }) ho rfl ?_)
    have hl : j < es.size := by rw [ka.len]; exact (List.getElem?_eq_some_iff.mp hj).1
    rw [Array.getElem?_eq_getElem hl]
    exact wpAny_pure (q1 j _ hj (Array.getElem?_eq_getElem hl))
theorem dic_typeIs (ho : s.heap.get? d = some (dicObj es ep)) : s.TypeIs (.ref d) "dict" := ⟨_, ho, rfl⟩
theorem contains_key {Q : Bool → Shared → Prop} (hu : A.units + 9 < cLine) (hd : (d == sysModules) = false) (hk : nk kd = some k) (h8 : k.depth ≤ 8) (hx : NestedIs s.heap k u)
    (ho : s.heap.get? d = some (dicObj es ep)) (ka : KeysAre s.heap es kds) (q0 : (∀ j : Nat, kds[j]? ≠ some kd) → Q false { s with toks := s.toks + k.draws }) (q1 : ∀ (j : Nat), kds[j]? = some kd → Q true { s with toks := s.toks + k.draws }) :
    wpAny (model P w) A (contains (.ref d) u) Q E s := by
  refine wpAny_contains_slot (dic_typeIs ho) F.slot_dict_contains ?_
  refine call_meetsIn F.slot_dict_contains (dic_typeIs ho) F.entry_dict_contains (F.args_dict_contains_2 _ _) (S := fun A' R s' => A' = A ∧ s' = s ∧ ((∀ j : Nat, kds[j]? ≠ some kd) → R (.ok (.ret (.bool false))) { s with toks := s.toks + k.draws }) ∧ (∀ (j : Nat), kds[j]? = some kd → R (.ok (.ret (.bool true))) { s with toks := s.toks + k.draws })) (fun A' R s' hS => ?_) ⟨rfl, rfl, fun h => ?_, fun j h => ?_⟩
  · obtain ⟨rfl, rfl, r0, r1⟩ := hS
    show wpAny _ _ (dictGet d u >>= _) _ _ _
    refine wpAny_bind (get_key (by show A'.in1.units + 8 < cLine; rw [Around.in1_units]; omega) hk h8 hx ho ka (fun h => ?_) fun j e h _ => ?_)
    · show wpAny _ _ (Builtin.Dict.pendingKey? d u >>= _) _ _ _
      exact wpAny_bind (wpAny_pendingKey_other hd (wpAny_pure (r0 h)))
    · show wpAny _ _ (ret (.bool true)) _ _ _
      exact wpAny_pure (r1 j h)
  · exact wpAny_truthy_bool (q0 h)
  · exact wpAny_truthy_bool (q1 j h)
theorem in_key {Q : Value → Shared → Prop} (hu : A.units + 9 < cLine) (hd : (d == sysModules) = false) (hk : nk kd = some k) (h8 : k.depth ≤ 8) (hx : NestedIs s.heap k u)
    (ho : s.heap.get? d = some (dicObj es ep)) (ka : KeysAre s.heap es kds) (q0 : (∀ j : Nat, kds[j]? ≠ some kd) → Q (.bool false) { s with toks := s.toks + k.draws }) (q1 : ∀ (j : Nat), kds[j]? = some kd → Q (.bool true) { s with toks := s.toks + k.draws }) :
    wpAny (model P w) A (compareOp .In u (.ref d)) Q E s := by
  show wpAny _ _ (do return .bool (← contains (.ref d) u)) Q E s
  exact wpAny_bind (contains_key hu hd hk h8 hx ho ka (fun h => wpAny_pure (q0 h)) fun j h => wpAny_pure (q1 j h))
theorem notIn_key {Q : Value → Shared → Prop} (hu : A.units + 9 < cLine) (hd : (d == sysModules) = false) (hk : nk kd = some k) (h8 : k.depth ≤ 8) (hx : NestedIs s.heap k u)
    (ho : s.heap.get? d = some (dicObj es ep)) (ka : KeysAre s.heap es kds) (q0 : (∀ j : Nat, kds[j]? ≠ some kd) → Q (.bool true) { s with toks := s.toks + k.draws }) (q1 : ∀ (j : Nat), kds[j]? = some kd → Q (.bool false) { s with toks := s.toks + k.draws }) :
    wpAny (model P w) A (compareOp .NotIn u (.ref d)) Q E s := by
  show wpAny _ _ (do return .bool (!(← contains (.ref d) u))) Q E s
  exact wpAny_bind (contains_key hu hd hk h8 hx ho ka (fun h => wpAny_pure (q0 h)) fun j h => wpAny_pure (q1 j h))
theorem getItem_key {Q : Value → Shared → Prop} {j : Nat} {e : DictEntry} (hu : A.units + 9 < cLine) (hk : nk kd = some k) (h8 : k.depth ≤ 8) (hx : NestedIs s.heap k u)
    (ho : s.heap.get? d = some (dicObj es ep)) (ka : KeysAre s.heap es kds) (hj : kds[j]? = some kd) (he : es[j]? = some e) (q : Q e.val { s with toks := s.toks + k.draws }) :
    wpAny (model P w) A (getItem (.ref d) u) Q E s := by
  unfold getItem
  try with_reducible refine wpAny_holding ?_
  refine wpAny_bind (wpAny_sequenceKey (dic_typeIs ho) (by decide) ?_)
  refine wpAny_bind (wpAny_callSpecial?_slot (name := Str.ofString "__getitem__") (dic_typeIs ho) F.slot_dict_getitem
    (wpAny_call_entry F.slot_dict_getitem (dic_typeIs ho) F.entry_dict_getitem ?_ (F.args_dict_getitem_2 _ _)))
  show wpAny _ _ (dictGet d u >>= _) _ _ s
  refine wpAny_bind (get_key (by rw [Around.in1_units]; omega) hk h8 hx ho ka (fun h => (h j hj).elim) fun j' e' h' he' => ?_)
  have e1 : j' = j := (List.getElem?_inj (List.getElem?_eq_some_iff.mp h').1 ka.nodup).mp (h'.trans hj.symm)
  subst e1
  rw [he] at he'
  cases he'
  exact wpAny_pure ⟨e.val, rfl, wpAny_pure q⟩
theorem set_key {v : Value} {Q : Unit → Shared → Prop} (hu : A.units + 8 < cLine) (hz : es.size ≤ sizeLine) (hk : nk kd = some k) (h8 : k.depth ≤ 8) (hx : NestedIs s.heap k u)
    (ho : s.heap.get? d = some (dicObj es ep)) (ka : KeysAre s.heap es kds)
    (q0 : (∀ j : Nat, kds[j]? ≠ some kd) → ∀ h', h'.get? d = some (dicObj (es.push ⟨kh kd, u, v⟩) (ep + 1)) → Heap.SameBut d s.heap h' → Q () { s with heap := h', toks := s.toks + k.draws })
    (q1 : ∀ (j : Nat), kds[j]? = some kd → ∀ h', h'.get? d = some (dicObj (es.modify j fun e => { e with val := v }) ep) → Heap.SameBut d s.heap h' → Q () { s with heap := h', toks := s.toks + k.draws }) :
    wpAny (model P w) A (dictSet d u v) Q E s := by
  unfold dictSet
  try with_reducible refine wpAny_holding ?_
  refine wpAny_bind (pyHash_key k u A s _ hx (by omega) ?_)
  rw [nk_hash w kd k hk]
  unfold dictSetHashed
  try with_reducible refine wpAny_holding ?_
  refine wpAny_bind (find_key (s := { s with toks := s.toks + k.draws }) hu hk h8 hx ho rfl ka ?_ ?_)
  · intro h
    exact wpAny_bind (wpAny_rule (wpAny_updateDictKeys (hz := hz) (s := { s with toks := s.toks + k.draws }) ho rfl (q0 h _ (Heap.get?_update_self _ ho rfl) (Heap.SameBut.update ..))))
  · intro j hj
    exact wpAny_bind (wpAny_rule (wpAny_bind (wpAny_updateDict (s := { s with toks := s.toks + k.draws }) ho rfl (wpAny_point (q1 j hj _ (Heap.get?_update_self _ ho rfl) (Heap.SameBut.update ..))))))
theorem setItem_key {v : Value} {Q : Unit → Shared → Prop} (hu : A.units + 9 < cLine) (hz : es.size ≤ sizeLine) (hk : nk kd = some k) (h8 : k.depth ≤ 8) (hx : NestedIs s.heap k u)
    (ho : s.heap.get? d = some (dicObj es ep)) (ka : KeysAre s.heap es kds)
    (q0 : (∀ j : Nat, kds[j]? ≠ some kd) → ∀ h', h'.get? d = some (dicObj (es.push ⟨kh kd, u, v⟩) (ep + 1)) → Heap.SameBut d s.heap h' → Q () { s with heap := h', toks := s.toks + k.draws })
    (q1 : ∀ (j : Nat), kds[j]? = some kd → ∀ h', h'.get? d = some (dicObj (es.modify j fun e => { e with val := v }) ep) → Heap.SameBut d s.heap h' → Q () { s with heap := h', toks := s.toks + k.draws }) :
    wpAny (model P w) A (setItem (.ref d) u v) Q E s := by
  unfold setItem
  try with_reducible refine wpAny_holding ?_
  refine wpAny_bind (wpAny_sequenceKey (dic_typeIs ho) (by decide) ?_)
  refine wpAny_bind (wpAny_callSpecial?_slot (name := Str.ofString "__setitem__") (dic_typeIs ho) F.slot_dict_setitem
    (wpAny_call_entry F.slot_dict_setitem (dic_typeIs ho) F.entry_dict_setitem ?_ (F.args_dict_setitem_3 _ _ _)))
  show wpAny _ _ (Builtin.Dict.notOrdered "__setitem__" ⟨[.ref d, u, v], []⟩ >>= _) _ _ s
  refine wpAny_bind (wpAny_notOrdered_dict (dic_typeIs ho) ?_)
  show wpAny _ _ (dictSet d u v >>= _) _ _ s
  exact wpAny_bind (set_key (by rw [Around.in1_units]; omega) hz hk h8 hx ho ka (fun h h' a b => wpAny_pure ⟨.none, rfl, wpAny_pure (q0 h h' a b)⟩) fun j h h' a b => wpAny_pure ⟨.none, rfl, wpAny_pure (q1 j h h' a b)⟩)
end

/-! ### by data -/
mutual
theorem nk_deep : ∀ (d : PyData) (k : NestedKey), nk d = some k → d.depth ≤ k.depth
  | .none, k, h => by rw [PyData.depth]; exact Nat.zero_le _
  | .int i, k, h => by rw [PyData.depth]; exact Nat.zero_le _
  | .tuple ds, k, h => by
    obtain ⟨ks, e, rfl⟩ := nk_tup h
    have := nks_deep ds ks e
    rw [PyData.depth, NestedKey.depth]
    omega
  | .bool _, k, h => by cases h
  | .str _, k, h => by cases h
  | .list _, k, h => by cases h
  | .dict _, k, h => by cases h
theorem nks_deep : ∀ (ds : List PyData) (ks : List NestedKey), nks ds = some ks → PyData.depthAll ds ≤ NestedKey.depthAll ks
  | [], ks, h => by rw [PyData.depthAll]; exact Nat.zero_le _
  | d :: ds, l, h => by
    obtain ⟨k, ks, e1, e2, rfl⟩ := nks_cons h
    have a := nk_deep d k e1
    have b := nks_deep ds ks e2
    rw [PyData.depthAll, NestedKey.depthAll]
    omega
end
theorem nk_read {d : PyData} {k : NestedKey} (h : nk d = some k) (h8 : k.depth ≤ 8) : d.depth ≤ 60 := by
  have := nk_deep d k h
  omega
theorem okK_reads : ∀ {l : List PyData}, (∀ d ∈ l, okK d) → PyData.depthAll l ≤ 60
  | [], _ => by rw [PyData.depthAll]; exact Nat.zero_le _
  | d :: l, h => by
    obtain ⟨k, e, h8⟩ := h d List.mem_cons_self
    rw [PyData.depthAll]
    exact Nat.max_le.mpr ⟨nk_read e h8, okK_reads fun d hd => h d (List.mem_cons_of_mem _ hd)⟩
def okKB (d : PyData) : Bool := match nk d with
  | some k => decide (k.depth ≤ 8)
  | none => false
theorem okK_of {d : PyData} (h : okKB d = true) : okK d := by
  unfold okKB at h
  cases e : nk d with
  | none => rw [e] at h; cases h
  | some k => rw [e] at h; exact ⟨k, e, of_decide_eq_true h⟩
theorem okK_inj {d e : PyData} (h : okK d) (q : nk e = nk d) : e = d := by
  obtain ⟨k, h1, _⟩ := h
  exact nk_inj e d k (q.trans h1) h1
/-- what a dict holds for a key -/
def lookD : List (PyData × PyData) → PyData → Option PyData
  | [], _ => none
  | p :: ds, k => if nk p.1 = nk k then some p.2 else lookD ds k
/-- a dict behind d[k] = y -/
def putD : List (PyData × PyData) → PyData → PyData → List (PyData × PyData)
  | [], k, y => [(k, y)]
  | p :: ds, k, y => if nk p.1 = nk k then (p.1, y) :: ds else p :: putD ds k y
theorem lookD_none {ds : List (PyData × PyData)} {k : PyData} (hk : okK k) (h : lookD ds k = none) : ∀ j : Nat, (ds.map (·.1))[j]? ≠ some k := by
  induction ds with
  | nil => intro j e; simp at e
  | cons p ds ih =>
    unfold lookD at h
    split at h
    · cases h
    · rename_i hn
      intro j e
      cases j with
      | zero => simp at e; exact hn (by rw [e])
      | succ j => exact ih h j (by simpa using e)
theorem lookD_some {ds : List (PyData × PyData)} {k y : PyData} (hk : okK k) (h : lookD ds k = some y) : ∃ j : Nat, (ds.map (·.1))[j]? = some k ∧ (ds.map (·.2))[j]? = some y := by
  induction ds with
  | nil => cases h
  | cons p ds ih =>
    unfold lookD at h
    split at h
    · rename_i hn
      cases h
      exact ⟨0, by simp [okK_inj hk hn], by simp⟩
    · obtain ⟨j, h1, h2⟩ := ih h
      exact ⟨j + 1, by simpa using h1, by simpa using h2⟩
theorem putD_new {ds : List (PyData × PyData)} {k y : PyData} (hk : okK k) (h : ∀ j : Nat, (ds.map (·.1))[j]? ≠ some k) : putD ds k y = ds ++ [(k, y)] := by
  induction ds with
  | nil => rfl
  | cons p ds ih =>
    unfold putD
    rw [if_neg fun q => h 0 (by simp [okK_inj hk q]), ih fun j e => h (j + 1) (by simpa using e)]
    rfl
theorem putD_old {ds : List (PyData × PyData)} {k y : PyData} (hn : (ds.map (·.1)).Nodup) : ∀ {j : Nat}, (ds.map (·.1))[j]? = some k → okK k → (putD ds k y).map (·.1) = ds.map (·.1) ∧ (putD ds k y).map (·.2) = (ds.map (·.2)).set j y := by
  induction ds with
  | nil => intro j h; simp at h
  | cons p ds ih =>
    intro j h hk
    rw [List.map_cons, List.nodup_cons] at hn
    unfold putD
    cases j with
    | zero =>
      simp at h
      subst h
      rw [if_pos rfl]
      simp
    | succ j =>
      have h' : (ds.map (·.1))[j]? = some k := by simpa using h
      have hne : ¬ nk p.1 = nk k := fun q => hn.1 (by rw [okK_inj hk q]; exact List.mem_of_getElem? h')
      rw [if_neg hne]
      obtain ⟨h1, h2⟩ := ih hn.2 h' hk
      simp [h1, h2]
/-- a dict at a, by what it holds -/
def DicR (K : PySem.W.Frag) (A : Addr → Prop) (H : Hp) (a : Addr) (ds : List (PyData × PyData)) : Prop := ∃ (es : Array DictEntry) (ep : Nat) (ks vs : List V), H a = some (DicO a es ep) ∧ DicOk a es ks vs ds ∧ RepAll K A H ks (ds.map (·.1)) ∧ RepAll K A H vs (ds.map (·.2))
theorem RepT.dic {K : PySem.W.Frag} {A : Addr → Prop} {H : Hp} {v : V} {ds : List (PyData × PyData)} (h : RepT K A H v (.dict ds)) (hp : plainD ds = true) : ∃ a, v = .ref a ∧ DicR K A H a ds := by
  rcases h with h | ⟨p, rfl, h⟩
  · cases h with
    | dG na h e t u => exact ⟨_, rfl, _, _, _, _, h, e, t, u⟩
    | obj _ _ _ _ _ _ _ _ => cases hp
    | obj0 _ _ _ => cases hp
  · exact ⟨p, rfl, h⟩
theorem RepT.plainOr {K : PySem.W.Frag} {A : Addr → Prop} {H : Hp} {v : V} {ds : List (PyData × PyData)} (h : RepT K A H v (.dict ds)) : plainD ds = true ∨ ∃ n es, ds = objL n es := by
  rcases h with h | ⟨p, rfl, es, ep, ks, vs, _, e, _⟩
  · cases h with
    | dG na h e t u => exact .inl (plain_ok e.ok)
    | obj _ _ _ _ _ _ _ _ => exact .inr ⟨_, _, rfl⟩
    | obj0 _ _ _ => exact .inr ⟨_, [], rfl⟩
  · exact .inl (plain_ok e.ok)
theorem lookD_obj {n : Str} {es : List (Str × PyData)} {k : PyData} (hk : okK k) : lookD (objL n es) k = none := by
  obtain ⟨q, hq, _⟩ := hk
  unfold objL lookD
  rw [if_neg (by rw [hq]; intro z; cases z)]
  induction es with
  | nil => rfl
  | cons p es ih =>
    rw [List.map_cons]
    unfold lookD
    rw [if_neg (by rw [hq]; intro z; cases z)]
    exact ih
theorem rds_get {h : Heap} : ∀ {us : List Value} {ds : List PyData} {j : Nat} {u : Value} {d : PyData}, RDs h us ds → us[j]? = some u → ds[j]? = some d → RD h u d
  | _, _, _, _, _, .nil, e, _ => by simp at e
  | _, _, 0, _, _, .cons r _, e, f => by simp at e f; subst e f; exact r
  | _, _, j + 1, _, _, .cons _ t, e, f => rds_get (j := j) t (by simpa using e) (by simpa using f)
theorem RDs.length {h : Heap} : ∀ {us : List Value} {ds : List PyData}, RDs h us ds → us.length = ds.length
  | _, _, .nil => rfl
  | _, _, .cons _ t => by simp [RDs.length t]
section
variable {X : Cx} {pins : List (Addr × Obj)} {σ : L2.St} {H : Hp} {s : Shared} {A : Addr → Prop} {a : Addr} {es : Array DictEntry} {ep : Nat} {ks vs : List V} {ds : List (PyData × PyData)}
theorem dic_at (I : Inv X pins σ H s) (h : H a = some (DicO a es ep)) : s.heap.get? a = some (dicObj es ep) := (show ObjOk X.prog X.w H s.heap a (DicO a es ep) from I.hok a _ h).1
theorem dic_keys (I : Inv X pins σ H s) (e : DicOk a es ks vs ds) (t : RepAll X.K A H ks (ds.map (·.1))) : KeysAre s.heap es (ds.map (·.1)) := by
  have r := RepAll.reads I t (okK_reads e.ok) e.keys
  have hl := r.length
  simp only [List.length_map, Array.length_toList] at hl
  refine ⟨by simpa using hl, e.nodup, fun j en hj => ?_⟩
  have hjl : j < es.size := (Array.getElem?_eq_some_iff.mp hj).1
  have h1 : (ds.map (·.1))[j]? = some (ds[j]'(by omega)).1 := by rw [List.getElem?_map, List.getElem?_eq_getElem (by omega)]; rfl
  obtain ⟨k, k1, k2⟩ := e.ok _ (List.mem_of_getElem? h1)
  refine ⟨_, k, h1, k1, k2, rd_nested k (rds_get r (by rw [List.getElem?_map, Array.getElem?_toList, hj]; rfl) h1) k1, ?_⟩
  have h2 := congrArg (fun l => l[j]?) e.hash
  simp only [List.getElem?_map, Array.getElem?_toList, hj, Option.map_some] at h2
  rw [List.getElem?_eq_getElem (show j < ds.length by omega)] at h2
  exact Option.some.inj h2
end
/-- d[k] -/
def rDGet (K : PySem.W.Frag) : R2 := fun x y H Q => ∃ (A : Addr → Prop) (a : Addr) (ds : List (PyData × PyData)) (kd d : PyData), x = .ref a ∧ DicR K A H a ds ∧ Rep K A H y kd ∧ okK kd ∧ lookD ds kd = some d ∧ ∀ v, Rep K A H v d → Q v H
theorem ix_dic {X : Cx} (hu : X.A.units + 64 < cLine) : IxR X (rDGet X.K) := by
  intro value slice pins s σ H x y v u Q I rx ry h hs
  obtain ⟨A, a, ds, kd, d, rfl, ⟨es, ep, ks, vs, ho, e, t, uu⟩, hy, hk, hl, q⟩ := h
  cases rx
  obtain ⟨k, k1, k2⟩ := id hk
  obtain ⟨j, j1, j2⟩ := lookD_some hk hl
  have g := dic_at I ho
  have ka := dic_keys I e t
  obtain ⟨x, hx, rp⟩ := uu.get j2
  obtain ⟨w, hw, rw'⟩ := e.vals.get hx
  rw [List.getElem?_map, Array.getElem?_toList] at hw
  obtain ⟨en, hen, rfl⟩ := Option.map_eq_some_iff.mp hw
  refine subscriptTail_builtinR (x := en.val) (dic_typeIs g) F.slot_dict_getitem.lookup ?_ hs
  exact getItem_key (by omega) k1 k2 (rd_nested k (hy.reads I (nk_read k1 k2) ry) k1) g ka j1 hen ⟨rfl, x, H, I.tok _, rw', q x rp⟩
def gDGet : List PyData → Option Sl
  | [.dict ds, k] => if okKB k = true then (lookD ds k).map .fz else none
  | _ => none
theorem RepT.key {K : PySem.W.Frag} {A : Addr → Prop} {H : Hp} {v : V} {d : PyData} (h : RepT K A H v d) (hk : okK d) : Rep K A H v d := by
  rcases h with h | ⟨p, rfl, h⟩
  · exact h
  · obtain ⟨k, e, _⟩ := hk
    cases d with
    | list _ => cases e
    | dict _ => cases e
    | _ => exact h.elim
theorem fnDGet {K : PySem.W.Frag} : FnD K (r2 (rDGet K)) gDGet := fnD2 fun A x y ds H s Q hA hr e k => by
  unfold gDGet at e
  split at e
  · rename_i es kd
    split at e
    · rename_i hk
      obtain ⟨d, hd, rfl⟩ := Option.map_eq_some_iff.mp e
      obtain ⟨h1, h2⟩ := RepT.two hr
      have hk := okK_of hk
      have hp : plainD es = true := by
        rcases h1.plainOr with hp | ⟨n, l, rfl⟩
        · exact hp
        · rw [lookD_obj hk] at hd; cases hd
      obtain ⟨a, rfl, h3⟩ := h1.dic hp
      exact ⟨A, a, es, kd, d, rfl, h3, h2.key hk, hk, hd, fun v hv => k v H (Same.refl H) hv⟩
    · cases e
  · cases e
def gIxA : List PyData → Option Sl
  | [.dict ds, k] => gDGet [.dict ds, k]
  | ds => gIx ds
theorem fnIxA {K : PySem.W.Frag} : FnD K (r2 fun x y H Q => rIx K x y H Q ∨ rDGet K x y H Q) gIxA := fnD2 fun A x y ds H s Q hA hr e k => by
  unfold gIxA at e
  split at e
  · exact .inr (fnDGet A [x, y] _ H s Q hA hr e k x y rfl)
  · exact .inl (fnIx A [x, y] _ H s Q hA hr e k x y rfl)
/-- k in d -/
def rDIn (K : PySem.W.Frag) (neg : Bool) : R2 := fun x y H Q => ∃ (A : Addr → Prop) (a : Addr) (ds : List (PyData × PyData)) (kd : PyData), y = .ref a ∧ DicR K A H a ds ∧ Rep K A H x kd ∧ okK kd ∧ Q (.bl (neg ^^ (lookD ds kd).isSome)) H
theorem op_dicIn {X : Cx} (hu : X.A.units + 65 < cLine) : OpR X (compareOp .In) (rDIn X.K false) := by
  intro pins s σ H x y v u Q I rx ry h
  obtain ⟨A, a, ds, kd, rfl, ⟨es, ep, ks, vs, ho, e, t, uu⟩, hy, hk, q⟩ := h
  cases ry
  obtain ⟨k, k1, k2⟩ := id hk
  have g := dic_at I ho
  have ka := dic_keys I e t
  refine in_key (by omega) e.sys k1 k2 (rd_nested k (hy.reads I (nk_read k1 k2) rx) k1) g ka (fun h => ?_) fun j h => ?_
  · cases hl : lookD ds kd with
    | none => rw [hl] at q; exact ⟨.bl false, H, I.tok _, rfl, q⟩
    | some y =>
      obtain ⟨j, j1, _⟩ := lookD_some hk hl
      exact (h j j1).elim
  · cases hl : lookD ds kd with
    | none => exact (lookD_none hk hl j h).elim
    | some y => rw [hl] at q; exact ⟨.bl true, H, I.tok _, rfl, q⟩
theorem op_dicNotIn {X : Cx} (hu : X.A.units + 65 < cLine) : OpR X (compareOp .NotIn) (rDIn X.K true) := by
  intro pins s σ H x y v u Q I rx ry h
  obtain ⟨A, a, ds, kd, rfl, ⟨es, ep, ks, vs, ho, e, t, uu⟩, hy, hk, q⟩ := h
  cases ry
  obtain ⟨k, k1, k2⟩ := id hk
  have g := dic_at I ho
  have ka := dic_keys I e t
  refine notIn_key (by omega) e.sys k1 k2 (rd_nested k (hy.reads I (nk_read k1 k2) rx) k1) g ka (fun h => ?_) fun j h => ?_
  · cases hl : lookD ds kd with
    | none => rw [hl] at q; exact ⟨.bl true, H, I.tok _, rfl, q⟩
    | some y =>
      obtain ⟨j, j1, _⟩ := lookD_some hk hl
      exact (h j j1).elim
  · cases hl : lookD ds kd with
    | none => exact (lookD_none hk hl j h).elim
    | some y => rw [hl] at q; exact ⟨.bl false, H, I.tok _, rfl, q⟩
def inA (neg : Bool) : List PyData → Option Sl
  | [k, .dict ds] => if plainD ds = true ∧ okKB k = true then some (.fz (.bool (neg ^^ (lookD ds k).isSome))) else none
  | ds => inD neg ds
def gInA := inA false
def gNotInA := inA true
theorem fnInG {K : PySem.W.Frag} {neg : Bool} : FnD K (r2 fun x y H Q => rInA K neg x y H Q ∨ rDIn K neg x y H Q) (inA neg) := fnD2 fun A x y ds H s Q hA hr e k => by
  unfold inA at e
  split at e
  · rename_i kd es
    split at e
    · rename_i hk
      cases e
      obtain ⟨h1, h2⟩ := RepT.two hr
      obtain ⟨a, rfl, h3⟩ := h2.dic hk.1
      have hk := okK_of hk.2
      exact .inr ⟨A, a, es, kd, rfl, h3, h1.key hk, hk, k _ H (Same.refl H) (.bl _)⟩
    · cases e
  · exact .inl (fnInA A [x, y] _ H s Q hA hr e k x y rfl)
section
variable {X : Cx} {k : Nat} {a b : Expr} {oa ob : Opd} {pos : Pos}
theorem x_itemA (hr : Room k X.A) (ha : XO X a oa) (hb : XO X b ob) (hs : PlainIx b := by exact fun _ _ => rfl) : XE X (.Subscript a b pos) (eFn gIxA [oa, ob]) := x_ix (ix_seq.or (ix_dic hr.units)) fnIxA ha hb hs
theorem x_inA (hr : Room k X.A) (ha : XO X a oa) (hb : XO X b ob) (hm : behindInMarks .In b = false := by rfl) : XE X (.Compare a [.In] [b] pos) (eFn gInA [oa, ob]) := x_cmp ((op_inA (by have := hr.un; omega)).or (op_dicIn (by have := hr.un; omega))) fnInG ha hb hm
theorem x_notInA (hr : Room k X.A) (ha : XO X a oa) (hb : XO X b ob) (hm : behindInMarks .NotIn b = false := by rfl) : XE X (.Compare a [.NotIn] [b] pos) (eFn gNotInA [oa, ob]) := x_cmp ((op_notInA (by have := hr.un; omega)).or (op_dicNotIn (by have := hr.un; omega))) fnInG ha hb hm
theorem t_inA (hr : Room k X.A) (ha : XO X a oa) (hb : XO X b ob) (hm : behindInMarks .In b = false := by rfl) : XT X (.Compare a [.In] [b] pos) (bOf (eFn gInA [oa, ob])) := t_cmp ((op_inA (by have := hr.un; omega)).or (op_dicIn (by have := hr.un; omega))) fnInG ha hb hm
theorem t_notInA (hr : Room k X.A) (ha : XO X a oa) (hb : XO X b ob) (hm : behindInMarks .NotIn b = false := by rfl) : XT X (.Compare a [.NotIn] [b] pos) (bOf (eFn gNotInA [oa, ob])) := t_cmp ((op_notInA (by have := hr.un; omega)).or (op_dicNotIn (by have := hr.un; omega))) fnInG ha hb hm
end
/-! ### d[k] = y, d an own dict -/
def rSetD (K : PySem.W.Frag) : V → V → V → Hp → (Hp → Prop) → Prop := fun o i v H Q => ∃ (A : Addr → Prop) (p : Addr) (ds : List (PyData × PyData)) (kd y : PyData), o = .ref p ∧ A p ∧ DicR K A H p ds ∧ Rep K A H i kd ∧ Rep K A H v y ∧ okK kd ∧ ds.length < 10000 ∧
  ∀ u, DicR K A (upd H p u) p (putD ds kd y) → Q (upd H p u)
theorem dic_ok {X : Cx} {H' : Hp} {h : Heap} {a : Addr} {es : Array DictEntry} {ep : Nat} (g : h.get? a = some (dicObj es ep)) : ObjOk X.prog X.w H' h a (DicO a es ep) := ⟨g, ⟨_, g⟩, fun h1 h2 e k => k _ e⟩
theorem push_toList {α : Type} (xs : Array α) (a : α) : (xs.push a).toList = xs.toList ++ [a] := by simp
section
variable {X : Cx} {pins : List (Addr × Obj)} {σ : L2.St} {H : Hp} {s : Shared} {A : Addr → Prop} {p : Addr} {es : Array DictEntry} {ep : Nat} {ks vs : List V} {ds : List (PyData × PyData)} {kd y : PyData} {i v : V} {iv u : Value} {h' : Heap} {tk : Nat}
/-- behind d[k] = y, the key new -/
theorem dic_put0 (I : Inv X pins σ H s) (hA : A p) (ho : H p = some (DicO p es ep)) (e : DicOk p es ks vs ds) (t : RepAll X.K A H ks (ds.map (·.1))) (uu : RepAll X.K A H vs (ds.map (·.2))) (ri : RelV i iv) (rv : RelV v u) (hi : Rep X.K A H i kd) (hv : Rep X.K A H v y) (hk : okK kd) (hz : ds.length < 10000)
    (hno : ∀ j : Nat, (ds.map (·.1))[j]? ≠ some kd) (g' : h'.get? p = some (dicObj (es.push ⟨kh kd, iv, u⟩) (ep + 1))) (sb : Heap.SameBut p s.heap h') :
    Inv X pins σ (upd H p (DicO p (es.push ⟨kh kd, iv, u⟩) (ep + 1))) { s with heap := h', toks := tk } ∧ DicR X.K A (upd H p (DicO p (es.push ⟨kh kd, iv, u⟩) (ep + 1))) p (putD ds kd y) := by
  have hlen : es.size = ds.length := by have := (dic_keys I e t).len; simpa using this
  have mu : Mut (H p) := by rw [ho]; exact trivial
  refine ⟨I.write (x := p) (e := p) mu (.inl rfl) (fun b z hb hz => (sb.2 b hb).trans hz) ⟨_, g'⟩ (dic_ok (X := X) g'), _, _, ks ++ [i], vs ++ [v], upd_same, ?_, ?_, ?_⟩
  · rw [putD_new hk hno]
    refine ⟨e.sys, ?_, ?_, ?_, ?_, ?_, ?_⟩
    · rw [Array.size_push]; show _ ≤ 2 ^ 24; omega
    · rw [push_toList, List.map_append]; exact e.keys.append (.cons ri .nil)
    · rw [push_toList, List.map_append]; exact e.vals.append (.cons rv .nil)
    · rw [push_toList, List.map_append, List.map_append, e.hash]; rfl
    · intro d hd
      rw [List.map_append] at hd
      rcases List.mem_append.mp hd with hd | hd
      · exact e.ok d hd
      · rw [List.mem_singleton.mp hd]; exact hk
    · rw [List.map_append, List.nodup_append]
      refine ⟨e.nodup, by simp, ?_⟩
      intro x hx z hzz
      simp only [List.map_cons, List.map_nil, List.mem_singleton] at hzz
      rintro rfl
      obtain ⟨j, hj⟩ := List.mem_iff_getElem?.mp hx
      exact hno j (hzz ▸ hj)
  · rw [putD_new hk hno, List.map_append]
    exact (t.append (.cons hi .nil)).move (own_mut hA _)
  · rw [putD_new hk hno, List.map_append]
    exact (uu.append (.cons hv .nil)).move (own_mut hA _)
theorem dic_put1 {j : Nat} (I : Inv X pins σ H s) (hA : A p) (ho : H p = some (DicO p es ep)) (e : DicOk p es ks vs ds) (t : RepAll X.K A H ks (ds.map (·.1))) (uu : RepAll X.K A H vs (ds.map (·.2))) (rv : RelV v u) (hv : Rep X.K A H v y) (hk : okK kd)
    (hj : (ds.map (·.1))[j]? = some kd) (g' : h'.get? p = some (dicObj (es.modify j fun e => { e with val := u }) ep)) (sb : Heap.SameBut p s.heap h') :
    Inv X pins σ (upd H p (DicO p (es.modify j fun e => { e with val := u }) ep)) { s with heap := h', toks := tk } ∧ DicR X.K A (upd H p (DicO p (es.modify j fun e => { e with val := u }) ep)) p (putD ds kd y) := by
  have ka := dic_keys I e t
  have mu : Mut (H p) := by rw [ho]; exact trivial
  obtain ⟨p1, p2⟩ := putD_old (y := y) e.nodup hj hk
  have hjl : j < es.size := by rw [ka.len]; exact (List.getElem?_eq_some_iff.mp hj).1
  have m1 : (es.modify j fun e => { e with val := u }).toList.map (·.key) = es.toList.map (·.key) := by
    apply List.ext_getElem?
    intro n
    simp only [List.getElem?_map, Array.getElem?_toList, Array.getElem?_modify]
    split <;> cases es[n]? <;> rfl
  have m2 : (es.modify j fun e => { e with val := u }).toList.map (·.hash) = es.toList.map (·.hash) := by
    apply List.ext_getElem?
    intro n
    simp only [List.getElem?_map, Array.getElem?_toList, Array.getElem?_modify]
    split <;> cases es[n]? <;> rfl
  have m3 : (es.modify j fun e => { e with val := u }).toList.map (·.val) = (es.toList.map (·.val)).set j u := by
    apply List.ext_getElem?
    intro n
    simp only [List.getElem?_map, Array.getElem?_toList, Array.getElem?_modify, List.getElem?_set, List.length_map, Array.length_toList]
    by_cases hn : j = n
    · subst hn
      simp [hjl]
    · simp [hn]
  refine ⟨I.write (x := p) (e := p) mu (.inl rfl) (fun b z hb hz => (sb.2 b hb).trans hz) ⟨_, g'⟩ (dic_ok (X := X) g'), _, _, ks, vs.set j v, upd_same, ?_, ?_, ?_⟩
  · refine ⟨e.sys, by rw [Array.size_modify]; exact e.size, by rw [m1]; exact e.keys, by rw [m3]; exact e.vals.set rv j, ?_, by rw [p1]; exact e.ok, by rw [p1]; exact e.nodup⟩
    rw [m2, e.hash]
    have := congrArg (List.map kh) p1
    simpa only [List.map_map, Function.comp_def] using this.symm
  · rw [p1]; exact t.move (own_mut hA _)
  · rw [p2]; exact (uu.set hv j).move (own_mut hA _)
end
theorem set_dic {X : Cx} (hu : X.A.units + 64 < cLine) : PSet X (rSetD X.K) := by
  intro pins s σ H o i v ov iv u Q I ro ri rv h
  obtain ⟨A, p, ds, kd, y, rfl, hA, ⟨es, ep, ks, vs, ho, e, t, uu⟩, hi, hv, hk, hz, q⟩ := h
  cases ro
  obtain ⟨k, k1, k2⟩ := id hk
  refine setItem_key (by omega) e.size k1 k2 (rd_nested k (hi.reads I (nk_read k1 k2) ri) k1) (dic_at I ho) (dic_keys I e t) (fun hno h' g' sb => ?_) fun j hj h' g' sb => ?_
  · obtain ⟨I1, d1⟩ := dic_put0 (tk := s.toks + k.draws) I hA ho e t uu ri rv hi hv hk hz hno g' sb
    exact ⟨_, I1, q _ d1⟩
  · obtain ⟨I1, d1⟩ := dic_put1 (tk := s.toks + k.draws) I hA ho e t uu rv hv hk hj g' sb
    exact ⟨_, I1, q _ d1⟩
/-- x[i] = e, x an own list or dict -/
def sSetAt (i : Nat) (m : EM) (ix : Opd) : SM := fun ρ => (m ρ).bind fun p => p.1.dat.bind fun y => (own? p.2 i).bind fun _ => (pre ix p.2).bind fun q => (fin ix q.1 q.2).bind fun k => (own? q.2 i).bind fun d => match d, k with
  | .list ds, .int n => (ixN ds.length n).map fun j => .nx (setOwn q.2 i (.list (ds.set j y)))
  | .dict ds, kd => if okKB kd = true ∧ ds.length < 10000 then some (.nx (setOwn q.2 i (.dict (putD ds kd y)))) else none
  | _, _ => none
theorem sM_setAt {K : PySem.W.Frag} {i : Nat} {m : EM} {ix : Opd} {D : Ends} {σ : L2.St} {H : Hp} (q : sM K (sSetAt i m ix) D σ H) : tAsg (tM K m) (L2.gSub (tVar i) (oM K ix) fun o x v H Q => L2.rSetL o x v H Q ∨ rSetD K o x v H Q) D σ H := by
  obtain ⟨M, ρ, o, S, e, w⟩ := q
  unfold sSetAt at e
  cases e1 : m ρ with
  | none => rw [e1] at e; cases e
  | some p1 =>
    obtain ⟨r, ρ1⟩ := p1
    rw [e1] at e
    simp only [Option.bind_some] at e
    cases e2 : r.dat with
    | none => rw [e2] at e; cases e
    | some y =>
      rw [e2] at e
      simp only [Option.bind_some] at e
      cases e3 : own? ρ1 i with
      | none => rw [e3] at e; cases e
      | some d0 =>
        rw [e3] at e
        simp only [Option.bind_some] at e
        cases e4 : pre ix ρ1 with
        | none => rw [e4] at e; cases e
        | some p4 =>
          obtain ⟨x, ρ2⟩ := p4
          rw [e4] at e
          simp only [Option.bind_some] at e
          cases e5 : fin ix x ρ2 with
          | none => rw [e5] at e; cases e
          | some k =>
            rw [e5] at e
            simp only [Option.bind_some] at e
            cases e6 : own? ρ2 i with
            | none => rw [e6] at e; cases e
            | some d =>
              rw [e6] at e
              simp only [Option.bind_some] at e
              refine ⟨M, ρ, r, ρ1, S, e1, fun v H1 x1 x2 R => ?_⟩
              obtain ⟨d1, hd1, S1, rp⟩ := R.fz
              rw [e2] at hd1
              cases hd1
              obtain ⟨p, h1, h2, h3⟩ := S1.ow i d0 (own_ows e3)
              refine ⟨.ref p, h1, M, ρ1, x, ρ2, S1, e4, fun u H2 y1 y2 S2 p2 => ?_⟩
              obtain ⟨p', g1, g2, g3⟩ := S2.ow i _ (own_ows e6)
              rw [h1] at g1
              cases g1
              have hk := fin_rep S2 p2 e5
              have op : OO ρ2 σ p := ⟨i, ⟨_, own_ows e6⟩, h1⟩
              split at e
              · rename_i ds n
                cases e7 : ixN ds.length n with
                | none => rw [e7] at e; cases e
                | some j =>
                  rw [e7] at e
                  cases e
                  obtain ⟨xs, a1, a2⟩ := g3
                  refine .inl ⟨p, xs, n, j, rfl, hk.int, a1, by rw [a2.length]; exact e7, ?_⟩
                  have ho : Own K (fun b => M b ∨ OO ρ2 σ b) (upd H2 p (.lst (xs.set j v))) p (.list (ds.set j y)) := ⟨_, upd_same, (a2.set (Rep.ext y1 rp) j).move (own_mut (A := fun b => M b ∨ OO ρ2 σ b) (.inr op) _)⟩
                  obtain ⟨S3, E3, I3⟩ := S2.mut e6 h1 ho
                  exact w _ _ (Aft.of ((x1.trans y1).trans E3) ((x2.trans y2).trans I3)) S3
              · rename_i ds
                split at e
                · rename_i hok
                  cases e
                  have hkk := okK_of hok.1
                  refine .inr ⟨fun b => M b ∨ OO ρ2 σ b, p, ds, _, y, rfl, .inr op, g3, hk.key hkk, Rep.ext y1 rp, hkk, hok.2, fun o ho => ?_⟩
                  have ho : Own K (fun b => M b ∨ OO ρ2 σ b) (upd H2 p o) p (.dict (putD ds _ y)) := ho
                  obtain ⟨S3, E3, I3⟩ := S2.mut e6 h1 ho
                  exact w _ _ (Aft.of ((x1.trans y1).trans E3) ((x2.trans y2).trans I3)) S3
                · cases e
              · cases e
theorem s_setAt {X : Cx} {kk : Nat} {x : Str} {p pos pos' : Pos} {e ie : Expr} {m : EM} {ix : Opd} (hr : Room kk X.A) (i : Nat) (he : XE X e m) (hi : XO X ie ix) (hN : X.N[i]? = some x := by rfl) (hvis : Vis X.env.scope x := by first | exact Or.inl rfl | exact Or.inr (Or.inl rfl) | exact Or.inr (Or.inr rfl)) (hd : (x == ("__debug__" : Str)) = false := by decide) (hcd : (x == ("__classdict__" : Str)) = false := by decide)
    (ha : ∀ v, assign (.Subscript (.Name x p) ie pos') X.env v = (do let ov ← holding [v] (eval (.Name x p) X.env); let iv ← holding [v, ov] (eval ie X.env); standAt pos'; holding [v, ov, iv] (setItem ov iv v); release [v, ov, iv] []) := by intro _; rfl)
    (hs : swapsWithSole [.Subscript (.Name x p) ie pos'] e pos.line X.env = pure false := by rfl) (hw : swappedStores [.Subscript (.Name x p) ie pos'] e X.env = pure none := by rfl) (h1 : (assignEach [.Subscript (.Name x p) ie pos'] X.env).map (·.2) = [assign (.Subscript (.Name x p) ie pos') X.env] := by rfl) :
    XS X (.Assign [.Subscript (.Name x p) ie pos'] e pos) (sSetAt i m ix) :=
  ps_imp (ps_asg he (pg_sub (pe_var hN hvis hd hcd) hi (fun pins s σ H o i v ov iv u Q I ro ri rv h => h.elim (set_list pins s σ H o i v ov iv u Q I ro ri rv) (set_dic hr.units pins s σ H o i v ov iv u Q I ro ri rv)) ha) hs hw h1) fun _ _ _ q => sM_setAt q
end Vw

set_option Elab.async false
set_option linter.all false
set_option maxRecDepth 100000
set_option maxHeartbeats 4000000
/-! dicts walked: for k in d, list(d) -/
namespace Vw
open PySem PySem.W PyProof.Rows L2

/-- the keys of the dict at d -/
def Itg (d : Addr) (es : Array DictEntry) (ep : Nat) (ks : List V) : It :=
  ⟨fun i H => H d = some (DicO d es ep) ∧ i < ks.length, fun i H x H' => H' = H ∧ ks[i]? = some x, fun i H => H d = some (DicO d es ep) ∧ ks.length ≤ i⟩
section
variable {P : Program} {w : World} {K : PySem.W.Frag} {tg : Expr} {d : Addr} {es : Array DictEntry} {ep : Nat} {ks : List V}
theorem turn_keysG (it : Addr) (hv : Vals ks (es.toList.map (·.key))) : Turn P w K tg (Itg d es ep ks) [it] it (fun i h => h.IsKeyIter it d i es.size ep) where
  mem := by simp
  obj := fun i h st b hb => by
    have e : b = it := by simpa using hb
    subst e
    obtain ⟨oi, e, c, dd⟩ := st
    exact ⟨oi, e, fun v z => by rw [dd] at z; cases z⟩
  keep := fun i h h' st k => st.at fun oi e => k it (by simp) oi e
  item := by
    intro X hP hw hK hc i pins s σ H E I hf st hg
    subst hP hw hK
    obtain ⟨hd, hi⟩ := hg
    obtain ⟨f0, f1, f2, f3, f4, f5⟩ := hf it (by simp)
    have hgd := dic_at I hd
    obtain ⟨u, hu, ru⟩ := hv.get (List.getElem?_eq_getElem hi)
    rw [List.getElem?_map, Array.getElem?_toList] at hu
    obtain ⟨en, hen, rfl⟩ := Option.map_eq_some_iff.mp hu
    refine next_key_item st hgd rfl rfl hen fun h' st' sb => ?_
    have I1 : Inv X pins σ H { s with heap := h' } := I.turned (t' := s.toks) (fun b ob hb e => (sb.2 b hb).trans e) f0 f1 f3 f4 f5
    obtain ⟨oi, e, c, dd⟩ := id st'
    exact ⟨en.key, rfl, go_of (s := { s with heap := h' }) e c dd (by decide) ⟨_, H, I1, ru, ⟨rfl, List.getElem?_eq_getElem hi⟩, st', fun b hb => (hf b hb).1⟩⟩
  done := by
    intro X hP hw hK hc i pins s σ H E I hf st hg
    subst hP hw hK
    obtain ⟨hd, hi⟩ := hg
    obtain ⟨f0, f1, f2, f3, f4, f5⟩ := hf it (by simp)
    have hgd := dic_at I hd
    have hl := hv.length
    simp only [List.length_map, Array.length_toList] at hl
    exact next_key_end (I.ok.hd hc) st hgd rfl rfl (by omega) fun h' eb => ⟨rfl, I.turned (t' := s.toks) (fun b ob hb e => eb b ob hb e) f0 f1 f3 f4 f5⟩
  self := fun A i s Q E st h => by
    refine wpAny_pyIter_slot st.typeIs F.slot_dict_keyiterator_iter (wpAny_call_entry F.slot_dict_keyiterator_iter st.typeIs F.entry_dict_keyiterator_iter ?_ (F.args_dict_keyiterator_iter_1 _))
    show wpAny _ _ (ret (.ref it)) _ _ s
    exact wpAny_pure ⟨_, rfl, "dict_keyiterator", _, st.typeIs, F.slot_dict_keyiterator_next.lookup, h⟩
end
theorem pi_seqG {X : Cx} {tg l : Expr} {tl : TE} (hl : PE X l tl) : PI X tg l (fun σ H R => tl σ H fun x H1 => ∃ a, x = .ref a ∧ ((∃ xs, SqL X.K H1 a xs) ∧ R (Itl X.K a) H1 ∨ (∃ xs, SqT X.K H1 a xs) ∧ R (Itt X.K a) H1 ∨ ∃ es ep ks, H1 a = some (DicO a es ep) ∧ (a == sysModules) = false ∧ Vals ks (es.toList.map (·.key)) ∧ R (Itg a es ep ks) H1)) := by
  refine ⟨fun pins s σ H R I h => ?_⟩
  refine thn (hl.run pins s σ H _ I h) fun v s1 ⟨x, H1, I1, r1, q1⟩ => ?_
  obtain ⟨a, e, q1⟩ := q1
  subst e
  cases r1
  rcases q1 with ⟨⟨xs, hq⟩, q⟩ | ⟨⟨xs, hq⟩, q⟩ | ⟨es, ep, ks, hd, hs, hv, q⟩
  · obtain ⟨its, rv, p, hz⟩ := I1.list hq
    refine wpAny_pyIter_list p.isList ?_
    refine ⟨s1.heap.objs.size, [s1.heap.objs.size], _, _, H1, rfl, I1.kept (t' := s1.toks) fun b o e => Heap.get?_push_of_some _ e, turn_list a _, ⟨_, Heap.get?_push_size _ rfl, rfl, rfl⟩, fun b hb => ?_, q⟩
    have e : b = s1.heap.objs.size := by simpa using hb
    subst e
    exact I1.fpOk (Nat.le_refl _) (I1.hok.fresh (Nat.le_refl _))
  · obtain ⟨its, rv, p, hz⟩ := I1.tuple hq
    refine wpAny_pyIter_tuple (show s1.heap.IsTuple a its.toArray from p) ?_
    refine ⟨s1.heap.objs.size, [s1.heap.objs.size], _, _, H1, rfl, I1.kept (t' := s1.toks) fun b o e => Heap.get?_push_of_some _ e, turn_tuple a _, ⟨_, Heap.get?_push_size _ rfl, rfl, rfl⟩, fun b hb => ?_, q⟩
    have e : b = s1.heap.objs.size := by simpa using hb
    subst e
    exact I1.fpOk (Nat.le_refl _) (I1.hok.fresh (Nat.le_refl _))
  · exact iter_keys hs (dic_at I1 hd) ⟨rfl, rfl, rfl⟩ rfl (pi_one (tk := s1.toks) I1 _ (turn_keysG _ hv) ⟨_, Heap.get?_push_size _ rfl, rfl, rfl⟩ q)
def jValA (m : EM) : IM := fun ρ => (m ρ).bind fun p => match p.1.dat with
  | some (.list ds) => some (ds, p.2)
  | some (.tuple ds) => some (ds, p.2)
  | some (.dict ds) => if plainD ds = true then some (ds.map (·.1), p.2) else none
  | _ => none
section
variable {K : PySem.W.Frag} {M O : Addr → Prop} {H : Hp}
theorem rep_dict {v : V} {ds : List (PyData × PyData)} (r : Rep K (fun b => M b ∨ O b) H v (.dict ds)) (hp : plainD ds = true) : ∃ a es ep ks, v = .ref a ∧ H a = some (DicO a es ep) ∧ (a == sysModules) = false ∧ Vals ks (es.toList.map (·.key)) ∧ (∀ (O' : Addr → Prop) (H' : Hp), Mv M O H O' H' → H' a = some (DicO a es ep) ∧ RepAll K (fun b => M b ∨ O' b) H' ks (ds.map (·.1))) := by
  cases r with
  | dG na h e t u => exact ⟨_, _, _, _, rfl, h, e.sys, e.keys, fun O' H' x => ⟨(x _ _ h na).1, t.move x⟩⟩
  | obj _ _ _ _ _ _ _ _ => cases hp
  | obj0 _ _ _ => cases hp
theorem yld_dict {a : Addr} {es : Array DictEntry} {ep : Nat} {ks : List V} {ds : List PyData} (h : ∀ (O' : Addr → Prop) (H' : Hp), Mv M O H O' H' → H' a = some (DicO a es ep) ∧ RepAll K (fun b => M b ∨ O' b) H' ks ds) : Yld K M O H (Itg a es ep ks) ds := fun O' H' e _ i => by
  obtain ⟨h1, h2⟩ := h O' H' e
  have hl := h2.length
  refine ⟨fun hi => ⟨⟨h1, by omega⟩, fun x H'' y => ?_⟩, fun hi => ⟨h1, by omega⟩⟩
  obtain ⟨rfl, y⟩ := y
  obtain ⟨v, hv, r⟩ := h2.get (List.getElem?_eq_getElem hi)
  rw [hv] at y
  cases y
  exact ⟨Same.refl _, _, List.getElem?_eq_getElem hi, r⟩
end
theorem i_valA {X : Cx} {tg l : Expr} {m : EM} (h : XE X l m) : XI X tg l (jValA m) := pi_imp (pi_seqG h) fun σ H R q => by
  obtain ⟨M, ρ, ds, ρ', S, e, k⟩ := q
  unfold jValA at e
  refine tM_bind (R := fun _ _ _ => True) S e fun r ρ1 v H1 _ e1 x1 x2 R => ?_
  obtain ⟨d, hd, S1, rp⟩ := R.fz
  simp only [hd] at e1
  split at e1
  · rename_i ds' hds
    cases e1
    cases hds
    obtain ⟨a, xs, rfl, h1, h2⟩ := rep_list rp
    exact ⟨a, rfl, .inl ⟨⟨xs, h1⟩, k _ _ x1 x2 S1 (yld_list h2)⟩⟩
  · rename_i ds' hds
    cases e1
    cases hds
    obtain ⟨a, xs, rfl, h1, h2⟩ := rep_tuple rp
    exact ⟨a, rfl, .inr (.inl ⟨⟨xs, h1⟩, k _ _ x1 x2 S1 (yld_tuple h2)⟩)⟩
  · rename_i ds' hds
    split at e1
    rotate_left
    · cases e1
    rename_i hp
    cases e1
    cases hds
    obtain ⟨a, es, ep, ks, rfl, h1, h2, h3, h4⟩ := rep_dict rp hp
    exact ⟨a, rfl, .inr (.inr ⟨es, ep, ks, h1, h2, h3, k _ _ x1 x2 S1 (yld_dict h4)⟩)⟩
  · cases e1
end Vw

set_option Elab.async false
set_option linter.all false
set_option maxRecDepth 100000
set_option maxHeartbeats 4000000
/-! dict(xs) of a list of pairs -/
namespace Vw
open PySem PySem.W PyProof.Rows L2

section
variable {P : Program} {w : World} {A : Around} {E : Value → Shared → Prop} {s : Shared} {d : Addr} {es : Array DictEntry} {ep : Nat}
/-- a dict behind dict(xs), d.update(xs): later pairs win, the place is the first one's -/
def putAll (ds : List (PyData × PyData)) : List (PyData × PyData) → List (PyData × PyData)
  | [] => ds
  | p :: ps => putAll (putD ds p.1 p.2) ps
theorem putD_len (ds : List (PyData × PyData)) (k y : PyData) : (putD ds k y).length ≤ ds.length + 1 := by
  induction ds with
  | nil => simp [putD]
  | cons p ds ih =>
    unfold putD
    split
    · simp
    · simp only [List.length_cons]; omega
/-- pairs as data -/
def pairsD : List PyData → Option (List (PyData × PyData))
  | [] => some []
  | .tuple [k, y] :: ds => if okKB k = true then (pairsD ds).map fun ps => (k, y) :: ps else none
  | _ => none
end
section
variable {X : Cx} {pins : List (Addr × Obj)} {σ : L2.St}
/-- the walk over the pairs -/
theorem upd_loopG {A0 : Around} {A : Addr → Prop} {R : Result → Shared → Prop} {S I l : Addr} {items : Array Value} {res : Value} (hh : A0.handled = none) (hu : A0.units + 10 < cLine) (hlI : l ≠ I) (hSI : S ≠ I) (hSl : S ≠ l) (hA : A S) :
    ∀ (rest : List PyData) (ps acc : List (PyData × PyData)) (i : Nat) (ix : Int) (t : Tok) (s : Shared) (H : Hp) (xs : List V), pairsD rest = some ps → items.size = i + rest.length → acc.length + rest.length < 10000 → RepAll X.K A H xs rest →
      (∀ (j : Nat) (v : V), xs[j]? = some v → ∃ u, items[i + j]? = some u ∧ RelV v u) →
      s.heap.IsListIter I l i → s.heap.IsList l items → L2.Inv X pins σ H s → FpOk X pins H I → DicR X.K A H S acc →
      (∀ s' u, L2.Inv X pins σ (upd H S u) s' → DicR X.K A (upd H S u) S (putAll acc ps) → R (.ok (.ret res)) s') →
      codeAny (model X.prog X.w) A0 (.builtin "dict.update.loop" ⟨[.ref S, .ref I, .int ix t, res], []⟩) R s
  | [], ps, acc, i, ix, t, s, H, xs, hps, hsz, hln, hr, ht, hit, hl, J, fI, D, hR => by
    cases hps
    refine codeAny_builtin ud_entry ?_
    rw [Around.under_plainId ud_plain _]
    show wpAny _ A0.in1 (pyNext (.ref I) >>= _) _ _ s
    refine wpAny_bind (wpAny_pyNext_list_end (A := A0.in1) hh hit hl (by first | exact Array.getElem?_eq_none (Nat.le_of_eq hsz) | (simp at hsz; simp; omega)) fun h' he => ?_)
    show wpAny _ A0.in1 (Builtin.Dict.addKeywords S [] >>= _) _ _ _
    refine wpAny_bind (wpAny_pure (wpAny_pure ?_))
    obtain ⟨f0, f1, f2, f3, f4, f5⟩ := fI
    have J1 : L2.Inv X pins σ H { s with heap := h' } := J.turned (t' := s.toks) (fun b ob hb e => he b ob hb e) f0 f1 f3 f4 f5
    obtain ⟨es, ep, ks, vs, ho, _⟩ := id D
    have e1 : upd H S (DicO S es ep) = H := by
      funext b
      by_cases hb : b = S
      · subst hb; rw [upd_same, ho]
      · rw [upd_ne hb]
    exact hR _ (DicO S es ep) (by rw [e1]; exact J1) (by rw [e1]; exact D)
  | q :: rest, ps, acc, i, ix, t, s, H, xs, hps, hsz, hln, hr, ht, hit, hl, J, fI, D, hR => by
    cases hr with
    | @cons v vs' _ _ r rr =>
    obtain ⟨kd, y, rfl, hkd, ps', hps', rfl⟩ : ∃ kd y, q = .tuple [kd, y] ∧ okKB kd = true ∧ ∃ ps', pairsD rest = some ps' ∧ ps = (kd, y) :: ps' := by
      unfold pairsD at hps
      split at hps
      · rename_i h; cases h
      · rename_i k' y' ds' h
        cases h
        split at hps
        · rename_i hk
          obtain ⟨ps', e1, e2⟩ := Option.map_eq_some_iff.mp hps
          exact ⟨k', y', rfl, hk, ps', e1, e2.symm⟩
        · cases hps
      · cases hps
    have hk := okK_of hkd
    obtain ⟨k, k1, k2⟩ := id hk
    obtain ⟨b, zs, rfl, b1, b2⟩ := RepT.tup (.inl r)
    obtain ⟨u0, hb, ru⟩ := ht 0 (.ref b) rfl
    cases ru
    rw [List.length_cons] at hsz hln
    refine codeAny_builtin ud_entry ?_
    rw [Around.under_plainId ud_plain _]
    show wpAny _ A0.in1 (pyNext (.ref I) >>= _) _ _ s
    refine wpAny_bind (wpAny_pyNext_list_item (x := .ref b) hit hl (by simpa using hb) fun h1 hit1 hs1 => ?_)
    obtain ⟨f0, f1, f2, f3, f4, f5⟩ := id fI
    have J1 : L2.Inv X pins σ H { s with heap := h1 } := J.turned (t' := s.toks) (fun b ob hb e => (hs1.2 b hb).trans e) f0 f1 f3 f4 f5
    obtain ⟨its, rv, ⟨o, ho, hc, n, hd⟩, _⟩ := J1.tuple b1
    cases b2 with
    | @cons vk _ _ _ rk b2 =>
    cases b2 with
    | @cons vy _ _ _ ry b2 =>
    cases b2
    obtain ⟨uk, uy, rfl, ruk, ruy⟩ := vals2 rv
    have hl1 : h1.IsList l items := hl.extBut hs1.extBut hlI
    show wpAny _ A0.in1 (holding [Value.ref b] _ >>= _) _ _ _
    refine wpAny_bind (wpAny_holding ?_)
    refine wpAny_bind (wpAny_tryCatch ?_)
    unfold Builtin.Dict.pairItems
    refine wpAny_bind (wpAny_typeOf (T := "tuple") ⟨o, ho, hc⟩ ?_)
    rw [if_pos (by first | decide | rfl | simp)]
    refine wpAny_bind (wpAny_seqItems ho hd (wpAny_pure ?_))
    show wpAny _ A0.in1 (holding [uk, uy] (dictSet S uk uy)) _ _ _
    obtain ⟨es, ep, ks, vs, hS, e, tt, uu⟩ := id D
    have hlen : es.size = acc.length := by have := (dic_keys J1 e tt).len; simpa using this
    have go : ∀ (s2 : Shared) (o2 : HO), L2.Inv X pins σ (upd H S o2) s2 → DicR X.K A (upd H S o2) S (putD acc kd y) → Heap.SameBut S h1 s2.heap → codeAny (model X.prog X.w) A0 (.builtin "dict.update.loop" ⟨[.ref S, .ref I, .int (ix + 1) 0, res], []⟩) R s2 := fun s2 o2 J2 D2 sb => by
      have mv := own_mut (H := H) hA o2
      refine upd_loopG hh hu hlI hSI hSl hA rest ps' (putD acc kd y) (i + 1) (ix + 1) 0 s2 (upd H S o2) vs' hps' (by omega) ?_ (rr.move mv) (fun j v hj => ?_) (hit1.at fun o' e => sb.extBut I o' (Ne.symm hSI) e) (hl1.extBut sb.extBut (Ne.symm hSl)) J2 ⟨by rw [upd_ne (Ne.symm hSI)]; exact f0, f1, f2, f3, f4, f5⟩ D2 fun s' u J' D' => ?_
      · have := putD_len acc kd y
        omega
      · obtain ⟨u, h1, h2⟩ := ht (j + 1) v (by simpa using hj)
        exact ⟨u, by rw [show i + 1 + j = i + (j + 1) by omega]; exact h1, h2⟩
      · rw [upd_upd] at J' D'
        exact hR s' u J' D'
    refine wpAny_holding (set_key (by rw [Around.in1_units]; omega) e.size k1 k2 (rd_nested k (rk.reads J1 (nk_read k1 k2) ruk) k1) (dic_at J1 hS) (dic_keys J1 e tt) (fun hno h' g' sb => ?_) fun j hj h' g' sb => ?_)
    · obtain ⟨J2, D2⟩ := dic_put0 (tk := s.toks + k.draws) J1 hA hS e tt uu ruk ruy rk ry hk (by omega) hno g' sb
      exact wpAny_pure ⟨plainId_quiet ud_plain _, go _ _ J2 D2 sb⟩
    · obtain ⟨J2, D2⟩ := dic_put1 (tk := s.toks + k.draws) J1 hA hS e tt uu ruy ry hk hj g' sb
      exact wpAny_pure ⟨plainId_quiet ud_plain _, go _ _ J2 D2 sb⟩
end
section
variable {X : Cx}
theorem dic_empty {K : PySem.W.Frag} {A : Addr → Prop} {H : Hp} {S : Addr} (hs : (S == sysModules) = false) : DicR K A (upd H S (DicO S #[] 0)) S [] := ⟨#[], 0, [], [], upd_same, ⟨hs, Nat.zero_le _, .nil, .nil, rfl, (by intro d z; cases z), List.nodup_nil⟩, .nil, .nil⟩
def rDictL (K : PySem.W.Frag) : List V → Hp → VK → Prop := fun vs H Q => ∃ (A : Addr → Prop) (a : Addr) (xs : List V) (rest : List PyData) (ps : List (PyData × PyData)), vs = [.ref a] ∧ SqL K H a xs ∧ RepAll K A H xs rest ∧ pairsD rest = some ps ∧ rest.length < 10000 ∧
  ∀ (p : Addr) (u : HO), H p = none → DicR K (fun b => A b ∨ b = p) (upd H p u) p (putAll [] ps) → Q (.ref p) (upd H p u)
theorem c_dictL (hcalm : X.calm = true) (hu : X.A.units + 64 < cLine) : CallR X (.type "dict") (rDictL X.K) := by
  intro pins s σ H vs us Q J r q
  obtain ⟨A, a, xs, rest, ps, rfl, hq, hr, hps, hz, q⟩ := q
  obtain ⟨u, rfl, rx⟩ := vals1 r
  cases rx
  obtain ⟨its, rv, pl, hzz⟩ := J.list hq
  obtain ⟨ol, n, ho, hc, hd, hdat⟩ := pl
  have hh := J.ok.hd hcalm
  refine callType_codes (Q₁ := fun obj s₁ => obj = .ref s.heap.objs.size ∧ s₁ = { s with heap := s.heap.push { cls := .type "dict", data := .dict #[] } }) PySem.F.kt_called_dict (PySem.F.kt_typeCall_dict_1 _) PySem.F.entry_dict_init (kt_code_dict_new _ ⟨rfl, rfl⟩) ?_
  rintro obj s₁ ⟨rfl, rfl⟩
  have hnew : (s.heap.push { cls := .type "dict", data := .dict #[] }).get? s.heap.objs.size = some (dicObj #[] 0) := Heap.get?_push_size _ rfl
  have k0 : ∀ b o, s.heap.get? b = some o → (s.heap.push { cls := .type "dict", data := .dict #[] }).get? b = some o := fun b o e => Heap.get?_push_of_some _ e
  have hS0 : H s.heap.objs.size = none := J.hok.fresh (Nat.le_refl _)
  have J0 : L2.Inv X pins σ (upd H s.heap.objs.size (DicO s.heap.objs.size #[] 0)) { s with heap := s.heap.push { cls := .type "dict", data := .dict #[] } } := J.laid (t' := s.toks) k0 (Nat.le_refl _) (dic_ok (X := X) hnew)
  refine ⟨⟨_, hnew, rfl⟩, PySem.F.args_dict_init_2 _ _, ?_⟩
  unfold Builtin.«dict.__init__»
  refine wpAny_bind ?_
  unfold Builtin.Dict.selfAndRest
  refine wpAny_bind (wpAny_notOrdered_dict ⟨_, hnew, rfl⟩ ?_)
  show wpAny _ _ (pure (s.heap.objs.size, [Value.ref a])) _ _ _
  refine wpAny_pure ?_
  show wpAny _ _ (Builtin.Dict.updateFrom "dict.__init__" s.heap.objs.size (.ref a) [] .none) _ _ _
  unfold Builtin.Dict.updateFrom
  refine wpAny_bind (wpAny_typeOf (T := "list") ⟨ol, k0 _ _ ho, hc⟩ ?_)
  rw [if_pos (by first | decide | rfl | simp)]
  refine wpAny_bind (miss_list (k0 _ _ ho) hc hdat hd hh fun h1 tk1 hk1 => ?_)
  rw [if_pos (show (none : Option Value).isNone = true from rfl)]
  refine wpAny_bind (wpAny_rule ?_)
  have hl1 : h1.IsList a its.toArray := ⟨ol, hk1 _ _ (k0 _ _ ho), hc, n, hdat⟩
  have J1 : L2.Inv X pins σ (upd H s.heap.objs.size (DicO s.heap.objs.size #[] 0)) { s with heap := h1, toks := tk1 } := J0.kept hk1
  have hS1 : s.heap.objs.size < h1.objs.size := Heap.lt_size (hk1 _ _ hnew)
  refine wpAny_bind (wpAny_pyIter_list hl1 ?_)
  have k2 : ∀ b o, h1.get? b = some o → (h1.push { cls := .type "list_iterator", data := .fields #[.ref a, .int 0 0] }).get? b = some o := fun b o e => Heap.get?_push_of_some _ e
  have hlt : a < s.heap.objs.size := Heap.lt_size ho
  have J2 : L2.Inv X pins σ (upd H s.heap.objs.size (DicO s.heap.objs.size #[] 0)) { s with heap := h1.push { cls := .type "list_iterator", data := .fields #[.ref a, .int 0 0] }, toks := tk1 } := J1.kept k2
  have mv : ∀ b o, H b = some o → ¬ A b → upd H s.heap.objs.size (DicO s.heap.objs.size #[] 0) b = some o ∧ ¬ (A b ∨ b = s.heap.objs.size) := fun b o e na => by
    have hb : b ≠ s.heap.objs.size := fun z => by rw [z, hS0] at e; cases e
    exact ⟨by rw [upd_ne hb]; exact e, fun z => z.elim na hb⟩
  have hl := rv.length
  have hrl := hr.length
  have key := upd_loopG (X := X) (A0 := X.A.in1) (A := fun b => A b ∨ b = s.heap.objs.size) (R := wants (fun r s₂ => r = .none ∧ EP X pins σ Q (.ref s.heap.objs.size) s₂) X.xe) (S := s.heap.objs.size) (I := h1.objs.size) (l := a) (items := its.toArray) (res := Value.none) hh (by rw [Around.in1_units]; omega)
    (Nat.ne_of_lt (Nat.lt_trans hlt hS1)) (Nat.ne_of_lt hS1) (Nat.ne_of_gt hlt) (.inr rfl) rest ps [] 0 0 0 _ _ xs hps (by simp; omega) (by simp; omega) (hr.move mv) (fun j v hj => by
      obtain ⟨u, e1, e2⟩ := rv.get hj
      exact ⟨u, by simpa using e1, e2⟩) ⟨_, Heap.get?_push_size _ rfl, rfl, rfl⟩ (hl1.at fun o e => k2 _ _ e) J2 (J1.fpOk (Nat.le_refl _) (J1.hok.fresh (Nat.le_refl _))) (dic_empty (beq_eq_false_iff_ne.mpr (Nat.ne_of_gt J.big)))
    (fun s' u J' D' => by
      rw [upd_upd] at J' D'
      exact ⟨rfl, .ref s.heap.objs.size, _, J', rfl, q _ u hS0 D'⟩)
  first
    | exact wpAny_pure ⟨plainId_quiet ud_plain _, key⟩
    | exact wpAny_bind (wpAny_pure (wpAny_pure ⟨plainId_quiet ud_plain _, key⟩))
def gDictL : List PyData → Option Sl
  | [.list rest] => if rest.length < 10000 then (pairsD rest).map fun ps => .ow (.dict (putAll [] ps)) else none
  | _ => none
theorem fnDictL {K : PySem.W.Frag} : FnD K (rDictL K) gDictL := fun A vs ds H s Q hA hr e k => by
  unfold gDictL at e
  split at e
  · rename_i es
    split at e
    · rename_i hz
      obtain ⟨ps, hps, rfl⟩ := Option.map_eq_some_iff.mp e
      obtain ⟨x, rfl, h⟩ := hr.one
      obtain ⟨p, xs, rfl, a1, a2⟩ := h.lst
      exact ⟨A, p, xs, es, ps, rfl, SqL.of a1, a2, hps, hz, fun q u hq D => k _ _ (same_upd hq _) ⟨q, rfl, hq, D⟩⟩
    · cases e
  · cases e
end
end Vw

set_option Elab.async false
set_option linter.all false
set_option maxRecDepth 100000
set_option maxHeartbeats 4000000
/-! dict(d), list(d), len(d) -/
namespace Vw
open PySem PySem.W PyProof.Rows L2

section
variable {P : Program} {w : World} {A : Around} {E : Value → Shared → Prop} {s : Shared} {a S : Addr} {es : Array DictEntry} {ep : Nat} {kds : List PyData}
theorem quietEq_key {k : NestedKey} {u : Value} {Q : Bool → Shared → Prop} (hx : NestedIs s.heap k u) (q : ∀ b, Q b s) : wpAny (model P w) A (Builtin.Dict.quietEq u) Q E s := by
  unfold Builtin.Dict.quietEq
  cases hx with
  | tup h1 h2 h3 h4 =>
    refine wpAny_bind (wpAny_specialOf (T := "tuple") ⟨_, h1, h2⟩ F.slot_tuple_eq.lookup ?_)
    exact wpAny_pure (q _)
  | _ => exact wpAny_pure (q _)
theorem entries_ok {id : String} {Q : Array DictEntry → Shared → Prop} (ho : s.heap.get? a = some (dicObj es ep)) (ka : KeysAre s.heap es kds) (hn : ∀ e ∈ es, (es.filter (·.hash == e.hash)).size ≤ 1) (q : Q es s) : wpAny (model P w) A (Builtin.Dict.entriesForEmpty id a) Q E s := by
  unfold Builtin.Dict.entriesForEmpty
  refine wpAny_bind (wpAny_dictEntries ho rfl ?_)
  refine wpAny_bind ?_
  rw [← Array.forIn_toList]
  refine wpAny_forIn_list _ (fun rest r s' => s' = s ∧ ∀ e ∈ rest, e ∈ es) _ ?_ ?_ _ _ ⟨rfl, fun e he => Array.mem_toList_iff.mp he⟩
  · rintro x rest r s' ⟨rfl, hr⟩
    have hx := hr x List.mem_cons_self
    obtain ⟨j, hj⟩ := Array.mem_iff_getElem?.mp hx
    obtain ⟨d, k, _, _, _, g, _⟩ := ka.key j x hj
    refine wpAny_bind (quietEq_key g fun b => ?_)
    cases b with
    | true =>
      simp only [Bool.not_true, Bool.false_eq_true, if_false]
      exact wpAny_pure ⟨rfl, fun e he => hr e (List.mem_cons_of_mem _ he)⟩
    | false =>
      simp only [Bool.not_false, if_true]
      have := hn x hx
      rw [if_neg (show ¬ (es.filter (·.hash == x.hash)).size > 1 by omega)]
      exact wpAny_pure ⟨rfl, fun e he => hr e (List.mem_cons_of_mem _ he)⟩
  · rintro r s' ⟨rfl, _⟩
    exact wpAny_pure q
theorem showsAll_ok {Q : Unit → Shared → Prop} (hs : (a == sysModules) = false) (q : Q () s) : wpAny (model P w) A (Builtin.Dict.showsAll a) Q E s := by
  unfold Builtin.Dict.showsAll
  rw [if_neg (by rw [hs]; exact Bool.false_ne_true)]
  exact wpAny_pure q
theorem mergeDict_new {id : String} {Q : Unit → Shared → Prop} (hSa : S ≠ a) (hs : (a == sysModules) = false) (hz : es.size ≤ sizeLine) (ho : s.heap.get? a = some (dicObj es ep)) {ep0 : Nat} (hS : s.heap.get? S = some (dicObj #[] ep0)) (ka : KeysAre s.heap es kds) (hn : ∀ e ∈ es, (es.filter (·.hash == e.hash)).size ≤ 1)
    (hf : es.size = 0 ∨ (decide (es.size ≤ 8) && es.all fun e => (keyPart e.key).isSome) = false)
    (q : ∀ h' ep', h'.get? S = some (dicObj es ep') → Heap.SameBut S s.heap h' → Q () { s with heap := h' }) : wpAny (model P w) A (Builtin.Dict.mergeDict id S a) Q E s := by
  unfold Builtin.Dict.mergeDict
  rw [if_neg (by simpa using hSa)]
  refine wpAny_bind (showsAll_ok hs ?_)
  refine wpAny_bind (wpAny_dictEntries ho rfl ?_)
  dsimp only
  rcases hf with h0 | hf
  · have e0 : es = #[] := Array.size_eq_zero_iff.mp h0
    subst e0
    have hall : (decide ((#[] : Array DictEntry).size ≤ 8) && (#[] : Array DictEntry).all fun e => (keyPart e.key).isSome) = true := by simp
    rw [hall]
    rw [if_neg (by decide)]
    refine wpAny_bind (wpAny_dictEpoch ho rfl ?_)
    refine wpAny_bind (wpAny_dictEntries ho rfl ?_)
    refine wpAny_bind ?_
    rw [Std.Legacy.Range.forIn_eq_forIn_range']
    show wpAny _ _ (forIn (List.range' 0 0 1) PUnit.unit _) _ _ _
    rw [List.range'_zero, List.forIn_nil]
    exact wpAny_pure (wpAny_pure (q _ ep0 hS (Heap.SameBut.refl _ _)))
  · rw [hf]
    simp only [Bool.not_false, if_true]
    refine wpAny_bind (wpAny_dictEntries hS rfl ?_)
    rw [if_pos (by rfl)]
    refine wpAny_bind (entries_ok ho ka hn ?_)
    by_cases he : es.isEmpty = true
    · have e0 : es = #[] := by simpa using he
      subst e0
      simp only [Array.isEmpty_empty, Bool.not_true, Bool.false_eq_true, if_false]
      exact wpAny_bind (wpAny_pure (wpAny_pure (q _ ep0 hS (Heap.SameBut.refl _ _))))
    · rw [if_pos (by simpa using he)]
      refine wpAny_bind (wpAny_updateDictKeysTo hS rfl ?_ (by show es.size ≤ _; omega))
      exact wpAny_pure (q _ _ (Heap.get?_update_self _ hS rfl) (Heap.SameBut.update ..))
end
section
variable {X : Cx}
/-- a copy of a dict asks no two keys of one hash -/
def copyB (ds : List (PyData × PyData)) : Bool := ds.isEmpty || ((decide (8 < ds.length) || ds.any fun p => match p.1 with
  | .tuple _ => true
  | _ => false) && decide (ds.map fun p => kh p.1).Nodup)
theorem filter_one {es : Array DictEntry} (h : (es.toList.map (·.hash)).Nodup) : ∀ e ∈ es, (es.filter (·.hash == e.hash)).size ≤ 1 := by
  intro e he
  rw [← Array.length_toList, Array.toList_filter]
  have key : ∀ l : List DictEntry, (l.map (·.hash)).Nodup → (l.filter fun x => x.hash == e.hash).length ≤ 1 := by
    intro l
    induction l with
    | nil => intro _; simp
    | cons a l ih =>
      intro hn
      rw [List.map_cons, List.nodup_cons] at hn
      rw [List.filter_cons]
      split
      · rename_i ha
        have : l.filter (fun x => x.hash == e.hash) = [] := List.filter_eq_nil_iff.mpr fun x hx q => hn.1 (by
          have e1 : a.hash = e.hash := by simpa using ha
          have e2 : x.hash = e.hash := by simpa using q
          rw [e1, ← e2]
          exact List.mem_map.mpr ⟨x, hx, rfl⟩)
        rw [this]; simp
      · exact ih hn.2
  exact key es.toList h
theorem copy_cond {h : Heap} {es : Array DictEntry} {ds : List (PyData × PyData)} (ka : KeysAre h es (ds.map (·.1))) (hc : copyB ds = true) : es.size = 0 ∨ (decide (es.size ≤ 8) && es.all fun e => (keyPart e.key).isSome) = false := by
  have hlen : es.size = ds.length := by have := ka.len; simpa using this
  unfold copyB at hc
  rcases Bool.or_eq_true _ _ ▸ hc with hc | hc
  · have : ds = [] := by simpa using hc
    subst this
    exact .inl (by simpa using hlen)
  · refine .inr ?_
    have hc := (Bool.and_eq_true _ _ ▸ hc).1
    rcases Bool.or_eq_true _ _ ▸ hc with hc | hc
    · have : 8 < ds.length := of_decide_eq_true hc
      rw [decide_eq_false (by omega), Bool.false_and]
    · obtain ⟨p, hp, hpt⟩ := List.any_eq_true.mp hc
      obtain ⟨j, hj⟩ := List.mem_iff_getElem?.mp hp
      have hjl : j < es.size := by have := (List.getElem?_eq_some_iff.mp hj).1; omega
      obtain ⟨d', k', g1, g2, g3, g4, g5⟩ := ka.key j es[j] (Array.getElem?_eq_getElem hjl)
      rw [List.getElem?_map, hj] at g1
      cases g1
      split at hpt
      · rename_i zs hz
        have g2 : nk p.1 = some k' := g2
        rw [hz] at g2
        obtain ⟨ks', _, rfl⟩ := nk_tup g2
        have hkey : (keyPart es[j].key).isSome = false := by
          generalize es[j].key = kk at g4
          cases g4
          rfl
        have : es.all (fun e => (keyPart e.key).isSome) = false := by
          rw [Bool.eq_false_iff]
          intro z
          have := Array.all_eq_true.mp z j hjl
          rw [hkey] at this
          cases this
        rw [this, Bool.and_false]
      · cases hpt
theorem copy_nodup {a : Addr} {es : Array DictEntry} {ks vs : List V} {ds : List (PyData × PyData)} (e : DicOk a es ks vs ds) (hc : copyB ds = true) : (es.toList.map (·.hash)).Nodup := by
  rw [e.hash]
  unfold copyB at hc
  rcases Bool.or_eq_true _ _ ▸ hc with hc | hc
  · have : ds = [] := by simpa using hc
    subst this
    exact .nil
  · exact of_decide_eq_true (Bool.and_eq_true _ _ ▸ hc).2
def rDictC (K : PySem.W.Frag) : List V → Hp → VK → Prop := fun vs H Q => ∃ (A : Addr → Prop) (a : Addr) (ds : List (PyData × PyData)), vs = [.ref a] ∧ DicR K A H a ds ∧ copyB ds = true ∧
  ∀ (p : Addr) (u : HO), H p = none → DicR K (fun b => A b ∨ b = p) (upd H p u) p ds → Q (.ref p) (upd H p u)
theorem c_dictC : CallR X (.type "dict") (rDictC X.K) := by
  intro pins s σ H vs us Q J r q
  obtain ⟨A, a, ds, rfl, ⟨es, ep, ks, vs, hd, e, tt, uu⟩, hc, q⟩ := q
  obtain ⟨u, rfl, rx⟩ := vals1 r
  cases rx
  have ho := dic_at J hd
  have ka := dic_keys J e tt
  have hlen : es.size = ds.length := by have := ka.len; simpa using this
  refine callType_codes (Q₁ := fun obj s₁ => obj = .ref s.heap.objs.size ∧ s₁ = { s with heap := s.heap.push { cls := .type "dict", data := .dict #[] } }) PySem.F.kt_called_dict (PySem.F.kt_typeCall_dict_1 _) PySem.F.entry_dict_init (kt_code_dict_new _ ⟨rfl, rfl⟩) ?_
  rintro obj s₁ ⟨rfl, rfl⟩
  have hnew : (s.heap.push { cls := .type "dict", data := .dict #[] }).get? s.heap.objs.size = some (dicObj #[] 0) := Heap.get?_push_size _ rfl
  have k0 : ∀ b o, s.heap.get? b = some o → (s.heap.push { cls := .type "dict", data := .dict #[] }).get? b = some o := fun b o e => Heap.get?_push_of_some _ e
  have hS0 : H s.heap.objs.size = none := J.hok.fresh (Nat.le_refl _)
  have J0 : L2.Inv X pins σ H { s with heap := s.heap.push { cls := .type "dict", data := .dict #[] } } := J.kept (t' := s.toks) k0
  have ka0 := dic_keys J0 e tt
  refine ⟨⟨_, hnew, rfl⟩, PySem.F.args_dict_init_2 _ _, ?_⟩
  unfold Builtin.«dict.__init__»
  refine wpAny_bind ?_
  unfold Builtin.Dict.selfAndRest
  refine wpAny_bind (wpAny_notOrdered_dict ⟨_, hnew, rfl⟩ ?_)
  show wpAny _ _ (pure (s.heap.objs.size, [Value.ref a])) _ _ _
  refine wpAny_pure ?_
  show wpAny _ _ (Builtin.Dict.updateFrom "dict.__init__" s.heap.objs.size (.ref a) [] .none) _ _ _
  unfold Builtin.Dict.updateFrom
  refine wpAny_bind (wpAny_typeOf (T := "dict") ⟨_, k0 _ _ ho, rfl⟩ ?_)
  rw [if_neg (by decide)]
  refine wpAny_bind ?_
  unfold Builtin.Dict.merge
  refine wpAny_bind ?_
  unfold Builtin.Dict.readDirectly
  refine wpAny_bind (wpAny_isInstance (T := "dict") ⟨_, k0 _ _ ho, rfl⟩ isSubtype_dict_dict ?_)
  simp only [Bool.not_true, Bool.false_eq_true, if_false]
  refine wpAny_bind (wpAny_specialOf (T := "dict") ⟨_, k0 _ _ ho, rfl⟩ F.slot_dict_iter.lookup (wpAny_pure ?_))
  simp only [beq_self_eq_true, if_true]
  refine wpAny_bind (wpAny_pure ?_)
  have hcond := copy_cond ka hc
  have hnod := copy_nodup e hc
  have mv : ∀ (o' : HO) b o, H b = some o → ¬ A b → upd H s.heap.objs.size o' b = some o ∧ ¬ (A b ∨ b = s.heap.objs.size) := fun o' b o e na => by
    have hb : b ≠ s.heap.objs.size := fun z => by rw [z, hS0] at e; cases e
    exact ⟨by rw [upd_ne hb]; exact e, fun z => z.elim na hb⟩
  refine mergeDict_new (Nat.ne_of_gt (Heap.lt_size ho)) e.sys e.size (k0 _ _ ho) hnew ka0 (filter_one hnod) hcond fun h' ep' g' sb => ?_
  show wpAny _ _ (Builtin.Dict.addKeywords s.heap.objs.size [] >>= _) _ _ _
  refine wpAny_bind (wpAny_pure (wpAny_pure ⟨rfl, ?_⟩))
  refine ⟨.ref s.heap.objs.size, _, J.laid (t' := s.toks) (a := s.heap.objs.size) (o := DicO s.heap.objs.size es ep') (fun b o z => ?_) (Nat.le_refl _) (dic_ok (X := X) g'), rfl, q _ _ hS0 ⟨es, ep', ks, vs, upd_same, ⟨beq_eq_false_iff_ne.mpr (Nat.ne_of_gt J.big), e.size, e.keys, e.vals, e.hash, e.ok, e.nodup⟩, ?_, ?_⟩⟩
  · exact (sb.2 b (Nat.ne_of_lt (Heap.lt_size z))).trans (k0 b o z)
  · exact tt.move (mv _)
  · exact uu.move (mv _)
def gDictC : List PyData → Option Sl
  | [.dict ds] => if plainD ds = true ∧ copyB ds = true then some (.ow (.dict ds)) else none
  | _ => none
def gDict : List PyData → Option Sl := fun ds => (gDictL ds).or (gDictC ds)
def rDict (K : PySem.W.Frag) : List V → Hp → VK → Prop := fun vs H Q => rDictL K vs H Q ∨ rDictC K vs H Q
theorem fnDict {K : PySem.W.Frag} : FnD K (rDict K) gDict := fun A vs ds H s Q hA hr e k => by
  unfold gDict at e
  cases e1 : gDictL ds with
  | some s' =>
    rw [e1] at e
    have e2 : s' = s := by simpa using e
    rw [e2] at e1
    exact .inl (fnDictL A vs ds H s Q hA hr e1 k)
  | none =>
    rw [e1] at e
    have e2 : gDictC ds = some s := by simpa using e
    unfold gDictC at e2
    split at e2
    · rename_i es
      split at e2
      · rename_i hc
        cases e2
        obtain ⟨x, rfl, h⟩ := hr.one
        obtain ⟨a, rfl, h3⟩ := h.dic hc.1
        exact .inr ⟨A, a, es, rfl, h3, hc.2, fun q u hq D => k _ _ (same_upd hq _) ⟨q, rfl, hq, D⟩⟩
      · cases e2
    · cases e2
theorem c_dict (hcalm : X.calm = true) (hu : X.A.units + 64 < cLine) : CallR X (.type "dict") (rDict X.K) := fun pins s σ H vs us Q J r q => q.elim (c_dictL hcalm hu pins s σ H vs us Q J r) (c_dictC pins s σ H vs us Q J r)
theorem x_dict {kk : Nat} {a : Expr} {os : List Opd} {p pos : Pos} (hc : X.calm = true) (hr : Room kk X.A) (gl : Gl X "dict") (hm : X.mg "dict" = none) (ha : XA X [a] os) (he : starEach [a] X.env = (false, eval a X.env) :: starEach [] X.env := by rfl) (hpl : (backTo pos (starEach [] X.env)).any (·.1) = false := by rfl) : XE X (.Call (.Name "dict" p) [a] [] pos) (eFn gDict os) :=
  x_callTy (c_dict hc hr.units) fnDict gl hm (by decide +kernel) ha (by decide) (by decide) he hpl
end
end Vw

set_option Elab.async false
set_option linter.all false
set_option maxRecDepth 100000
set_option maxHeartbeats 4000000
/-! list(d), list(d.items()), len(d), d.pop(k) -/
namespace Vw
open PySem PySem.W PyProof.Rows L2

section
variable {X : Cx}
theorem vals_ix : ∀ {vs : List V} {us ws : List Value}, Vals vs us → ws.length = us.length → (∀ (j : Nat) (w : Value), ws[j]? = some w → us[j]? = some w) → Vals vs ws := fun {vs us ws} r hl h => by
  have e : ws = us := List.ext_getElem? fun j => by
    cases hw : ws[j]? with
    | some w => exact (h j w hw).symm
    | none =>
      have := List.getElem?_eq_none_iff.mp hw
      exact (List.getElem?_eq_none_iff.mpr (by omega)).symm
  rw [e]; exact r
/-- list(d) -/
def rListK (K : PySem.W.Frag) : List V → Hp → VK → Prop := fun vs H Q => ∃ (a : Addr) (es : Array DictEntry) (ep : Nat) (ks : List V), vs = [.ref a] ∧ H a = some (DicO a es ep) ∧ (a == sysModules) = false ∧ es.size ≤ sizeLine ∧ Vals ks (es.toList.map (·.key)) ∧ ∀ p, H p = none → Q (.ref p) (upd H p (.lst ks))
theorem c_listK (hcalm : X.calm = true) : CallR X (.type "list") (rListK X.K) := by
  intro pins s σ H vs us Q J r q
  obtain ⟨a, es, ep, ks, rfl, hd, hs, hz, hv, q⟩ := q
  obtain ⟨u, rfl, rx⟩ := vals1 r
  cases rx
  have ho := dic_at J hd
  refine PySem.W.kdl_call (kdl_raw (o := dicObj es ep) (es := es) (ep := ep) hs ⟨rfl, rfl, rfl⟩ rfl) (J.ok.hd hcalm) ho hz fun h' tk acc' c' kp e2 it => ?_
  refine ⟨.ref s.heap.objs.size, _, J.laid (t' := tk) (a := s.heap.objs.size) (o := .lst ks) kp (Nat.le_refl _) ⟨?_, acc'.toList, c', ?_, by rw [Array.toArray_toList]; exact e2⟩, rfl, q _ (J.hok.fresh (Nat.le_refl _))⟩
  · have := hv.length
    simp only [List.length_map, Array.length_toList] at this
    omega
  · refine vals_ix hv ?_ fun j w hw => ?_
    · have := it.1
      simp only [List.length_map, Array.length_toList]
      omega
    · rw [Array.getElem?_toList] at hw
      obtain ⟨en, h1, rfl⟩ := it.2 j w hw
      rw [List.getElem?_map, Array.getElem?_toList, h1]
      rfl
def gListA : List PyData → Option Sl
  | [.dict ds] => if plainD ds = true then some (.ow (.list (ds.map (·.1)))) else none
  | ds => gList ds
def rListA (K : PySem.W.Frag) : List V → Hp → VK → Prop := fun vs H Q => rList K vs H Q ∨ rListK K vs H Q
theorem fnListA {K : PySem.W.Frag} : FnD K (rListA K) gListA := fun A vs ds H s Q hA hr e k => by
  unfold gListA at e
  split at e
  · rename_i es
    split at e
    rotate_left
    · cases e
    rename_i hp
    cases e
    obtain ⟨x, rfl, h⟩ := hr.one
    obtain ⟨a, rfl, ⟨en, ep, ks, vs, hd, e, tt, uu⟩⟩ := h.dic hp
    exact .inr ⟨a, en, ep, ks, rfl, hd, e.sys, e.size, e.keys, fun q hq => k _ _ (same_upd hq _) ⟨q, rfl, hq, new_lst tt hq⟩⟩
  · exact .inl (fnList A vs _ H s Q hA hr e k)
theorem c_listA (hcalm : X.calm = true) : CallR X (.type "list") (rListA X.K) := fun pins s σ H vs us Q J r q => q.elim (c_list pins s σ H vs us Q J r) (c_listK hcalm pins s σ H vs us Q J r)
theorem x_listA {a : Expr} {os : List Opd} {p pos : Pos} (hc : X.calm = true) (gl : Gl X "list") (hm : X.mg "list" = none) (ha : XA X [a] os) (he : starEach [a] X.env = (false, eval a X.env) :: starEach [] X.env := by rfl) (hpl : (backTo pos (starEach [] X.env)).any (·.1) = false := by rfl) : XE X (.Call (.Name "list" p) [a] [] pos) (eFn gListA os) :=
  x_callTy (c_listA hc) fnListA gl hm (by decide +kernel) ha (by decide) (by decide) he hpl
end
end Vw

set_option Elab.async false
set_option linter.all false
set_option maxRecDepth 100000
set_option maxHeartbeats 4000000
/-! list(d.items()) -/
namespace Vw
open PySem PySem.W PyProof.Rows L2

/-- the pairs' tuples, each at its own address -/
def putG : Hp → List Addr → List (V × V) → Hp
  | H, a :: as, p :: kvs => putG (upd H a (.tup [p.1, p.2])) as kvs
  | H, _, _ => H
theorem putG_off {b : Addr} : ∀ (as : List Addr) (kvs : List (V × V)) (H : Hp), b ∉ as → putG H as kvs b = H b
  | [], _, _, _ => rfl
  | _ :: _, [], _, _ => rfl
  | a :: as, p :: kvs, H, h => by
    show putG (upd H a (.tup [p.1, p.2])) as kvs b = H b
    rw [putG_off as kvs _ (fun z => h (List.mem_cons_of_mem _ z)), upd_ne (fun z => h (by rw [z]; exact List.mem_cons_self))]
theorem putG_at : ∀ (as : List Addr) (kvs : List (V × V)) (H : Hp), as.length = kvs.length → as.Nodup → ∀ (j : Nat) (a : Addr) (p : V × V), as[j]? = some a → kvs[j]? = some p → putG H as kvs a = some (.tup [p.1, p.2])
  | [], _, _, _, _, j, a, p, h, _ => by simp at h
  | _ :: _, [], _, h, _, _, _, _, _, _ => by cases h
  | a :: as, p :: kvs, H, h, hn, 0, a', p', e, f => by
    simp at e f
    subst e f
    show putG (upd H a (.tup [p.1, p.2])) as kvs a = _
    rw [putG_off as kvs _ (List.nodup_cons.mp hn).1, upd_same]
  | a :: as, p :: kvs, H, h, hn, j + 1, a', p', e, f => putG_at as kvs (upd H a (.tup [p.1, p.2])) (Nat.succ.inj h) (List.nodup_cons.mp hn).2 j a' p' (by simpa using e) (by simpa using f)
theorem vals_refs : ∀ as : List Addr, Vals (as.map V.ref) (as.map Value.ref)
  | [] => .nil
  | _ :: as => .cons rfl (vals_refs as)
section
variable {X : Cx} {e : Expr} {te : TE} {p apos cpos pos : Pos}
theorem items_laidG {pins : List (Addr × Obj)} {σ : L2.St} {H : Hp} {s : Shared} {h' : Heap} {tk : Nat} {es : Array DictEntry} {ks vs : List V} {acc : Array Value} {c : Nat} {as : List Addr} (I : Inv X pins σ H s) (hz : es.size ≤ sizeLine) (hks : Vals ks (es.toList.map (·.key))) (hvs : Vals vs (es.toList.map (·.val)))
    (hk : ∀ b o, s.heap.get? b = some o → h'.get? b = some o) (hS : h'.get? s.heap.objs.size = some { cls := .type "list", dict := none, data := .seq acc c, slots := #[] }) (hl : as.length = es.size) (hG : DT.Made es s.heap.objs.size h' as) (hacc : acc.toList = as.map Value.ref) :
    ∃ H' : Hp, Same H H' ∧ H s.heap.objs.size = none ∧ (∀ t ∈ as, H t = none) ∧ H' s.heap.objs.size = some (.lst (as.map V.ref)) ∧ (∀ (j : Nat) (a : Addr) (k v : V), as[j]? = some a → ks[j]? = some k → vs[j]? = some v → H' a = some (.tup [k, v])) ∧ Inv X pins σ H' { s with heap := h', toks := tk } := by
  have l1 := hks.length
  have l2 := hvs.length
  simp only [List.length_map, Array.length_toList] at l1 l2
  have lz : (ks.zip vs).length = es.size := by simp only [List.length_zip]; omega
  have hSn : s.heap.objs.size ∉ as := fun z => Nat.lt_irrefl _ (hG.above _ z)
  have nd : as.Nodup := List.Pairwise.imp (fun {a b} (h : a < b) => Nat.ne_of_lt h) hG.rise
  have new : ∀ t ∈ as, H t = none := fun t ht => I.hok.fresh (Nat.le_of_lt (hG.above t ht))
  have newS : H s.heap.objs.size = none := I.hok.fresh (Nat.le_refl _)
  have atP := putG_at as (ks.zip vs) (upd H s.heap.objs.size (.lst (as.map V.ref))) (by omega) nd
  have off : ∀ b, b ∉ as → b ≠ s.heap.objs.size → putG (upd H s.heap.objs.size (.lst (as.map V.ref))) as (ks.zip vs) b = H b := fun b h1 h2 => by rw [putG_off as _ _ h1, upd_ne h2]
  have low : ∀ b o, s.heap.get? b = some o → b ∉ as ∧ b ≠ s.heap.objs.size := fun b o e => ⟨fun z => absurd (Heap.lt_size e) (Nat.not_lt.mpr (Nat.le_of_lt (hG.above b z))), Nat.ne_of_lt (Heap.lt_size e)⟩
  have kp : ∀ b u, H b = some u → (putG (upd H s.heap.objs.size (.lst (as.map V.ref))) as (ks.zip vs)) b = some u := fun b u e => by
    rw [off b (fun z => by rw [new b z] at e; cases e) (fun z => by rw [z, newS] at e; cases e)]
    exact e
  have eS : putG (upd H s.heap.objs.size (.lst (as.map V.ref))) as (ks.zip vs) s.heap.objs.size = some (.lst (as.map V.ref)) := by rw [putG_off as _ _ hSn, upd_same]
  refine ⟨putG (upd H s.heap.objs.size (.lst (as.map V.ref))) as (ks.zip vs), kp, newS, new, eS, fun j a k v h1 h2 h3 => atP j a (k, v) h1 (by rw [List.getElem?_zip_eq_some]; exact ⟨h2, h3⟩), ?_⟩
  refine I.call' (ch := []) rfl ⟨fun b o q _ _ _ => hk b o q, fun b o q _ _ _ => ⟨o.slots, hk b o q⟩, fun b o q n _ => ?_, fun b o q _ => ⟨o, hk b o q⟩, fun b xs q => kp b _ q, fun b o u q => kp b _ q, fun b ps q => ⟨#[], by rw [kp b _ q]; simp⟩⟩ (fun b u q => ?_) I.bare fun b z => by simp at z
  · obtain ⟨z1, z2⟩ := low b o q
    rw [off b z1 z2]
    exact n
  · by_cases hb : b ∈ as
    · obtain ⟨j, hj⟩ := List.mem_iff_getElem?.mp hb
      obtain ⟨en, g1, g2⟩ := hG.pairs j b hj
      have hjl : j < es.size := (Array.getElem?_eq_some_iff.mp g1).1
      have k1 : ks[j]? = some (ks[j]'(by omega)) := List.getElem?_eq_getElem _
      have v1 : vs[j]? = some (vs[j]'(by omega)) := List.getElem?_eq_getElem _
      obtain ⟨uk, e1, r1⟩ := hks.get k1
      obtain ⟨uv, e2, r2⟩ := hvs.get v1
      rw [List.getElem?_map, Array.getElem?_toList, g1] at e1 e2
      cases e1
      cases e2
      rw [atP j b (ks[j]'(by omega), vs[j]'(by omega)) hj (by rw [List.getElem?_zip_eq_some]; exact ⟨k1, v1⟩)] at q
      cases q
      exact ⟨by show 2 ≤ sizeLine; decide, [en.key, en.val], .cons r1 (.cons r2 .nil), ⟨_, g2, rfl, _, rfl⟩⟩
    · by_cases hb2 : b = s.heap.objs.size
      · rw [hb2] at q ⊢
        rw [eS] at q
        cases q
        refine ⟨by rw [List.length_map]; omega, acc.toList, c, by rw [hacc]; exact vals_refs as, ?_⟩
        rw [Array.toArray_toList]
        exact hS
      · rw [off b hb hb2] at q
        exact (I.hok b u q).stay (fun d v _ y => hk d v y) (fun d y => kp d _ y) fun d xs y => kp d _ y
section
variable {P : Program} {w : World} {A : Around} {E : Value → Shared → Prop} {s : Shared} {r d : Addr} {es : Array DictEntry} {ep : Nat}
theorem list_items {Q : Value → Shared → Prop} (hh : A.handled = none) (hv : s.heap.IsItemsView r d) (hm : DT.Raw s.heap d es ep) (hn : es.size ≤ sizeLine)
    (hQ : ∀ h' tk acc c as, (∀ b o, s.heap.get? b = some o → h'.get? b = some o) → h'.get? s.heap.objs.size = some { cls := .type "list", dict := none, data := .seq acc c, slots := #[] } → as.length = es.size → DT.Made es s.heap.objs.size h' as → acc.toList = as.map Value.ref → Q (.ref s.heap.objs.size) { s with heap := h', toks := tk }) :
    wpAny (model P w) A (call (.type "list") [.ref r]) Q E s := by
  refine callType_codes (Q₁ := fun obj s₁ => obj = .ref s.heap.objs.size ∧ s₁ = { s with heap := s.heap.push { cls := .type "list", data := .seq #[] } }) PySem.F.called_list (PySem.F.typeCall_list_1 _) PySem.F.entry_list_init
    (code_list_new _ ⟨rfl, rfl⟩) fun obj s₁ h₁ => ?_
  obtain ⟨rfl, rfl⟩ := h₁
  have hS : (s.heap.push { cls := .type "list", data := .seq #[] }).get? s.heap.objs.size = some { cls := .type "list", data := .seq #[] } := Heap.get?_push_size _ rfl
  have hr : r < s.heap.objs.size := let ⟨_, ho, _⟩ := hv; Heap.lt_size ho
  have hd : d < s.heap.objs.size := hm.lt
  refine ⟨⟨_, hS, rfl⟩, PySem.F.args_list_init_2 _ _, ?_⟩
  show wpAny _ _ (do let old ← Builtin.List.listItems (.ref s.heap.objs.size); Builtin.List.listUpdate (.ref s.heap.objs.size) (fun _ => #[]); letGo old.toList.reverse; Builtin.List.listExtendWith (.ref s.heap.objs.size) (.ref r) .none) _ _ _
  refine wpAny_bind ?_
  unfold Builtin.List.listItems
  refine wpAny_bind (wpAny_seqItems hS rfl (wpAny_pure ?_))
  show wpAny _ _ (updateSeq s.heap.objs.size (fun _ => #[]) >>= fun _ => letGo (#[] : Array Value).toList.reverse >>= fun _ => Builtin.List.listExtendWith (.ref s.heap.objs.size) (.ref r) .none) _ _ _
  refine wpAny_bind (wpAny_updateSeq hS rfl ?_)
  have hS₂ := Heap.get?_update_self (Obj.mapSeq (fun _ => (#[] : Array Value))) hS rfl
  have oth : ∀ b o, b ≠ s.heap.objs.size → s.heap.get? b = some o → ((s.heap.push { cls := .type "list", data := .seq #[] }).update s.heap.objs.size (Obj.mapSeq (fun _ => (#[] : Array Value)))).get? b = some o :=
    fun b o hb e => (Heap.get?_update_other _ _ (Ne.symm hb)).trans (Heap.get?_push_of_some _ e)
  refine wpAny_bind (wpAny_letGo ?_)
  refine DT.extI (prog := P) (w := w) (A := A.in1) (s := { s with heap := (s.heap.push { cls := .type "list", data := .seq #[] }).update s.heap.objs.size (Obj.mapSeq (fun _ => (#[] : Array Value))) }) (es := es) (ep := ep) hh (let ⟨o, ho, x⟩ := hv; ⟨o, oth r o (Nat.ne_of_lt hr) ho, x⟩) (hm.at' fun o e => oth d o (Nat.ne_of_lt hd) e) s.heap.objs.size (Nat.ne_of_gt hr) (Nat.ne_of_lt hd) .none _ hS₂ (fun h' tk acc c as hk hS' hl hG hacc => ?_) hn
  exact ⟨rfl, hQ h' tk acc c as (fun b o e => hk b o (Nat.ne_of_lt (Heap.lt_size e)) (oth b o (Nat.ne_of_lt (Heap.lt_size e)) e)) hS' hl (hG.low (by show s.heap.objs.size ≤ ((s.heap.push { cls := .type "list", data := .seq #[] }).update s.heap.objs.size (Obj.mapSeq (fun _ => (#[] : Array Value)))).objs.size; exact Nat.le_of_lt (Heap.lt_size hS₂))) hacc⟩
end
theorem rep_ix {K : PySem.W.Frag} {A : Addr → Prop} {H : Hp} : ∀ {vs : List V} {ds : List PyData}, vs.length = ds.length → (∀ (j : Nat) (v : V) (d : PyData), vs[j]? = some v → ds[j]? = some d → Rep K A H v d) → RepAll K A H vs ds
  | [], [], _, _ => .nil
  | [], _ :: _, h, _ => by cases h
  | _ :: _, [], h, _ => by cases h
  | v :: vs, d :: ds, h, k => .cons (k 0 v d rfl rfl) (rep_ix (Nat.succ.inj h) fun j v' d' e f => k (j + 1) v' d' (by simpa using e) (by simpa using f))
/-- list(e.items()) -/
def rItemsG (K : PySem.W.Frag) : V → Hp → VK → Prop := fun x H Q => ∃ (d : Addr) (es : Array DictEntry) (ep : Nat) (ks vs : List V), x = .ref d ∧ H d = some (DicO d es ep) ∧ (d == sysModules) = false ∧ es.size ≤ sizeLine ∧ Vals ks (es.toList.map (·.key)) ∧ Vals vs (es.toList.map (·.val)) ∧
  ∀ (H' : Hp) (p : Addr) (ts : List Addr), Same H H' → H p = none → (∀ t ∈ ts, H t = none) → ts.length = es.size → H' p = some (.lst (ts.map V.ref)) → (∀ (j : Nat) (a : Addr) (k v : V), ts[j]? = some a → ks[j]? = some k → vs[j]? = some v → H' a = some (.tup [k, v])) → Q (.ref p) H'
theorem pe_listItemsG (hc : X.calm = true) (he : PE X e te) (hg : Gl X "list") (hm : X.mg "list" = none) (hv : bootBuiltins "list" = some (.type "list")) (hbase : attributeBase e "items" X.env (eval e X.env) = eval e X.env := by rfl) (hline : (apos.endLine == cpos.line) = true := by rfl)
    (hs : starEach [.Call (.Attribute e "items" apos) [] [] cpos] X.env = (false, eval (.Call (.Attribute e "items" apos) [] [] cpos) X.env) :: starEach [] X.env := by rfl) :
    PE X (.Call (.Name "list" p) [.Call (.Attribute e "items" apos) [] [] cpos] [] pos) (fun σ H Q => te σ H fun x H1 => rItemsG X.K x H1 Q) := by
  refine ⟨fun pins s σ H Q I hq => ?_⟩
  refine wpAny_Call_Name_kw (ld_blt I hg hm hv ?_)
  refine PyProof.Rows.callWith_type1 ?_ hs rfl
  rw [hs]
  show wpAny _ _ (spliced ((false, eval (.Call (.Attribute e "items" apos) [] [] cpos) X.env) :: backTo pos (starEach [] X.env))) _ _ s
  refine Calls.spliced_cons ?_
  refine wpAny_Call_method (T := "dict") (id := "dict.items") hbase rfl hline F.plainAttrs_dict F.slot_dict_items F.type_dict_items (thn (he.run pins s σ H _ I hq) fun u s1 ⟨x, H1, I1, rx, d, es, ep, ks, vs, ex, hd, hs0, hz, hks, hvs, q⟩ => ?_)
  subst ex
  obtain rfl : u = Value.ref d := rx
  have ho := dic_at I1 hd
  have hraw : DT.Raw s1.heap d es ep := ⟨_, ho, ⟨rfl, rfl, rfl⟩, rfl⟩
  have I2 : Inv X pins σ H1 { s1 with heap := s1.heap.push { cls := .type "dict_items", data := .fields #[.ref d] } } := I1.kept (t' := s1.toks) fun b ob q => Heap.get?_push_of_some _ q
  refine ⟨hraw.typeIs, fun b hb => (by cases hb; exact ⟨_, ho, rfl⟩), ?_⟩
  show wpAny _ _ (callWith cpos (.builtin "dict.items") [.ref d] [] []) _ X.xe s1
  refine method_meetsIn F.slot_dict_items F.entry_dict_items rfl (PySem.evalArgs_none ⟨rfl, hraw.typeIs, F.args_dict_items_1 _, _, DT.meetsItems (es := es) (ep := ep) hs0, hraw, ?_⟩)
  refine Calls.spliced_nil ?_
  refine list_items (d := d) (es := es) (ep := ep) (I1.ok.hd hc) ⟨_, Heap.get?_push_size _ rfl, rfl, rfl⟩ (hraw.push _) hz fun h' tk acc c as hk hS hl hG hacc => ?_
  obtain ⟨H', k1, k2, k3, k4, k5, J⟩ := items_laidG (tk := tk) I2 hz hks hvs hk hS hl hG hacc
  exact ⟨.ref _, H', J, rfl, q H' _ as k1 k2 k3 hl k4 k5⟩
def gItems : List PyData → Option Sl
  | [.dict ds] => if plainD ds = true then some (.ow (.list (ds.map fun p => .tuple [p.1, p.2]))) else none
  | _ => none
theorem fnItems {K : PySem.W.Frag} : FnD K (fun vs H Q => ∀ x, vs = [x] → rItemsG K x H Q) gItems := fun A vs ds H s Q hA hr e k x hx => by
  subst hx
  unfold gItems at e
  split at e
  · rename_i ds
    split at e
    rotate_left
    · cases e
    rename_i hp
    cases e
    obtain ⟨x', e', h⟩ := hr.one
    cases e'
    obtain ⟨a, rfl, ⟨es, ep, ks, vs, hd, e, tt, uu⟩⟩ := h.dic hp
    refine ⟨a, es, ep, ks, vs, rfl, hd, e.sys, e.size, e.keys, e.vals, fun H' p ts sm hp hts hl hP hT => k _ _ sm ⟨p, rfl, hp, ts.map V.ref, hP, ?_⟩⟩
    have l1 := tt.length
    have l2 := uu.length
    have l3 := e.keys.length
    simp only [List.length_map, Array.length_toList] at l1 l2 l3
    have mv : ∀ b o, H b = some o → ¬ A b → H' b = some o ∧ ¬ (A b ∨ b = p) := fun b o e na => ⟨sm b o e, fun z => z.elim na fun z => by rw [z, hp] at e; cases e⟩
    have tt' := tt.move mv
    have uu' := uu.move mv
    refine rep_ix (by simp; omega) fun j v d' hv hd' => ?_
    rw [List.getElem?_map] at hv hd'
    obtain ⟨t, ht, rfl⟩ := Option.map_eq_some_iff.mp hv
    obtain ⟨q, hq, rfl⟩ := Option.map_eq_some_iff.mp hd'
    have hjl : j < ds.length := (List.getElem?_eq_some_iff.mp hq).1
    obtain ⟨kv, hk1, rk⟩ := tt'.get (i := j) (d := q.1) (by rw [List.getElem?_map, hq]; rfl)
    obtain ⟨vv, hv1, rv⟩ := uu'.get (i := j) (d := q.2) (by rw [List.getElem?_map, hq]; rfl)
    have htup := hT j t kv vv ht hk1 hv1
    have hnt := hts t (List.mem_of_getElem? ht)
    refine .tup (fun z => z.elim (fun z => hA t z hnt) fun z => ?_) (.inl htup) (.cons rk (.cons rv .nil))
    subst z
    rw [hP] at htup
    cases htup
  · cases e
end
section
variable {X : Cx} {e : Expr} {o : Opd} {p apos cpos pos : Pos}
theorem x_items (hc : X.calm = true) (hg : Gl X "list") (hm : X.mg "list" = none) (ha : XO X e o) (hbase : attributeBase e "items" X.env (eval e X.env) = eval e X.env := by rfl) (hline : (apos.endLine == cpos.line) = true := by rfl)
    (hs : starEach [.Call (.Attribute e "items" apos) [] [] cpos] X.env = (false, eval (.Call (.Attribute e "items" apos) [] [] cpos) X.env) :: starEach [] X.env := by rfl) :
    XE X (.Call (.Name "list" p) [.Call (.Attribute e "items" apos) [] [] cpos] [] pos) (eFn gItems [o]) := pe_imp (pe_listItemsG hc ha hg hm (by decide +kernel) hbase hline hs) fun σ H Q q => by
  have h := pM1 (tM_fn fnItems q)
  exact oM_mono h fun x H1 h => h x rfl
end
end Vw

set_option Elab.async false
set_option linter.all false
set_option maxRecDepth 100000
set_option maxHeartbeats 4000000
/-! d.update(e), d an own dict, e a dict -/
namespace Vw
open PySem PySem.W PyProof.Rows L2

section
variable {P : Program} {w : World} {A : Around} {E : Value → Shared → Prop} {s : Shared} {d : Addr} {es : Array DictEntry} {ep : Nat} {kds : List PyData} {u : Value} {kd : PyData} {k : NestedKey}
theorem setH_key {v : Value} {Q : Unit → Shared → Prop} (hu : A.units + 8 < cLine) (hz : es.size ≤ sizeLine) (hk : nk kd = some k) (h8 : k.depth ≤ 8) (hx : NestedIs s.heap k u)
    (ho : s.heap.get? d = some (dicObj es ep)) (ka : KeysAre s.heap es kds)
    (q0 : (∀ j : Nat, kds[j]? ≠ some kd) → ∀ h', h'.get? d = some (dicObj (es.push ⟨kh kd, u, v⟩) (ep + 1)) → Heap.SameBut d s.heap h' → Q () { s with heap := h' })
    (q1 : ∀ (j : Nat), kds[j]? = some kd → ∀ h', h'.get? d = some (dicObj (es.modify j fun e => { e with val := v }) ep) → Heap.SameBut d s.heap h' → Q () { s with heap := h' }) :
    wpAny (model P w) A (dictSetHashed d u (kh kd) v) Q E s := by
  unfold dictSetHashed
  try with_reducible refine wpAny_holding ?_
  refine wpAny_bind (find_key hu hk h8 hx ho rfl ka ?_ ?_)
  · intro h
    exact wpAny_bind (wpAny_rule (wpAny_updateDictKeys (hz := hz) ho rfl (q0 h _ (Heap.get?_update_self _ ho rfl) (Heap.SameBut.update ..))))
  · intro j hj
    exact wpAny_bind (wpAny_rule (wpAny_bind (wpAny_updateDict ho rfl (wpAny_point (q1 j hj _ (Heap.get?_update_self _ ho rfl) (Heap.SameBut.update ..))))))
end
section
variable {X : Cx} {pins : List (Addr × Obj)} {σ : L2.St}
theorem upd_id {H : Hp} {a : Addr} {o : HO} (h : H a = some o) : upd H a o = H := by
  funext b
  by_cases hb : b = a
  · subst hb; rw [upd_same, h]
  · rw [upd_ne hb]
theorem putAll_snoc (p : PyData × PyData) : ∀ (ps acc : List (PyData × PyData)), putAll acc (ps ++ [p]) = putD (putAll acc ps) p.1 p.2
  | [], acc => rfl
  | q :: ps, acc => putAll_snoc p ps (putD acc q.1 q.2)
theorem putAll_len : ∀ (ps acc : List (PyData × PyData)), (putAll acc ps).length ≤ acc.length + ps.length
  | [], acc => Nat.le_refl _
  | q :: ps, acc => by
    have h1 := putAll_len ps (putD acc q.1 q.2)
    have h2 := putD_len acc q.1 q.2
    rw [putAll, List.length_cons]
    omega
/-- entry by entry -/
theorem merge_loop {A0 : Around} {A : Addr → Prop} {E : Value → Shared → Prop} {nm : String} {p a : Addr} {s : Shared} {H : Hp} {es : Array DictEntry} {ep : Nat} {ks vs : List V} {ds acc : List (PyData × PyData)} {Q : Unit → Shared → Prop} (hu : A0.units + 8 < cLine) (hpa : p ≠ a) (hs : (a == sysModules) = false) (hA : A p)
    (J : L2.Inv X pins σ H s) (ho : H a = some (DicO a es ep)) (e : DicOk a es ks vs ds) (t : RepAll X.K A H ks (ds.map (·.1))) (uu : RepAll X.K A H vs (ds.map (·.2))) (D : DicR X.K A H p acc) (hln : acc.length + ds.length < 10000) (hne : acc ≠ [] ∨ (decide (es.size ≤ 8) && es.all fun e => (keyPart e.key).isSome) = true)
    (q : ∀ s' u, L2.Inv X pins σ (upd H p u) s' → DicR X.K A (upd H p u) p (putAll acc ds) → Q () s') : wpAny (model X.prog X.w) A0 (Builtin.Dict.mergeDict nm p a) Q E s := by
  have hoa := dic_at J ho
  have ka := dic_keys J e t
  have hlen : es.size = ds.length := by have := ka.len; simpa using this
  obtain ⟨es0, ep0, ks0, vs0, hp0, e0, t0, u0⟩ := id D
  have hop := dic_at J hp0
  have hl0 : es0.size = acc.length := by have := (dic_keys J e0 t0).len; simpa using this
  unfold Builtin.Dict.mergeDict
  rw [if_neg (by simpa using hpa)]
  refine wpAny_bind (showsAll_ok hs ?_)
  refine wpAny_bind (wpAny_dictEntries hoa rfl ?_)
  dsimp only
  have loop : wpAny (model X.prog X.w) A0 (do
      let epoch ← dictEpoch a
      for i in [0:(← dictEntries a).size] do
        let some e := (← dictEntries a)[i]? | unsupported "internal:dict-merge"
        holding [e.key, e.val] (dictSetHashed p e.key e.hash e.val)
        if (← dictEpoch a) != epoch then unsupported s!"{nm}:source-changed-during-callback") Q E s := by
    refine wpAny_bind (wpAny_dictEpoch hoa rfl ?_)
    refine wpAny_bind (wpAny_dictEntries hoa rfl ?_)
    refine wpAny_bind ?_
    rw [Std.Legacy.Range.forIn_eq_forIn_range']
    simp only [Std.Legacy.Range.size, Nat.sub_zero, Nat.add_sub_cancel, Nat.div_one]
    refine wpAny_forIn_list _
      (fun rest _ s' => ∃ (i : Nat) (o : HO), rest = List.range' i (es.size - i) ∧ i ≤ es.size ∧ L2.Inv X pins σ (upd H p o) s' ∧ DicR X.K A (upd H p o) p (putAll acc (ds.take i)))
      _ ?_ ?_ _ _ ⟨0, DicO p es0 ep0, by simp, Nat.zero_le _, ?_, ?_⟩
    · rintro x rest b s' ⟨i, o, hr, hi, J', D'⟩
      have hlt : i < es.size := by
        rcases Nat.lt_or_ge i es.size with h | h
        · exact h
        · rw [Nat.sub_eq_zero_of_le h] at hr; cases hr
      rw [show es.size - i = (es.size - (i + 1)) + 1 by omega, List.range'_succ] at hr
      obtain ⟨rfl, rfl⟩ := List.cons.inj hr
      have ho' : upd H p o a = some (DicO a es ep) := by rw [upd_ne (Ne.symm hpa)]; exact ho
      have hoa' := dic_at J' ho'
      refine wpAny_bind (wpAny_dictEntries hoa' rfl ?_)
      have hen : es[x]? = some es[x] := Array.getElem?_eq_getElem hlt
      rw [hen]
      dsimp only
      have hdl : x < ds.length := by omega
      have hk1 : (ds.map (·.1))[x]? = some ds[x].1 := by rw [List.getElem?_map, List.getElem?_eq_getElem hdl]; rfl
      have hv1 : (ds.map (·.2))[x]? = some ds[x].2 := by rw [List.getElem?_map, List.getElem?_eq_getElem hdl]; rfl
      have mv := own_mut (H := H) hA o
      obtain ⟨kv, hkv, rk⟩ := (t.move mv).get hk1
      obtain ⟨vv, hvv, rv⟩ := (uu.move mv).get hv1
      obtain ⟨uk, huk, ruk⟩ := e.keys.get hkv
      obtain ⟨uv, huv, ruv⟩ := e.vals.get hvv
      rw [List.getElem?_map, Array.getElem?_toList, hen] at huk huv
      cases huk
      cases huv
      have hk := e.ok _ (List.mem_of_getElem? hk1)
      obtain ⟨k, k1, k2⟩ := id hk
      have hh : es[x].hash = kh ds[x].1 := by
        obtain ⟨d', k', g1, g2, g3, g4, g5⟩ := ka.key x es[x] hen
        rw [hk1] at g1
        cases g1
        exact g5
      rw [hh]
      obtain ⟨es1, ep1, ks1, vs1, hp1, e1, t1, u1⟩ := id D'
      have hl1 : es1.size = (putAll acc (ds.take x)).length := by have := (dic_keys J' e1 t1).len; simpa using this
      have hll := putAll_len (ds.take x) acc
      rw [List.length_take] at hll
      have nxt : ∀ (s2 : Shared) (o2 : HO), L2.Inv X pins σ (upd (upd H p o) p o2) s2 → DicR X.K A (upd (upd H p o) p o2) p (putD (putAll acc (ds.take x)) ds[x].1 ds[x].2) → ∃ (i : Nat) (o : HO), List.range' (x + 1) (es.size - (x + 1)) = List.range' i (es.size - i) ∧ i ≤ es.size ∧ L2.Inv X pins σ (upd H p o) s2 ∧ DicR X.K A (upd H p o) p (putAll acc (ds.take i)) := fun s2 o2 J2 D2 => by
        rw [upd_upd] at J2 D2
        refine ⟨x + 1, o2, rfl, hlt, J2, ?_⟩
        rw [List.take_succ_eq_append_getElem hdl, putAll_snoc]
        exact D2
      refine wpAny_bind (wpAny_holding (setH_key hu e1.size k1 k2 (rd_nested k (rk.reads J' (nk_read k1 k2) ruk) k1) (dic_at J' hp1) (dic_keys J' e1 t1) (fun hno h' g' sb => ?_) fun j hj h' g' sb => ?_))
      · obtain ⟨J2, D2⟩ := dic_put0 (tk := s'.toks) J' hA hp1 e1 t1 u1 ruk ruv rk rv hk (by omega) hno g' sb
        have hoa2 : h'.get? a = some (dicObj es ep) := (sb.2 a (Ne.symm hpa)).trans hoa'
        refine wpAny_bind (wpAny_dictEpoch hoa2 rfl ?_)
        rw [if_neg (by simp)]
        exact wpAny_pure (nxt _ _ J2 D2)
      · obtain ⟨J2, D2⟩ := dic_put1 (tk := s'.toks) J' hA hp1 e1 t1 u1 ruv rv hk hj g' sb
        have hoa2 : h'.get? a = some (dicObj es ep) := (sb.2 a (Ne.symm hpa)).trans hoa'
        refine wpAny_bind (wpAny_dictEpoch hoa2 rfl ?_)
        rw [if_neg (by simp)]
        exact wpAny_pure (nxt _ _ J2 D2)
    · rintro b s' ⟨i, o, hr, hi, J', D'⟩
      have hie : i = es.size := by
        rcases Nat.lt_or_ge i es.size with h | h
        · rw [show es.size - i = (es.size - (i + 1)) + 1 by omega, List.range'_succ] at hr; cases hr
        · omega
      rw [hie, hlen, List.take_length] at D'
      exact wpAny_pure (q s' o J' D')
    · rw [upd_id hp0]; exact J
    · rw [upd_id hp0]; exact D
  rcases h : (decide (es.size ≤ 8) && es.all fun e => (keyPart e.key).isSome) with _ | _
  · simp only [Bool.not_false, if_true]
    refine wpAny_bind (wpAny_dictEntries hop rfl ?_)
    have hne' : acc ≠ [] := by
      rcases hne with hne | hne
      · exact hne
      · rw [h] at hne; cases hne
    have : es0.isEmpty = false := by
      rw [Bool.eq_false_iff]
      intro z
      have : es0.size = 0 := by simpa using z
      exact hne' (List.length_eq_zero_iff.mp (by omega))
    rw [this]
    exact loop
  · exact loop
end
/-- all keys by value, few of them -/
def fewB (ds : List (PyData × PyData)) : Bool := decide (ds.length ≤ 8) && ds.all fun p => match p.1 with
  | .int _ => true
  | .none => true
  | _ => false
def updB (acc ds : List (PyData × PyData)) : Bool := !acc.isEmpty || fewB ds || copyB ds
theorem few_cond {h : Heap} {es : Array DictEntry} {ds : List (PyData × PyData)} (ka : KeysAre h es (ds.map (·.1))) (hf : fewB ds = true) : (decide (es.size ≤ 8) && es.all fun e => (keyPart e.key).isSome) = true := by
  have hlen : es.size = ds.length := by have := ka.len; simpa using this
  obtain ⟨h1, h2⟩ := Bool.and_eq_true _ _ ▸ hf
  rw [show decide (es.size ≤ 8) = true from by rw [hlen]; exact h1, Bool.true_and]
  refine Array.all_eq_true.mpr fun j hj => ?_
  obtain ⟨d', k', g1, g2, g3, g4, g5⟩ := ka.key j es[j] (Array.getElem?_eq_getElem hj)
  rw [List.getElem?_map, List.getElem?_eq_getElem (show j < ds.length by omega)] at g1
  have g1 : ds[j].1 = d' := Option.some.inj g1
  have h3 := List.all_eq_true.mp h2 _ (List.getElem_mem (show j < ds.length by omega))
  rw [← g1] at g2
  generalize ds[j].1 = kd at g2 h3
  generalize es[j].key = kk at g4
  cases kd with
  | none => cases g2; cases g4; rfl
  | int i => cases g2; cases g4 <;> rfl
  | _ => cases h3
theorem putD_nil_map : ∀ (ds : List (PyData × PyData)) (acc : List (PyData × PyData)), (acc ++ ds).map (·.1) = (acc.map (·.1)) ++ ds.map (·.1) := fun ds acc => List.map_append
theorem putAll_new : ∀ (ds acc : List (PyData × PyData)), ((acc ++ ds).map (·.1)).Nodup → (∀ d ∈ ds.map (·.1), okK d) → putAll acc ds = acc ++ ds
  | [], acc, _, _ => by simp [putAll]
  | p :: ds, acc, hn, hk => by
    have e1 : putD acc p.1 p.2 = acc ++ [p] := putD_new (hk _ (by simp)) fun j e => by
      rw [List.map_append, List.nodup_append] at hn
      exact hn.2.2 _ (List.mem_of_getElem? e) _ (by simp) rfl
    rw [putAll, e1, putAll_new ds (acc ++ [p]) (by simpa using hn) fun d hd => hk d (by simp at hd ⊢; exact .inr hd)]
    simp
section
variable {X : Cx} {pins : List (Addr × Obj)} {σ : L2.St}
def rUpdG (K : PySem.W.Frag) : V → List V → Hp → VK → Prop := fun x xs H Q => ∃ (A : Addr → Prop) (p a : Addr) (acc ds : List (PyData × PyData)), x = .ref p ∧ xs = [.ref a] ∧ A p ∧ p ≠ a ∧ DicR K A H p acc ∧ DicR K A H a ds ∧ updB acc ds = true ∧ acc.length + ds.length < 10000 ∧
  ∀ u, DicR K A (upd H p u) p (putAll acc ds) → Q .non (upd H p u)
theorem mt_updateG (hu : X.A.units + 64 < cLine) : MtR X "dict.update" (rUpdG X.K) := by
  intro pins s σ H x xs v us Q J rx rs h
  obtain ⟨A, p, a, acc, ds, rfl, rfl, hA, hpa, D, ⟨es, ep, ks, vs, ho, e, t, uu⟩, hc, hln, q⟩ := h
  cases rx
  obtain ⟨u, rfl, ru⟩ := vals1 rs
  cases ru
  obtain ⟨es0, ep0, ks0, vs0, hp0, e0, t0, u0⟩ := id D
  have hop := dic_at J hp0
  have hoa := dic_at J ho
  refine wpAny_call_entry F.slot_dict_update (T := "dict") ⟨_, hop, rfl⟩ F.entry_dict_update ?_ (F.args_dict_update_2 _ _)
  unfold Builtin.«dict.update»
  refine wpAny_bind ?_
  unfold Builtin.Dict.selfAndRest
  refine wpAny_bind (wpAny_notOrdered_dict ⟨_, hop, rfl⟩ ?_)
  show wpAny _ _ (pure (p, [Value.ref a])) _ _ _
  refine wpAny_pure ?_
  show wpAny _ _ (Builtin.Dict.updateFrom "dict.update" p (.ref a) [] .none) _ _ _
  unfold Builtin.Dict.updateFrom
  refine wpAny_bind (wpAny_typeOf (T := "dict") ⟨_, hoa, rfl⟩ ?_)
  rw [if_neg (by decide)]
  refine wpAny_bind ?_
  unfold Builtin.Dict.merge
  refine wpAny_bind ?_
  unfold Builtin.Dict.readDirectly
  refine wpAny_bind (wpAny_isInstance (T := "dict") ⟨_, hoa, rfl⟩ isSubtype_dict_dict ?_)
  simp only [Bool.not_true, Bool.false_eq_true, if_false]
  refine wpAny_bind (wpAny_specialOf (T := "dict") ⟨_, hoa, rfl⟩ F.slot_dict_iter.lookup (wpAny_pure ?_))
  simp only [beq_self_eq_true, if_true]
  refine wpAny_bind (wpAny_pure ?_)
  have fin : ∀ (s' : Shared) (u : HO), L2.Inv X pins σ (upd H p u) s' → DicR X.K A (upd H p u) p (putAll acc ds) → EP X pins σ Q .none s' := fun s' u J' D' => ⟨.non, _, J', rfl, q u D'⟩
  have ka := dic_keys J e t
  have go : (acc ≠ [] ∨ (decide (es.size ≤ 8) && es.all fun e => (keyPart e.key).isSome) = true) → wpAny (model X.prog X.w) X.A.in1 (Builtin.Dict.mergeDict "dict.update" p a) (fun _ s' => wpAny (model X.prog X.w) X.A.in1 (do Builtin.Dict.addKeywords p []; ret .none) (fun r s' => ∃ v, r = Fin.done (.ret v) ∧ EP X pins σ Q v s') X.xe s') X.xe s := fun hne =>
    merge_loop (by rw [Around.in1_units]; omega) hpa e.sys hA J ho e t uu D hln hne fun s' u J' D' => wpAny_bind (wpAny_pure (wpAny_pure ⟨.none, rfl, fin s' u J' D'⟩))
  unfold updB at hc
  rcases Bool.or_eq_true _ _ ▸ hc with h1 | h1
  · rcases Bool.or_eq_true _ _ ▸ h1 with h2 | h2
    · exact go (.inl fun z => by rw [z] at h2; cases h2)
    · exact go (.inr (few_cond ka h2))
  · by_cases hne : acc = []
    · subst hne
      have h0 : es0 = #[] := by
        have := (dic_keys J e0 t0).len
        exact Array.size_eq_zero_iff.mp (by simpa using this)
      subst h0
      refine mergeDict_new hpa e.sys e.size hoa hop ka (filter_one (copy_nodup e h1)) (copy_cond ka h1) fun h' ep' g' sb => ?_
      refine wpAny_bind (wpAny_pure (wpAny_pure ⟨.none, rfl, ?_⟩))
      have mv := own_mut (H := H) hA (DicO p es ep')
      refine fin _ (DicO p es ep') (J.write (t' := s.toks) (x := p) (e := p) (by rw [hp0]; exact trivial) (.inl rfl) (fun b z hb hz => (sb.2 b hb).trans hz) ⟨_, g'⟩ (dic_ok (X := X) g')) ?_
      rw [putAll_new ds [] (by simpa using e.nodup) e.ok, List.nil_append]
      exact ⟨es, ep', ks, vs, upd_same, ⟨e0.sys, e.size, e.keys, e.vals, e.hash, e.ok, e.nodup⟩, t.move mv, uu.move mv⟩
    · exact go (.inl hne)
end
/-! ### a method of an own dict -/
section
variable {X : Cx} {o e : Expr} {es : List Expr} {to : TE} {t : TA} {name : Str} {apos cpos : Pos} {id : String} {r : V → List V → Hp → VK → Prop}
def tDM (r : V → List V → Hp → VK → Prop) (to : TE) (t : TA) : TE := fun σ H Q => to σ H fun x H1 => (∃ (a : Addr) (es : Array DictEntry) (ep : Nat), x = .ref a ∧ H1 a = some (DicO a es ep)) ∧ t σ H1 fun xs H2 => r x xs H2 Q
theorem pe_dm (slot : Slot "dict" name id) (hty : typeOf (.builtin id) = pure (.type "method_descriptor")) (hm : MtR X id r) (ho : PE X o to) (ha : PA X (e :: es) t)
    (hbase : attributeBase o name X.env (eval o X.env) = eval o X.env := by rfl)
    (hfew : ((backTo cpos (starEach (e :: es) X.env)).all (fun x => !x.1) && (backToKw cpos (keywordEach [] X.env)).all (fun x => x.1.isSome)
      && decide ((e :: es).length + ([] : List Keyword).length + (if ([] : List Keyword).isEmpty then 0 else 1) < 30)) = true := by rfl)
    (hline : (apos.endLine == cpos.line) = true := by rfl) (hs : starEach (e :: es) X.env = (false, eval e X.env) :: starEach es X.env := by rfl) (hplain : (backTo cpos (starEach es X.env)).any (·.1) = false := by rfl) :
    PE X (.Call (.Attribute o name apos) (e :: es) [] cpos) (tDM r to t) := by
  refine ⟨fun pins s σ H Q I h => ?_⟩
  refine wpAny_Call_method_late hbase hfew hline rfl (thn (ho.run pins s σ H _ I h) fun v s1 ⟨x, H1, I1, r1, ⟨a, en, ep, ex, hd⟩, q1⟩ => ?_)
  subst ex
  obtain rfl : v = Value.ref a := r1
  have g := dic_at I1 hd
  refine ⟨"dict", id, F.plainAttrs_dict, slot, hty, ⟨_, g, rfl⟩, fun b hb => (by cases hb; exact ⟨_, g, rfl⟩), ?_⟩
  have hA := ha.run cpos pins s1 σ H1 _ I1 q1
  rw [hs] at hA ⊢
  refine Calls.callWith_builtin (by show (false || (backTo cpos (starEach es X.env)).any (·.1)) = false; rw [hplain] <;> rfl) (Calls.evalArgs_plain ?_)
  exact thn hA fun us s2 ⟨vs, H2, I2, r2, q2⟩ => hm pins s2 σ H2 (.ref a) vs _ us Q I2 rfl r2 q2
end
theorem tM_mutD {K : PySem.W.Frag} {all : Bool} {r : V → List V → Hp → VK → Prop} {h : PyData → List PyData → Option (PyData × PyData)} (hm : MutD K all r h) {i : Nat} {os : List Opd} (hv : all = true → os.all Opd.isVal = true) {σ : L2.St} {H : Hp} {Q : VK} (q : tM K (eMut "dict" h i os) σ H Q) : tDM r (tVar i) (pM K os) σ H Q := by
  obtain ⟨M, ρ, s, ρ', S, e, k⟩ := q
  unfold eMut at e
  cases e0 : own? ρ i with
  | none => rw [e0] at e; cases e
  | some d0 =>
    rw [e0] at e
    simp only [Option.bind_some] at e
    split at e
    case isFalse => cases e
    rename_i hT
    cases e1 : pres os ρ with
    | none => rw [e1] at e; cases e
    | some p =>
      obtain ⟨xs, ρ1⟩ := p
      rw [e1] at e
      simp only [Option.bind_some] at e
      cases e2 : fins os xs ρ1 with
      | none => rw [e2] at e; cases e
      | some ds =>
        rw [e2] at e
        simp only [Option.bind_some] at e
        cases e3 : own? ρ1 i with
        | none => rw [e3] at e; cases e
        | some d =>
          rw [e3] at e
          simp only [Option.bind_some] at e
          cases e4 : h d ds with
          | none => rw [e4] at e; cases e
          | some q4 =>
            obtain ⟨a, d'⟩ := q4
            rw [e4] at e
            cases e
            obtain ⟨p, h1, h2, h3⟩ := S.ow i d0 (own_ows e0)
            refine ⟨.ref p, h1, ?_, M, ρ, xs, ρ1, S, e1, fun vs H1 x1 x2 S1 p1 => ?_⟩
            · cases d0 with
              | dict zs => obtain ⟨es, ep, ks, vs, hd, _⟩ := h3; exact ⟨p, es, ep, rfl, hd⟩
              | _ => simp [kindD] at hT
            · obtain ⟨p', g1, g2, g3⟩ := S1.ow i d (own_ows e3)
              rw [h1] at g1
              cases g1
              have op : OO ρ1 σ p := ⟨i, ⟨d, own_ows e3⟩, h1⟩
              refine hm _ p d vs ds H1 a d' Q S1.liveA (.inr op) g3 (fins_rep S1 p1 e2) (fun z => fins_vals (hv z) p1 e2) e4 fun v o ho hr => ?_
              obtain ⟨S2, E2, I2⟩ := S1.mut e3 h1 ho
              exact k v _ (x1.trans E2) (x2.trans I2) ⟨S2, hr.less fun b z => z.imp id (setOwn_OO e3).mp⟩
def hUpdate : PyData → List PyData → Option (PyData × PyData)
  | .dict acc, [.dict ds] => if plainD ds = true ∧ updB acc ds = true ∧ acc.length + ds.length < 10000 then some (.none, .dict (putAll acc ds)) else none
  | _, _ => none
theorem mUpdate {K : PySem.W.Frag} : MutD K true (rUpdG K) hUpdate := fun A p d vs ds H e d' Q hA hp ho hr hv he k => by
  unfold hUpdate at he
  split at he
  · rename_i acc es
    split at he
    · rename_i hc
      cases he
      have hr1 := hv rfl
      cases hr1 with
      | cons r1 t1 =>
        cases t1
        cases r1 with
        | dG na h1 h2 h3 h4 => exact ⟨A, p, _, acc, es, rfl, rfl, hp, fun z => na (z ▸ hp), ho, ⟨_, _, _, _, h1, h2, h3, h4⟩, hc.2.1, hc.2.2, fun u D => k .non u D .non⟩
        | obj _ _ _ _ _ _ _ _ => exact (Bool.false_ne_true hc.1).elim
        | obj0 _ _ _ => exact (Bool.false_ne_true hc.1).elim
    · cases he
  · cases he
section
variable {X : Cx} {x : Str} {e : Expr} {es : List Expr} {os : List Opd} {p apos cpos : Pos}
theorem x_update {kk : Nat} (hr : Room kk X.A) (i : Nat) (ha : XA X (e :: es) os) (hv : os.all Opd.isVal = true) (hN : X.N[i]? = some x := by rfl) (hvis : Vis X.env.scope x := by first | exact Or.inl rfl | exact Or.inr (Or.inl rfl) | exact Or.inr (Or.inr rfl)) (hd : (x == ("__debug__" : Str)) = false := by decide) (hcd : (x == ("__classdict__" : Str)) = false := by decide)
    (hbase : attributeBase (.Name x p) "update" X.env (eval (.Name x p) X.env) = eval (.Name x p) X.env := by rfl)
    (hfew : ((backTo cpos (starEach (e :: es) X.env)).all (fun x => !x.1) && (backToKw cpos (keywordEach [] X.env)).all (fun x => x.1.isSome)
      && decide ((e :: es).length + ([] : List Keyword).length + (if ([] : List Keyword).isEmpty then 0 else 1) < 30)) = true := by rfl)
    (hline : (apos.endLine == cpos.line) = true := by rfl) (hs : starEach (e :: es) X.env = (false, eval e X.env) :: starEach es X.env := by rfl) (hplain : (backTo cpos (starEach es X.env)).any (·.1) = false := by rfl) :
    XE X (.Call (.Attribute (.Name x p) "update" apos) (e :: es) [] cpos) (eMut "dict" hUpdate i os) :=
  pe_imp (pe_dm F.slot_dict_update F.type_dict_update (mt_updateG hr.units) (pe_var hN hvis hd hcd) ha hbase hfew hline hs hplain) fun _ _ _ q => tM_mutD mUpdate (fun _ => hv) q
end
end Vw

set_option Elab.async false
set_option linter.all false
set_option maxRecDepth 100000
set_option maxHeartbeats 4000000
/-! sorted(d) of a dict whose keys are whole numbers -/
namespace Vw
open PySem PySem.W PyProof.Rows L2

/-- whole numbers in ascending order -/
def sortI (ns : List Int) : List Int := ns.mergeSort fun a b => decide (a ≤ b)
theorem sortI_perm (ns : List Int) : (sortI ns).Perm ns := List.mergeSort_perm _ _
theorem sortI_asc (ns : List Int) : (sortI ns).Pairwise (· ≤ ·) := by
  have h := List.pairwise_mergeSort (le := fun a b : Int => decide (a ≤ b)) (fun a b c h1 h2 => by simp only [decide_eq_true_iff] at h1 h2 ⊢; omega) (fun a b => by simp only [Bool.or_eq_true, decide_eq_true_iff]; omega) ns
  exact h.imp fun h => by simpa using h
section
variable {X : Cx}
def rSortedK (K : PySem.W.Frag) : List V → Hp → VK → Prop := fun vs H Q => ∃ (a : Addr) (es : Array DictEntry) (ep : Nat) (ns : List Int), vs = [.ref a] ∧ H a = some (DicO a es ep) ∧ (a == sysModules) = false ∧ es.size ≤ sizeLine ∧ Vals (ns.map V.int) (es.toList.map (·.key)) ∧ ns.length < 64 ∧
  ∀ (ys : List Int) (p : Addr), ys.Perm ns → ys.Pairwise (· ≤ ·) → H p = none → Q (.ref p) (upd H p (.lst (ys.map V.int)))
theorem c_sortedK (hcalm : X.calm = true) : CallR X (.builtin "sorted") (rSortedK X.K) := by
  intro pins s σ H vs us Q I r q
  obtain ⟨a, es, ep, ns, rfl, hd, hs, hz, hv, h64, q⟩ := q
  obtain ⟨u, rfl, rx⟩ := vals1 r
  cases rx
  have ho := dic_at I hd
  have hl : es.size = ns.length := by
    have := hv.length
    simp only [List.length_map, Array.length_toList] at this
    omega
  refine Calls.call_function_entry PyProof.Rows.kind_sorted PyProof.Rows.plain_sorted PyProof.Rows.entry_sorted (PyProof.Rows.args_sorted1 _) ?_
  unfold Builtin.«sorted»
  refine wpAny_bind (m := checkCount "sorted" 1 1 _) (wpAny_pure ?_)
  refine wpAny_bind (PySem.W.kdu_collect (A := X.A.in1) (kdl_raw (o := dicObj es ep) (es := es) (ep := ep) hs ⟨rfl, rfl, rfl⟩ rfl) (I.ok.hd hcalm) ho hz fun h' tk acc hk hacc => ?_)
  have hva : Vals (ns.map V.int) acc.toList := vals_ix hv (by simp only [Array.length_toList, List.length_map]; rw [hacc.1]) fun j w hw => by
    rw [Array.getElem?_toList] at hw
    obtain ⟨en, h1, rfl⟩ := hacc.2 j w hw
    rw [List.getElem?_map, Array.getElem?_toList, h1]
    rfl
  have hS : IntsAre acc.toList ns := by simpa using hva.ints
  have hal : acc.toList.length = ns.length := by rw [Array.length_toList, hacc.1, hl]
  have I1 : Inv X pins σ H { s with heap := h', toks := tk } := I.kept hk
  refine wpAny_bind (wpAny_newList ?_ (by rw [hal, sizeLine_eq]; omega))
  have hoL : (h'.push (seqObj "list" acc.toList.toArray 0)).get? h'.objs.size = some (seqObj "list" acc.toList.toArray 0) := Heap.get?_push_size _ rfl
  show wpAny _ _ _ _ _ { s with heap := h'.push (seqObj "list" acc.toList.toArray 0), toks := tk }
  refine wpAny_bind (wpAny_holding (wpAny_call_entry PyProof.Rows.slot_list_sort ⟨_, hoL, rfl⟩ PyProof.Rows.entry_list_sort
    (PyProof.Rows.list_sort_tree (s := { s with heap := h'.push (seqObj "list" acc.toList.toArray 0), toks := tk }) hoL hS (by rw [hal]; exact h64) fun out ys g1 g2 g3 => ⟨_, rfl, ?_⟩) (PyProof.Rows.args_list_sort _)))
  obtain ⟨e', he'⟩ := PyProof.Rows.sortedHeap_at (vs := acc.toList) (out := out) hoL
  have hlen : (ys.map V.int).length ≤ sizeLine := by
    rw [List.length_map, g2.length_eq]
    exact Nat.le_trans (Nat.le_of_lt h64) (by decide)
  refine wpAny_pure ⟨_, rfl, .ref h'.objs.size, upd H h'.objs.size (.lst (ys.map V.int)), I1.laid (t' := tk) (fun b u e => ?_) (Nat.le_refl _)
    (show ObjOk X.prog X.w _ _ _ (.lst (ys.map V.int)) from ⟨hlen, out.toList, e', vals_of_ints g1, by rw [Array.toArray_toList]; exact he'⟩), rfl, q ys _ g2 g3 (I1.hok.fresh (Nat.le_refl _))⟩
  have hb : b < h'.objs.size := Heap.lt_size e
  rw [PyProof.Rows.sortedHeap_old (Nat.ne_of_lt hb) (by rw [size_push']; exact Nat.lt_succ_of_lt hb)]
  exact Heap.get?_push_of_some _ e
def gSortedA : List PyData → Option Sl
  | [.dict ds] => match intsOf (ds.map (·.1)) with
    | some ns => if ns.length < 64 then some (.ow (.list ((sortI ns).map .int))) else none
    | none => none
  | ds => gSorted ds
def rSortedA (K : PySem.W.Frag) : List V → Hp → VK → Prop := fun vs H Q => rSortedD K vs H Q ∨ rSortedK K vs H Q
theorem fnSortedA {K : PySem.W.Frag} : FnD K (rSortedA K) gSortedA := fun A vs ds H s Q hA hr e k => by
  unfold gSortedA at e
  split at e
  · rename_i es
    split at e
    · rename_i ns hn
      split at e
      · rename_i hl
        cases e
        obtain ⟨x, rfl, h⟩ := hr.one
        have hp : plainD es = true := by
          cases es with
          | nil => rfl
          | cons p l =>
            obtain ⟨q, y⟩ := p
            have z := intsOf_eq hn
            cases ns with
            | nil => cases z
            | cons n ns =>
              have z1 : q = .int n := (List.cons.inj z).1
              subst z1
              rfl
        obtain ⟨a, rfl, ⟨en, ep, ks, vs, hd, e, tt, uu⟩⟩ := h.dic hp
        rw [intsOf_eq hn] at tt
        have a3 := tt.ints
        subst a3
        refine .inr ⟨a, en, ep, ns, rfl, hd, e.sys, e.size, e.keys, hl, fun ys q h1 h2 hq => ?_⟩
        have e1 : ys = sortI ns := List.Perm.eq_of_pairwise (le := fun a b : Int => a ≤ b) (fun a b _ _ h1 h2 => Int.le_antisymm h1 h2) h2 (sortI_asc ns) (h1.trans (sortI_perm ns).symm)
        subst e1
        exact k _ _ (same_upd hq _) ⟨q, rfl, hq, new_lst (RepAll.ofInts (A := A) _) hq⟩
      · cases e
    · cases e
  · exact .inl (fnSorted A vs _ H s Q hA hr e k)
theorem c_sortedA (hu : X.A.units + 64 < cLine) (hcalm : X.calm = true) : CallR X (.builtin "sorted") (rSortedA X.K) := fun pins s σ H vs us Q J r q => q.elim (c_sorted hu pins s σ H vs us Q J r) (c_sortedK hcalm pins s σ H vs us Q J r)
theorem x_sortedA {k : Nat} {a : Expr} {os : List Opd} {p pos : Pos} (hc : X.calm = true) (hr : Room k X.A) (gl : Gl X "sorted") (hm : X.mg "sorted" = none) (ha : XA X [a] os) (he : starEach [a] X.env = (false, eval a X.env) :: starEach [] X.env := by rfl) (hpl : (backTo pos (starEach [] X.env)).any (·.1) = false := by rfl) : XE X (.Call (.Name "sorted" p) [a] [] pos) (eFn gSortedA os) := x_callB (c_sortedA hr.units hc) fnSortedA gl hm (by decide +kernel) ha (by decide) (by decide) he hpl
end
end Vw

set_option Elab.async false
set_option linter.all false
set_option maxRecDepth 100000
set_option maxHeartbeats 4000000
/-! list(zip(xs, ys)) -/
namespace Vw
open PySem PySem.W PyProof.Rows L2

/-- a zip of which the last tuple is kept -/
abbrev IsZipK (h : Heap) (z TI TO T : Addr) (f : Bool) : Prop := h.get? z = some { cls := .type "zip", dict := none, data := .fields #[rawInt T, .bool f, .bool false, .ref TI, .ref TO], slots := #[] }
section
variable {P : Program} {w : World} {A : Around} {E : Value → Shared → Prop} {s : Shared} {z TI TO T i1 i2 l1 l2 : Addr} {k1 k2 : Nat} {xs ys : Array Value} {x y a b : Value} {f : Bool} {oT : Obj}
theorem alive_ok {a : Addr} {o : Obj} {Q : Option Obj → Shared → Prop} (ho : s.heap.get? a = some o) (h : Q (some o) s) : wpAny (model P w) A (loadIfAlive a) Q E s := by
  have h' : Q (s.heap.get? a) s := by rw [ho]; exact h
  exact fun _ _ _ => h'
theorem freeK {Q : Bool → Shared → Prop} (hz : IsZipK s.heap z TI TO T f) (hT : s.heap.get? T = some oT)
    (hQ : ∀ h', IsZipK h' z TI TO T true → Heap.SameBut z s.heap h' → Q false { s with heap := h' }) : wpAny (model P w) A (Builtin.SmallTypes.ownedTupleIsFree (.ref z)) Q E s := by
  unfold Builtin.SmallTypes.ownedTupleIsFree
  refine wpAny_bind (wpAny_field hz rfl (x := rawInt T) rfl ?_)
  show wpAny _ _ (loadIfAlive ((T : Int).toNat) >>= _) _ _ _
  rw [Int.toNat_natCast]
  refine wpAny_bind (alive_ok hT ?_)
  simp only [Option.isNone_some, Bool.false_eq_true, if_false]
  refine wpAny_bind (wpAny_field hz rfl (x := .bool f) rfl ?_)
  cases f with
  | true =>
    rw [if_neg (show ¬ ((Value.bool true != Value.bool true) = true) from Bool.false_ne_true)]
    exact wpAny_pure (hQ _ hz (Heap.SameBut.refl _ _))
  | false =>
    rw [if_pos (show (Value.bool false != Value.bool true) = true from rfl)]
    exact wpAny_bind (wpAny_setField_rec hz (by simp) fun h₃ he₃ hs₃ => wpAny_pure (hQ h₃ he₃ hs₃))
theorem zipK_item {Q : Value → Shared → Prop} (D : ZipApart z TI TO i1 i2 l1 l2)
    (hz : IsZipK s.heap z TI TO T f) (hT : s.heap.get? T = some oT) (hTI : IsPair s.heap TI (.ref i1) (.ref i2))
    (h1 : s.heap.IsListIter i1 l1 k1) (h2 : s.heap.IsListIter i2 l2 k2) (hl1 : s.heap.IsList l1 xs) (hl2 : s.heap.IsList l2 ys) (hx : xs[k1]? = some x) (hy : ys[k2]? = some y)
    (hQ : ∀ h', IsZipK h' z TI TO T true → h'.IsListIter i1 l1 (k1 + 1) → h'.IsListIter i2 l2 (k2 + 1) → IsPair h' s.heap.objs.size x y → h'.objs.size = s.heap.objs.size + 1 →
      (∀ c o, c ≠ z → c ≠ i1 → c ≠ i2 → s.heap.get? c = some o → h'.get? c = some o) → Q (.ref s.heap.objs.size) { s with heap := h' }) :
    wpAny (model P w) A (Builtin.«zip.__next__» ⟨[.ref z], []⟩) (fun fin s' => ∃ v, fin = .done (.ret v) ∧ Q v s') E s := by
  show wpAny _ _ (field (.ref z) 2 >>= _) _ _ _
  refine wpAny_bind (wpAny_field hz rfl (x := .bool false) rfl ?_)
  show wpAny _ _ (field (.ref z) 3 >>= _) _ _ _
  refine wpAny_bind (wpAny_field hz rfl (x := .ref TI) rfl ?_)
  refine wpAny_bind (wpAny_seqItems hTI rfl ?_)
  show wpAny _ _ (Builtin.SmallTypes.ownedTupleIsFree (.ref z) >>= _) _ _ _
  refine wpAny_bind (freeK hz hT fun h₁ hz₁ hs₁ => ?_)
  simp only [Bool.false_eq_true, if_false]
  refine wpAny_bind ?_
  simp only [← Array.forIn_toList, List.forIn_cons, List.forIn_nil]
  refine wpAny_bind (wpAny_bind (wpAny_holding ?_))
  show wpAny _ _ (Builtin.SmallTypes.nextOf (.ref i1) >>= _) _ _ _
  refine wpAny_bind (wpAny_nextOf_list_item (h1.extBut hs₁.extBut D.i1z) (hl1.extBut hs₁.extBut D.l1z) hx fun h₂ h1₂ hs₂ => wpAny_pure (wpAny_pure ?_))
  refine wpAny_bind (wpAny_bind (wpAny_holding ?_))
  show wpAny _ _ (Builtin.SmallTypes.nextOf (.ref i2) >>= _) _ _ _
  refine wpAny_bind (wpAny_nextOf_list_item ((h2.extBut hs₁.extBut D.i2z).extBut hs₂.extBut D.i12.symm) ((hl2.extBut hs₁.extBut D.l2z).extBut hs₂.extBut D.l2i1) hy fun h₃ h2₃ hs₃ => wpAny_pure (wpAny_pure (wpAny_pure ?_)))
  refine wpAny_bind (wpAny_newTuple (hsz := by show 2 ≤ sizeLine; decide) (wpAny_pure ⟨_, rfl, ?_⟩))
  have hsz : h₃.objs.size = s.heap.objs.size := by rw [hs₃.1, hs₂.1, hs₁.1]
  have hk : ∀ c o, c ≠ z → c ≠ i1 → c ≠ i2 → s.heap.get? c = some o → h₃.get? c = some o := fun c o c1 c2 c3 e => hs₃.extBut _ _ c3 (hs₂.extBut _ _ c2 (hs₁.extBut _ _ c1 e))
  have hz₃ : IsZipK h₃ z TI TO T true := hs₃.extBut _ _ D.i2z.symm (hs₂.extBut _ _ D.i1z.symm hz₁)
  have h1₃ : h₃.IsListIter i1 l1 (k1 + 1) := h1₂.extBut hs₃.extBut D.i12
  have up : ∀ c o, h₃.get? c = some o → (h₃.push { cls := .type "tuple", data := .seq #[x, y] }).get? c = some o := fun c o e => Heap.get?_push_of_some _ e
  have key := hQ (h₃.push { cls := .type "tuple", data := .seq #[x, y] }) (up _ _ hz₃) (h1₃.at fun o e => up _ o e) (h2₃.at fun o e => up _ o e) (by rw [← hsz]; exact Heap.get?_push_size _ rfl) (by rw [Heap.size_push, hsz]) fun c o c1 c2 c3 e => up c o (hk c o c1 c2 c3 e)
  rw [← hsz] at key
  exact key
theorem zipK_end {Q : Fin → Shared → Prop} (hh : A.handled = none) (D : ZipApart z TI TO i1 i2 l1 l2)
    (hz : IsZipK s.heap z TI TO T f) (hT : s.heap.get? T = some oT) (hTI : IsPair s.heap TI (.ref i1) (.ref i2))
    (h1 : s.heap.IsListIter i1 l1 k1) (hl1 : s.heap.IsList l1 xs) (hx : xs[k1]? = none)
    (hE : ∀ h' e, (∀ c o, c ≠ z → c ≠ i1 → s.heap.get? c = some o → h'.get? c = some o) → (∃ o, h'.get? e = some o ∧ o.cls = .type "StopIteration") → E (.ref e) { s with heap := h' }) :
    wpAny (model P w) A (Builtin.«zip.__next__» ⟨[.ref z], []⟩) Q E s := by
  show wpAny _ _ (field (.ref z) 2 >>= _) _ _ _
  refine wpAny_bind (wpAny_field hz rfl (x := .bool false) rfl ?_)
  show wpAny _ _ (field (.ref z) 3 >>= _) _ _ _
  refine wpAny_bind (wpAny_field hz rfl (x := .ref TI) rfl ?_)
  refine wpAny_bind (wpAny_seqItems hTI rfl ?_)
  show wpAny _ _ (Builtin.SmallTypes.ownedTupleIsFree (.ref z) >>= _) _ _ _
  refine wpAny_bind (freeK hz hT fun h₁ hz₁ hs₁ => ?_)
  simp only [Bool.false_eq_true, if_false]
  refine wpAny_bind ?_
  simp only [← Array.forIn_toList, List.forIn_cons, List.forIn_nil]
  refine wpAny_bind (wpAny_bind (wpAny_holding ?_))
  show wpAny _ _ (Builtin.SmallTypes.nextOf (.ref i1) >>= _) _ _ _
  refine wpAny_bind (wpAny_nextOf_list_end hh (h1.extBut hs₁.extBut D.i1z) (hl1.extBut hs₁.extBut D.l1z) hx fun h₂ e hs₂ he => ?_)
  exact hE h₂ e (fun c o c1 c2 x => hs₂ _ _ c2 (hs₁.extBut _ _ c1 x)) he
theorem nextK_item {Q : Option Value → Shared → Prop} (D : ZipApart z TI TO i1 i2 l1 l2)
    (hz : IsZipK s.heap z TI TO T f) (hT : s.heap.get? T = some oT) (hTI : IsPair s.heap TI (.ref i1) (.ref i2))
    (h1 : s.heap.IsListIter i1 l1 k1) (h2 : s.heap.IsListIter i2 l2 k2) (hl1 : s.heap.IsList l1 xs) (hl2 : s.heap.IsList l2 ys) (hx : xs[k1]? = some x) (hy : ys[k2]? = some y)
    (hQ : ∀ h', IsZipK h' z TI TO T true → h'.IsListIter i1 l1 (k1 + 1) → h'.IsListIter i2 l2 (k2 + 1) → IsPair h' s.heap.objs.size x y → h'.objs.size = s.heap.objs.size + 1 →
      (∀ c o, c ≠ z → c ≠ i1 → c ≠ i2 → s.heap.get? c = some o → h'.get? c = some o) → Q (some (.ref s.heap.objs.size)) { s with heap := h' }) :
    wpAny (model P w) A (pyNext (.ref z)) Q E s := by
  have hT' : s.TypeIs (.ref z) "zip" := ⟨_, hz, rfl⟩
  unfold pyNext
  exact wpAny_bind (wpAny_attempt (wpAny_callSpecial?_slot (name := Str.ofString "__next__") hT' PySem.F.slot_zip_next
    (wpAny_call_entry PySem.F.slot_zip_next hT' PySem.F.entry_zip_next
      (zipK_item D hz hT hTI h1 h2 hl1 hl2 hx hy fun h' a1 a2 a3 a4 a5 a6 => wpAny_pure (hQ h' a1 a2 a3 a4 a5 a6)) (PySem.F.args_zip_next_1 _))))
theorem nextK_end {Q : Option Value → Shared → Prop} (hh : A.handled = none) (D : ZipApart z TI TO i1 i2 l1 l2)
    (hz : IsZipK s.heap z TI TO T f) (hT : s.heap.get? T = some oT) (hTI : IsPair s.heap TI (.ref i1) (.ref i2))
    (h1 : s.heap.IsListIter i1 l1 k1) (hl1 : s.heap.IsList l1 xs) (hx : xs[k1]? = none)
    (hQ : ∀ h', (∀ c o, c ≠ z → c ≠ i1 → s.heap.get? c = some o → h'.get? c = some o) → Q none { s with heap := h' }) : wpAny (model P w) A (pyNext (.ref z)) Q E s := by
  have hT' : s.TypeIs (.ref z) "zip" := ⟨_, hz, rfl⟩
  unfold pyNext
  refine wpAny_bind (wpAny_attempt (wpAny_callSpecial?_slot (name := Str.ofString "__next__") hT' PySem.F.slot_zip_next
    (wpAny_call_entry PySem.F.slot_zip_next hT' PySem.F.entry_zip_next (zipK_end hh D hz hT hTI h1 hl1 hx fun h' e hk he => ?_) (PySem.F.args_zip_next_1 _))))
  obtain ⟨o, ho, hc⟩ := he
  refine wpAny_bind (wpAny_isInstance (T := "StopIteration") (b := true) ⟨o, ho, hc⟩ isSubtype_stop ?_)
  exact wpAny_pure (hQ _ hk)
/-- a zip within list(..), i pairs drawn -/
structure ZSt (h : Heap) (z TI TO i1 i2 l1 l2 S : Addr) (xs ys : Array Value) (i : Nat) : Prop where
  ti : IsPair h TI (.ref i1) (.ref i2)
  a1 : h.IsListIter i1 l1 i
  a2 : h.IsListIter i2 l2 i
  b1 : h.IsList l1 xs
  b2 : h.IsList l2 ys
  to : ∃ o, h.get? TO = some o
  own : (IsZip h z TI TO .none ∧ ∃ a b, IsPair h TO a b) ∨ ∃ T f oT, IsZipK h z TI TO T f ∧ h.get? T = some oT ∧ T ≠ z ∧ T ≠ i1 ∧ T ≠ i2 ∧ T ≠ S
theorem ZSt.at_z {h : Heap} {S : Addr} {i : Nat} (st : ZSt h z TI TO i1 i2 l1 l2 S xs ys i) : ∃ o, h.get? z = some o := by
  rcases st.own with ⟨h, _⟩ | ⟨T, f, oT, h, _⟩
  · exact ⟨_, h⟩
  · exact ⟨_, h⟩
theorem ZSt.keep {h h' : Heap} {S : Addr} {i : Nat} (st : ZSt h z TI TO i1 i2 l1 l2 S xs ys i) (hS : ∀ c ∈ [z, TI, TO, i1, i2, l1, l2], c ≠ S) (hk : ∀ b o, b ≠ S → h.get? b = some o → h'.get? b = some o) : ZSt h' z TI TO i1 i2 l1 l2 S xs ys i where
  ti := hk _ _ (hS _ (by simp)) st.ti
  a1 := st.a1.at fun o e => hk _ o (hS _ (by simp)) e
  a2 := st.a2.at fun o e => hk _ o (hS _ (by simp)) e
  b1 := st.b1.at fun o e => hk _ o (hS _ (by simp)) e
  b2 := st.b2.at fun o e => hk _ o (hS _ (by simp)) e
  to := let ⟨o, e⟩ := st.to; ⟨o, hk _ o (hS _ (by simp)) e⟩
  own := by
    rcases st.own with ⟨h, a, b, hp⟩ | ⟨T, f, oT, h, hT, t1, t2, t3, t4⟩
    · exact .inl ⟨hk _ _ (hS _ (by simp)) h, a, b, hk _ _ (hS _ (by simp)) hp⟩
    · exact .inr ⟨T, f, oT, hk _ _ (hS _ (by simp)) h, hk _ _ t4 hT, t1, t2, t3, t4⟩
theorem zst_item {S : Addr} {i : Nat} {Q : Option Value → Shared → Prop} (D : ZipApart z TI TO i1 i2 l1 l2) (hS : ∀ c ∈ [z, TI, TO, i1, i2, l1, l2], c ≠ S) (hSl : S < s.heap.objs.size) (st : ZSt s.heap z TI TO i1 i2 l1 l2 S xs ys i) (hx : xs[i]? = some x) (hy : ys[i]? = some y)
    (hQ : ∀ h', ZSt h' z TI TO i1 i2 l1 l2 S xs ys (i + 1) → IsPair h' s.heap.objs.size x y → h'.objs.size = s.heap.objs.size + 1 → (∀ c o, c ≠ z → c ≠ TO → c ≠ i1 → c ≠ i2 → s.heap.get? c = some o → h'.get? c = some o) → Q (some (.ref s.heap.objs.size)) { s with heap := h' }) :
    wpAny (model P w) A (pyNext (.ref z)) Q E s := by
  have lt : ∀ {c o}, s.heap.get? c = some o → s.heap.objs.size ≠ c := fun e => Nat.ne_of_gt (Heap.lt_size e)
  have hi1 : s.heap.objs.size ≠ i1 := by obtain ⟨_, e, _⟩ := st.a1; exact lt e
  have hi2 : s.heap.objs.size ≠ i2 := by obtain ⟨_, e, _⟩ := st.a2; exact lt e
  have hz0 : s.heap.objs.size ≠ z := by obtain ⟨_, e⟩ := st.at_z; exact lt e
  rcases st.own with ⟨hz, a, b, hTO⟩ | ⟨T, f, oT, hz, hT, t1, t2, t3, t4⟩
  · refine wpAny_pyNext_zip_item D hz st.ti hTO st.a1 st.a2 st.b1 st.b2 hx hy fun h' c1 c2 c3 c4 c5 c6 hk => ?_
    refine hQ h' ⟨hk _ _ D.TIz D.TITO D.TIi1 D.TIi2 st.ti, c3, c4, st.b1.at fun o e => hk _ o D.l1z D.l1TO D.l1i1 D.l1i2 e, st.b2.at fun o e => hk _ o D.l2z D.l2TO D.l2i1 D.l2i2 e, ⟨_, c2⟩, .inr ⟨s.heap.objs.size, false, _, c1, c5, hz0, hi1, hi2, Nat.ne_of_gt hSl⟩⟩ c5 c6 hk
  · refine nextK_item D hz hT st.ti st.a1 st.a2 st.b1 st.b2 hx hy fun h' c1 c3 c4 c5 c6 hk => ?_
    refine hQ h' ⟨hk _ _ D.TIz D.TIi1 D.TIi2 st.ti, c3, c4, st.b1.at fun o e => hk _ o D.l1z D.l1i1 D.l1i2 e, st.b2.at fun o e => hk _ o D.l2z D.l2i1 D.l2i2 e, (let ⟨o, e⟩ := st.to; ⟨o, hk _ o D.TOz D.TOi1 D.TOi2 e⟩), .inr ⟨T, true, oT, c1, hk _ _ t1 t2 t3 hT, t1, t2, t3, t4⟩⟩ c5 c6 fun c o d1 _ d3 d4 e => hk c o d1 d3 d4 e
theorem zst_end {S : Addr} {i : Nat} {Q : Option Value → Shared → Prop} (hh : A.handled = none) (D : ZipApart z TI TO i1 i2 l1 l2) (st : ZSt s.heap z TI TO i1 i2 l1 l2 S xs ys i) (hx : xs[i]? = none)
    (hQ : ∀ h', (∀ c o, c ≠ z → c ≠ TO → c ≠ i1 → c ≠ i2 → s.heap.get? c = some o → h'.get? c = some o) → Q none { s with heap := h' }) : wpAny (model P w) A (pyNext (.ref z)) Q E s := by
  rcases st.own with ⟨hz, a, b, hTO⟩ | ⟨T, f, oT, hz, hT, t1, t2, t3, t4⟩
  · exact wpAny_pyNext_zip_end hh D hz st.ti hTO st.a1 st.a2 st.b1 st.b2 (.inl hx) hQ
  · exact nextK_end hh D hz hT st.ti st.a1 st.b1 hx fun h' hk => hQ h' fun c o d1 _ d3 d4 e => hk c o d1 d3 e
/-- the entries that stand for the pairs -/
def zipE (xs ys : Array Value) : Array DictEntry := ((xs.toList.zip ys.toList).map fun p => ⟨0, p.1, p.2⟩).toArray
theorem zipE_get {i : Nat} (hx : xs[i]? = some x) (hy : ys[i]? = some y) : (zipE xs ys)[i]? = some ⟨0, x, y⟩ := by
  unfold zipE
  have e : (xs.toList.zip ys.toList)[i]? = some (x, y) := List.getElem?_zip_eq_some.mpr ⟨by rw [Array.getElem?_toList]; exact hx, by rw [Array.getElem?_toList]; exact hy⟩
  rw [List.getElem?_toArray, List.getElem?_map, e]
  rfl
theorem zip_loop {R : Result → Shared → Prop} {S : Addr} (hh : A.handled = none) (D : ZipApart z TI TO i1 i2 l1 l2) (hS : ∀ c ∈ [z, TI, TO, i1, i2, l1, l2], c ≠ S) (hn : xs.size ≤ sizeLine) (hxy : xs.size = ys.size) (res : Value) {h₁ : Heap}
    (hR : ∀ h' acc c as, (∀ b o, b ≠ S → b ≠ z → b ≠ TO → b ≠ i1 → b ≠ i2 → h₁.get? b = some o → h'.get? b = some o) → h'.get? S = some { cls := .type "list", dict := none, data := .seq acc c, slots := #[] } → as.length = xs.size → DT.Made (zipE xs ys) S h' as →
      acc.toList = as.map Value.ref → R (.ok (.ret res)) { s with heap := h' }) :
    ∀ (k i : Nat) (h : Heap) (c : Nat) (acc : Array Value) (as : List Addr), xs.size - i = k → i ≤ xs.size → ZSt h z TI TO i1 i2 l1 l2 S xs ys i → (∀ b o, b ≠ S → b ≠ z → b ≠ TO → b ≠ i1 → b ≠ i2 → h₁.get? b = some o → h.get? b = some o) →
      h.get? S = some { cls := .type "list", dict := none, data := .seq acc c, slots := #[] } → acc.toList = as.map Value.ref → as.length = i → DT.Made (zipE xs ys) S h as → (∀ a ∈ as, a ≠ z ∧ a ≠ TO ∧ a ≠ i1 ∧ a ≠ i2) →
      codeAny (model P w) A (.builtin "list.extend.loop" ⟨[.ref S, .ref z, res], []⟩) R { s with heap := h } := by
  intro k
  induction k with
  | zero =>
    intro i h c acc as hk hi hst hkeep hS' hacc hal hG hap
    refine codeAny_builtin PySem.F.entry_extend_loop ?_
    rw [Around.under_plainId PySem.F.plain_extend_loop _]
    show wpAny _ A.in1 (pyNext (.ref z) >>= _) _ _ _
    refine wpAny_bind (zst_end (s := { s with heap := h }) (A := A.in1) hh D hst (Array.getElem?_eq_none (by omega)) fun h' he => ?_)
    refine wpAny_pure (hR h' acc c as (fun b o g1 g2 g3 g4 g5 e => he b o g2 g3 g4 g5 (hkeep b o g1 g2 g3 g4 g5 e)) (he S _ (Ne.symm (hS _ (by simp))) (Ne.symm (hS _ (by simp))) (Ne.symm (hS _ (by simp))) (Ne.symm (hS _ (by simp))) hS') (by omega) ⟨hG.rise, hG.above, fun j a hj => ?_⟩ hacc)
    obtain ⟨en, e1, e2⟩ := hG.pairs j a hj
    obtain ⟨p1, p2, p3, p4⟩ := hap a (List.mem_of_getElem? hj)
    exact ⟨en, e1, he a _ p1 p2 p3 p4 e2⟩
  | succ k ih =>
    intro i h c acc as hk hi hst hkeep hS' hacc hal hG hap
    have hlt : i < xs.size := by omega
    have hx := Array.getElem?_eq_getElem hlt
    have hy := Array.getElem?_eq_getElem (show i < ys.size by omega)
    have hsz : acc.size = i := by rw [← Array.length_toList, hacc, List.length_map, hal]
    have hSl : S < h.objs.size := Heap.lt_size hS'
    refine codeAny_builtin PySem.F.entry_extend_loop ?_
    rw [Around.under_plainId PySem.F.plain_extend_loop _]
    show wpAny _ A.in1 (pyNext (.ref z) >>= _) _ _ _
    refine wpAny_bind (zst_item (s := { s with heap := h }) (S := S) D hS hSl hst hx hy fun h' hst' hp hz hkp => ?_)
    dsimp only at hp hz hkp ⊢
    have nS : ∀ {c}, c ∈ [z, TI, TO, i1, i2, l1, l2] → S ≠ c := fun h => Ne.symm (hS _ h)
    have hS2 := hkp S _ (nS (by simp)) (nS (by simp)) (nS (by simp)) (nS (by simp)) hS'
    have up : ∀ b o, b ≠ S → h'.get? b = some o → (h'.update S (Obj.mapSeq (·.push (Value.ref h.objs.size)))).get? b = some o := fun b o hb e => (Heap.get?_update_other _ _ (Ne.symm hb)).trans e
    have lt : ∀ {c o}, h.get? c = some o → h.objs.size ≠ c := fun e => Nat.ne_of_gt (Heap.lt_size e)
    have hi1 : h.objs.size ≠ i1 := by obtain ⟨_, e, _⟩ := hst.a1; exact lt e
    have hi2 : h.objs.size ≠ i2 := by obtain ⟨_, e, _⟩ := hst.a2; exact lt e
    have hz0 : h.objs.size ≠ z := by obtain ⟨_, e⟩ := hst.at_z; exact lt e
    have hT0 : h.objs.size ≠ TO := by obtain ⟨_, e⟩ := hst.to; exact lt e
    show wpAny _ A.in1 (updateSeq S (·.push (Value.ref h.objs.size)) >>= _) _ _ _
    refine wpAny_bind ?_
    refine wpAny_updateSeq hS2 rfl (wpAny_pure ⟨plainId_quiet PySem.F.plain_extend_loop _, ih (i + 1) _ _ (acc.push (Value.ref h.objs.size)) (as ++ [h.objs.size]) (by omega) hlt (hst'.keep hS up)
      (fun b o g1 g2 g3 g4 g5 e => up b o g1 (hkp b o g2 g3 g4 g5 (hkeep b o g1 g2 g3 g4 g5 e))) (Heap.get?_update_self _ hS2 rfl) (by rw [Array.toList_push, hacc, List.map_append]; rfl) (by rw [List.length_append, hal]; rfl) ⟨?_, ?_, ?_⟩ ?_⟩) (by rw [hsz]; omega) (by show (acc.push (Value.ref h.objs.size)).size ≤ sizeLine + 1; rw [Array.size_push, hsz]; omega)
    · refine List.pairwise_append.mpr ⟨hG.rise, List.pairwise_singleton _ _, fun a ha b hb => ?_⟩
      rw [List.mem_singleton.mp hb]
      exact hG.there ha
    · intro a ha
      rcases List.mem_append.mp ha with ha | ha
      · exact hG.above a ha
      · rw [List.mem_singleton.mp ha]; exact hSl
    · intro j b hj
      rcases Nat.lt_trichotomy j as.length with h1 | h1 | h1
      · rw [List.getElem?_append_left h1] at hj
        obtain ⟨en, e1, e2⟩ := hG.pairs j b hj
        have hb := hG.above b (List.mem_of_getElem? hj)
        obtain ⟨p1, p2, p3, p4⟩ := hap b (List.mem_of_getElem? hj)
        exact ⟨en, e1, up b _ (Nat.ne_of_gt hb) (hkp b _ p1 p2 p3 p4 e2)⟩
      · subst h1
        have hb : h.objs.size = b := by simpa using hj
        subst hb
        exact ⟨_, zipE_get (by rw [hal]; exact hx) (by rw [hal]; exact hy), up _ _ (Nat.ne_of_gt hSl) hp⟩
      · have hnone : (as ++ [h.objs.size])[j]? = none := List.getElem?_eq_none (by rw [List.length_append, List.length_singleton]; omega)
        rw [hnone] at hj; cases hj
    · intro a ha
      rcases List.mem_append.mp ha with ha | ha
      · exact hap a ha
      · rw [List.mem_singleton.mp ha]; exact ⟨hz0, hT0, hi1, hi2⟩
theorem zip_noLen : typeLookup (.type "zip") "__len__" = pure none := by rw [typeLookup_type, builtinLookup_eq_fast]; kernel_rfl
theorem zip_noHint : typeLookup (.type "zip") "__length_hint__" = pure none := by rw [typeLookup_type, builtinLookup_eq_fast]; kernel_rfl
theorem zip_extend {R : Result → Shared → Prop} {S : Addr} {c₀ : Nat} (hh : A.handled = none) (D : ZipApart z TI TO i1 i2 l1 l2) (hS : ∀ c ∈ [z, TI, TO, i1, i2, l1, l2], c ≠ S) (hn : xs.size ≤ sizeLine) (hxy : xs.size = ys.size) (res : Value)
    (hst : ZSt s.heap z TI TO i1 i2 l1 l2 S xs ys 0) (hz : IsZip s.heap z TI TO .none) (hS' : s.heap.get? S = some { cls := .type "list", data := .seq #[] c₀ })
    (hR : ∀ h' acc c as, (∀ b o, b ≠ S → b ≠ z → b ≠ TO → b ≠ i1 → b ≠ i2 → s.heap.get? b = some o → h'.get? b = some o) → h'.get? S = some { cls := .type "list", dict := none, data := .seq acc c, slots := #[] } → as.length = xs.size → DT.Made (zipE xs ys) S h' as →
      acc.toList = as.map Value.ref → R (.ok (.ret res)) { s with heap := h' }) :
    wpAny (model P w) A.in1 (Builtin.List.listExtendWith (.ref S) (.ref z) res)
      (fun fin s' => match fin with | .done f => R (.ok f) s' | .again c' => c'.quiet = true ∧ codeAny (model P w) A c' R s') (fun e s' => R (.error e) s') s := by
  have hT : s.TypeIs (.ref z) "zip" := ⟨_, hz, rfl⟩
  have hSz : S ≠ z := Ne.symm (hS _ (by simp))
  unfold Builtin.List.listExtendWith
  refine wpAny_bind (wpAny_typeOf hT ?_)
  have h1 : Builtin.List.listSameRef (.ref S) (.ref z) = false := by simp [Builtin.List.listSameRef, hSz]
  have h2 : (Value.type "zip" == Value.type "list") = false := by decide
  have h3 : (Value.type "zip" == Value.type "tuple") = false := by decide
  simp only [h1, h2, h3, Bool.or_false, Bool.false_eq_true, if_false]
  refine wpAny_bind (wpAny_pyIter_zip hz ?_)
  refine wpAny_bind (wpAny_holding ?_)
  unfold Builtin.List.listLengthHint
  refine wpAny_bind (wpAny_specialOf hT zip_noLen ?_)
  show wpAny _ A.in1 (specialOf (Value.ref z) (Str.ofString "__length_hint__") >>= _) _ _ _
  refine wpAny_bind (wpAny_specialOf hT zip_noHint ?_)
  refine wpAny_pure ?_
  show wpAny _ A.in1 (rule "list.extend.makes-room" >>= fun _ => Builtin.List.listTouch (.ref S) >>= fun _ =>
    again (.builtin "list.extend.loop" ⟨[.ref S, .ref z, res], []⟩)) _ _ _
  refine wpAny_bind (wpAny_rule ?_)
  refine wpAny_bind ?_
  show wpAny _ A.in1 (updateSeq S (·.push .none) >>= fun _ => updateSeq S (·.pop)) _ _ _
  refine wpAny_bind (wpAny_updateSeq hS' rfl ?_)
  have hS₂ := Heap.get?_update_self (Obj.mapSeq (·.push Value.none)) hS' rfl
  refine wpAny_updateSeq (hz := by seq_fits) hS₂ rfl ?_
  have hS₃ := Heap.get?_update_self (Obj.mapSeq (·.pop)) hS₂ rfl
  have oth : ∀ b o, b ≠ S → s.heap.get? b = some o → ((s.heap.update S (Obj.mapSeq (·.push Value.none))).update S (Obj.mapSeq (·.pop))).get? b = some o :=
    fun b o hb e => (Heap.get?_update_other _ _ (Ne.symm hb)).trans ((Heap.get?_update_other _ _ (Ne.symm hb)).trans e)
  refine wpAny_pure ⟨plainId_quiet PySem.F.plain_extend_loop _, zip_loop (s := { s with heap := ((s.heap.update S (Obj.mapSeq (·.push Value.none))).update S (Obj.mapSeq (·.pop))) }) (h₁ := s.heap) hh D hS hn hxy res hR xs.size 0 _ _ #[] [] (Nat.sub_zero _) (Nat.zero_le _) (hst.keep hS oth) (fun b o g1 _ _ _ _ e => oth b o g1 e) hS₃ rfl rfl ⟨List.Pairwise.nil, (fun _ ha => nomatch ha), (fun j a hj => by simp at hj)⟩ (fun _ ha => nomatch ha)⟩
theorem list_zip {Q : Value → Shared → Prop} (hh : A.handled = none) (D : ZipApart z TI TO i1 i2 l1 l2) (hn : xs.size ≤ sizeLine) (hxy : xs.size = ys.size)
    (hz : IsZip s.heap z TI TO .none) (hTI : IsPair s.heap TI (.ref i1) (.ref i2)) (hTO : IsPair s.heap TO a b) (h1 : s.heap.IsListIter i1 l1 0) (h2 : s.heap.IsListIter i2 l2 0) (hl1 : s.heap.IsList l1 xs) (hl2 : s.heap.IsList l2 ys)
    (hQ : ∀ h' acc c as, (∀ b o, b ≠ z → b ≠ TO → b ≠ i1 → b ≠ i2 → s.heap.get? b = some o → h'.get? b = some o) → h'.get? s.heap.objs.size = some { cls := .type "list", dict := none, data := .seq acc c, slots := #[] } → as.length = xs.size → DT.Made (zipE xs ys) s.heap.objs.size h' as → acc.toList = as.map Value.ref → Q (.ref s.heap.objs.size) { s with heap := h' }) :
    wpAny (model P w) A (call (.type "list") [.ref z]) Q E s := by
  refine callType_codes (Q₁ := fun obj s₁ => obj = .ref s.heap.objs.size ∧ s₁ = { s with heap := s.heap.push { cls := .type "list", data := .seq #[] } }) PySem.F.called_list (PySem.F.typeCall_list_1 _) PySem.F.entry_list_init
    (code_list_new _ ⟨rfl, rfl⟩) fun obj s₁ h₁ => ?_
  obtain ⟨rfl, rfl⟩ := h₁
  have hS : (s.heap.push { cls := .type "list", data := .seq #[] }).get? s.heap.objs.size = some { cls := .type "list", data := .seq #[] } := Heap.get?_push_size _ rfl
  have ne : ∀ {b o}, s.heap.get? b = some o → b ≠ s.heap.objs.size := fun e => Nat.ne_of_lt (Heap.lt_size e)
  have hap : ∀ c ∈ [z, TI, TO, i1, i2, l1, l2], c ≠ s.heap.objs.size := fun c hc => by
    simp only [List.mem_cons, List.not_mem_nil, or_false] at hc
    rcases hc with rfl | rfl | rfl | rfl | rfl | rfl | rfl
    · exact ne hz
    · exact ne hTI
    · exact ne hTO
    · obtain ⟨_, e, _⟩ := h1; exact ne e
    · obtain ⟨_, e, _⟩ := h2; exact ne e
    · obtain ⟨_, e, _⟩ := hl1; exact ne e
    · obtain ⟨_, e, _⟩ := hl2; exact ne e
  have st0 : ZSt s.heap z TI TO i1 i2 l1 l2 s.heap.objs.size xs ys 0 := ⟨hTI, h1, h2, hl1, hl2, ⟨_, hTO⟩, .inl ⟨hz, a, b, hTO⟩⟩
  refine ⟨⟨_, hS, rfl⟩, PySem.F.args_list_init_2 _ _, ?_⟩
  show wpAny _ _ (do let old ← Builtin.List.listItems (.ref s.heap.objs.size); Builtin.List.listUpdate (.ref s.heap.objs.size) (fun _ => #[]); letGo old.toList.reverse; Builtin.List.listExtendWith (.ref s.heap.objs.size) (.ref z) .none) _ _ _
  refine wpAny_bind ?_
  unfold Builtin.List.listItems
  refine wpAny_bind (wpAny_seqItems hS rfl (wpAny_pure ?_))
  show wpAny _ _ (updateSeq s.heap.objs.size (fun _ => #[]) >>= fun _ => letGo (#[] : Array Value).toList.reverse >>= fun _ => Builtin.List.listExtendWith (.ref s.heap.objs.size) (.ref z) .none) _ _ _
  refine wpAny_bind (wpAny_updateSeq hS rfl ?_)
  have hS₂ := Heap.get?_update_self (Obj.mapSeq (fun _ => (#[] : Array Value))) hS rfl
  have oth : ∀ b o, b ≠ s.heap.objs.size → s.heap.get? b = some o → ((s.heap.push { cls := .type "list", data := .seq #[] }).update s.heap.objs.size (Obj.mapSeq (fun _ => (#[] : Array Value)))).get? b = some o :=
    fun b o hb e => (Heap.get?_update_other _ _ (Ne.symm hb)).trans (Heap.get?_push_of_some _ e)
  refine wpAny_bind (wpAny_letGo ?_)
  refine zip_extend (A := A.in1) (s := { s with heap := (s.heap.push { cls := .type "list", data := .seq #[] }).update s.heap.objs.size (Obj.mapSeq (fun _ => (#[] : Array Value))) }) hh D hap hn hxy .none (st0.keep hap oth) (oth _ _ (ne hz) hz) hS₂ fun h' acc c as hk hS' hl hG hacc => ?_
  exact ⟨rfl, hQ h' acc c as (fun b o d1 d2 d3 d4 e => hk b o (ne e) d1 d2 d3 d4 (oth b o (ne e) e)) hS' hl hG hacc⟩
end
section
variable {X : Cx}
theorem items_laidS {pins : List (Addr × Obj)} {σ : L2.St} {H : Hp} {s : Shared} {h' : Heap} {tk : Nat} {es : Array DictEntry} {ks vs : List V} {acc : Array Value} {c : Nat} {as : List Addr} {S : Addr} (I : Inv X pins σ H s) (hSl : s.heap.objs.size ≤ S) (hz : es.size ≤ sizeLine) (hks : Vals ks (es.toList.map (·.key))) (hvs : Vals vs (es.toList.map (·.val)))
    (hk : ∀ b o, s.heap.get? b = some o → h'.get? b = some o) (hS : h'.get? S = some { cls := .type "list", dict := none, data := .seq acc c, slots := #[] }) (hl : as.length = es.size) (hG : DT.Made es S h' as) (hacc : acc.toList = as.map Value.ref) :
    ∃ H' : Hp, Same H H' ∧ H S = none ∧ (∀ t ∈ as, H t = none) ∧ H' S = some (.lst (as.map V.ref)) ∧ (∀ (j : Nat) (a : Addr) (k v : V), as[j]? = some a → ks[j]? = some k → vs[j]? = some v → H' a = some (.tup [k, v])) ∧ Inv X pins σ H' { s with heap := h', toks := tk } := by
  have l1 := hks.length
  have l2 := hvs.length
  simp only [List.length_map, Array.length_toList] at l1 l2
  have lz : (ks.zip vs).length = es.size := by simp only [List.length_zip]; omega
  have hSn : S ∉ as := fun z => Nat.lt_irrefl _ (hG.above _ z)
  have nd : as.Nodup := List.Pairwise.imp (fun {a b} (h : a < b) => Nat.ne_of_lt h) hG.rise
  have new : ∀ t ∈ as, H t = none := fun t ht => I.hok.fresh (Nat.le_trans hSl (Nat.le_of_lt (hG.above t ht)))
  have newS : H S = none := I.hok.fresh hSl
  have atP := putG_at as (ks.zip vs) (upd H S (.lst (as.map V.ref))) (by omega) nd
  have off : ∀ b, b ∉ as → b ≠ S → putG (upd H S (.lst (as.map V.ref))) as (ks.zip vs) b = H b := fun b h1 h2 => by rw [putG_off as _ _ h1, upd_ne h2]
  have low : ∀ b o, s.heap.get? b = some o → b ∉ as ∧ b ≠ S := fun b o e => ⟨fun z => absurd (Heap.lt_size e) (Nat.not_lt.mpr (Nat.le_trans hSl (Nat.le_of_lt (hG.above b z)))), Nat.ne_of_lt (Nat.lt_of_lt_of_le (Heap.lt_size e) hSl)⟩
  have kp : ∀ b u, H b = some u → (putG (upd H S (.lst (as.map V.ref))) as (ks.zip vs)) b = some u := fun b u e => by
    rw [off b (fun z => by rw [new b z] at e; cases e) (fun z => by rw [z, newS] at e; cases e)]
    exact e
  have eS : putG (upd H S (.lst (as.map V.ref))) as (ks.zip vs) S = some (.lst (as.map V.ref)) := by rw [putG_off as _ _ hSn, upd_same]
  refine ⟨putG (upd H S (.lst (as.map V.ref))) as (ks.zip vs), kp, newS, new, eS, fun j a k v h1 h2 h3 => atP j a (k, v) h1 (by rw [List.getElem?_zip_eq_some]; exact ⟨h2, h3⟩), ?_⟩
  refine I.call' (ch := []) rfl ⟨fun b o q _ _ _ => hk b o q, fun b o q _ _ _ => ⟨o.slots, hk b o q⟩, fun b o q n _ => ?_, fun b o q _ => ⟨o, hk b o q⟩, fun b xs q => kp b _ q, fun b o u q => kp b _ q, fun b ps q => ⟨#[], by rw [kp b _ q]; simp⟩⟩ (fun b u q => ?_) I.bare fun b z => by simp at z
  · obtain ⟨z1, z2⟩ := low b o q
    rw [off b z1 z2]
    exact n
  · by_cases hb : b ∈ as
    · obtain ⟨j, hj⟩ := List.mem_iff_getElem?.mp hb
      obtain ⟨en, g1, g2⟩ := hG.pairs j b hj
      have hjl : j < es.size := (Array.getElem?_eq_some_iff.mp g1).1
      have k1 : ks[j]? = some (ks[j]'(by omega)) := List.getElem?_eq_getElem _
      have v1 : vs[j]? = some (vs[j]'(by omega)) := List.getElem?_eq_getElem _
      obtain ⟨uk, e1, r1⟩ := hks.get k1
      obtain ⟨uv, e2, r2⟩ := hvs.get v1
      rw [List.getElem?_map, Array.getElem?_toList, g1] at e1 e2
      cases e1
      cases e2
      rw [atP j b (ks[j]'(by omega), vs[j]'(by omega)) hj (by rw [List.getElem?_zip_eq_some]; exact ⟨k1, v1⟩)] at q
      cases q
      exact ⟨by show 2 ≤ sizeLine; decide, [en.key, en.val], .cons r1 (.cons r2 .nil), ⟨_, g2, rfl, _, rfl⟩⟩
    · by_cases hb2 : b = S
      · rw [hb2] at q ⊢
        rw [eS] at q
        cases q
        refine ⟨by rw [List.length_map]; omega, acc.toList, c, by rw [hacc]; exact vals_refs as, ?_⟩
        rw [Array.toArray_toList]
        exact hS
      · rw [off b hb hb2] at q
        exact (I.hok b u q).stay (fun d v _ y => hk d v y) (fun d y => kp d _ y) fun d xs y => kp d _ y
end
section
variable {X : Cx} {e e2 : Expr} {ta : TA} {p p2 cpos pos : Pos}
def rZipL (K : PySem.W.Frag) : List V → Hp → VK → Prop := fun vs H Q => ∃ (a b : Addr) (xs ys : List V), vs = [.ref a, .ref b] ∧ SqL K H a xs ∧ SqL K H b ys ∧ xs.length = ys.length ∧
  ∀ (H' : Hp) (p : Addr) (ts : List Addr), Same H H' → H p = none → (∀ t ∈ ts, H t = none) → ts.length = xs.length → H' p = some (.lst (ts.map V.ref)) → (∀ (j : Nat) (a : Addr) (k v : V), ts[j]? = some a → xs[j]? = some k → ys[j]? = some v → H' a = some (.tup [k, v])) → Q (.ref p) H'
theorem zipE_size {xs ys : List Value} (h : xs.length = ys.length) : (zipE xs.toArray ys.toArray).size = xs.length := by
  simp only [zipE, List.size_toArray, List.length_map, List.length_zip]
  omega
theorem zipE_key {xs ys : List Value} (h : xs.length = ys.length) : (zipE xs.toArray ys.toArray).toList.map (·.key) = xs ∧ (zipE xs.toArray ys.toArray).toList.map (·.val) = ys := by
  simp only [zipE, List.map_map]
  constructor
  · exact List.map_fst_zip (by omega)
  · exact List.map_snd_zip (by omega)
theorem pe_listZip (hc : X.calm = true) (hg : Gl X "list") (hm : X.mg "list" = none) (hv : bootBuiltins "list" = some (.type "list")) (hg2 : Gl X "zip") (hm2 : X.mg "zip" = none) (ha : PA X [e, e2] ta)
    (hs2 : starEach [e, e2] X.env = (false, eval e X.env) :: starEach [e2] X.env := by rfl) (hpl2 : (backTo cpos (starEach [e2] X.env)).any (·.1) = false := by rfl)
    (hs : starEach [.Call (.Name "zip" p2) [e, e2] [] cpos] X.env = (false, eval (.Call (.Name "zip" p2) [e, e2] [] cpos) X.env) :: starEach [] X.env := by rfl) :
    PE X (.Call (.Name "list" p) [.Call (.Name "zip" p2) [e, e2] [] cpos] [] pos) (fun σ H Q => ta σ H fun vs H1 => rZipL X.K vs H1 Q) := by
  refine ⟨fun pins s σ H Q I hq => ?_⟩
  refine wpAny_Call_Name_kw (ld_blt I hg hm hv ?_)
  refine PyProof.Rows.callWith_type1 ?_ hs rfl
  rw [hs]
  show wpAny _ _ (spliced ((false, eval (.Call (.Name "zip" p2) [e, e2] [] cpos) X.env) :: backTo pos (starEach [] X.env))) _ _ s
  refine Calls.spliced_cons ?_
  refine Call_ (ld_blt I hg2 hm2 PyProof.Rows.boot_zip (PyProof.Rows.callWith_type1 (thn (ha.run cpos pins s σ H _ I hq) fun us s1 ⟨vs, H1, I1, r1, q1⟩ => ?_) hs2 hpl2))
  obtain ⟨a, b, xs, ys, ex, hqx, hqy, hxy, q⟩ := q1
  subst ex
  cases r1 with
  | cons r rr =>
    cases rr with
    | cons r' rr =>
      cases rr
      cases r
      cases r'
      obtain ⟨its, rv, p1, hz1⟩ := I1.list hqx
      obtain ⟨its2, rv2, p2', hz2⟩ := I1.list hqy
      have l1 := rv.length
      have l2 := rv2.length
      refine call_zip_2 p1.isList p2'.isList fun h' hz hTI hTO h1 h2 hsz hk => ?_
      have hz1' : its.toArray.size ≤ sizeLine := by rw [List.size_toArray, ← l1]; exact hz1
      refine Calls.spliced_nil ?_
      refine list_zip (s := { s1 with heap := h' }) (I1.ok.hd hc) (PySem.W.ktu_apart s1.heap.objs.size a b p1.lt p2'.lt) hz1' (by simp; omega) hz hTI hTO h1 h2 (p1.isList.at fun o e => hk _ o e) (p2'.isList.at fun o e => hk _ o e) fun h2' acc c as hk2 hS hl hG hacc => ?_
      have hgrow : s1.heap.objs.size ≤ h'.objs.size := by rw [hsz]; omega
      have keyE := zipE_key (xs := its) (ys := its2) (by omega)
      have hsz2 := zipE_size (xs := its) (ys := its2) (by omega)
      have old : ∀ b o, s1.heap.get? b = some o → h2'.get? b = some o := fun b o e => by
        have hb := Heap.lt_size e
        exact hk2 b o (Nat.ne_of_lt (Nat.lt_of_lt_of_le hb (Nat.le_add_right _ _))) (Nat.ne_of_lt (Nat.lt_of_lt_of_le hb (Nat.le_add_right _ _))) (Nat.ne_of_lt hb) (Nat.ne_of_lt (Nat.lt_of_lt_of_le hb (Nat.le_add_right _ _))) (hk b o e)
      obtain ⟨H', k1, k2, k3, k4, k5, J⟩ := items_laidS (tk := s1.toks) (es := zipE its.toArray its2.toArray) (S := h'.objs.size) I1 hgrow (by rw [hsz2, ← l1]; exact hz1) (by rw [keyE.1]; exact rv) (by rw [keyE.2]; exact rv2) old hS (by rw [hsz2, hl]; simp) hG hacc
      exact ⟨.ref _, H', J, rfl, q H' _ as k1 k2 k3 (by rw [hl, List.size_toArray]; omega) k4 k5⟩
def gListZip : List PyData → Option Sl
  | [.list as, .list bs] => if as.length = bs.length then some (.ow (.list (zipD as bs))) else none
  | _ => none
theorem fnListZip {K : PySem.W.Frag} : FnD K (rZipL K) gListZip := fun A vs ds H s Q hA hr e k => by
  unfold gListZip at e
  split at e
  · rename_i as bs
    split at e
    · rename_i hlen
      cases e
      obtain ⟨x, y, rfl⟩ : ∃ x y, vs = [x, y] := by
        cases hr with
        | cons r1 t => cases t with
          | cons r2 t => cases t; exact ⟨_, _, rfl⟩
      obtain ⟨r1, r2⟩ := RepT.two hr
      obtain ⟨pa, xs, rfl, ha1, tt⟩ := r1.lst
      obtain ⟨pb, ys, rfl, hb1, uu⟩ := r2.lst
      have l1 := tt.length
      have l2 := uu.length
      refine ⟨pa, pb, xs, ys, rfl, SqL.of ha1, SqL.of hb1, by omega, fun H' p ts sm hp hts hl hP hT => k _ _ sm ⟨p, rfl, hp, ts.map V.ref, hP, ?_⟩⟩
      have mv : ∀ b o, H b = some o → ¬ A b → H' b = some o ∧ ¬ (A b ∨ b = p) := fun b o e na => ⟨sm b o e, fun z => z.elim na fun z => by rw [z, hp] at e; cases e⟩
      have tt' := tt.move mv
      have uu' := uu.move mv
      have lz : (zipD as bs).length = as.length := by simp only [zipD, List.length_map, List.length_zip]; omega
      refine rep_ix (by rw [List.length_map, lz]; omega) fun j v d' hv hd' => ?_
      rw [List.getElem?_map] at hv
      obtain ⟨t, ht, rfl⟩ := Option.map_eq_some_iff.mp hv
      rw [zipD, List.getElem?_map] at hd'
      obtain ⟨q, hq, rfl⟩ := Option.map_eq_some_iff.mp hd'
      obtain ⟨q1, q2⟩ := List.getElem?_zip_eq_some.mp hq
      obtain ⟨kv, hk1, rk⟩ := tt'.get (i := j) (d := q.1) q1
      obtain ⟨vv, hv1, rv⟩ := uu'.get (i := j) (d := q.2) q2
      have htup := hT j t kv vv ht hk1 hv1
      have hnt := hts t (List.mem_of_getElem? ht)
      refine .tup (fun z => z.elim (fun z => hA t z hnt) fun z => ?_) (.inl htup) (.cons rk (.cons rv .nil))
      subst z
      rw [hP] at htup
      cases htup
    · cases e
  · cases e
section
variable {a b : Expr} {os : List Opd}
theorem x_listZip (hc : X.calm = true) (hg : Gl X "list") (hm : X.mg "list" = none) (hg2 : Gl X "zip") (hm2 : X.mg "zip" = none) (ha : XA X [a, b] os)
    (hs2 : starEach [a, b] X.env = (false, eval a X.env) :: starEach [b] X.env := by rfl) (hpl2 : (backTo cpos (starEach [b] X.env)).any (·.1) = false := by rfl)
    (hs : starEach [.Call (.Name "zip" p2) [a, b] [] cpos] X.env = (false, eval (.Call (.Name "zip" p2) [a, b] [] cpos) X.env) :: starEach [] X.env := by rfl) :
    XE X (.Call (.Name "list" p) [.Call (.Name "zip" p2) [a, b] [] cpos] [] pos) (eFn gListZip os) := pe_imp (pe_listZip hc hg hm (by decide +kernel) hg2 hm2 ha hs2 hpl2 hs) fun σ H Q q => tM_fn fnListZip q
end
end
end Vw

set_option Elab.async false
set_option linter.all false
set_option maxRecDepth 100000
/-! a, b = x, y where a or b is a cell: over a tuple -/
namespace Vw
open PySem L2 PyProof.Rows

theorem sM_parN {K : PySem.W.Frag} {i j : Nat} {a b : EM} {D : Ends} {σ : L2.St} {H : Hp} (q : sM K (sPar i j a b) D σ H) : sM K (sPar i j a b) { D with nx := fun σ' H' => ∀ p o, H' p = none → D.nx σ' (upd H' p o) } σ H := by
  obtain ⟨M, ρ, o, S, e, w⟩ := q
  have ho : ∃ ρ', o = .nx ρ' := by
    unfold sPar at e
    cases e1 : a ρ with
    | none => rw [e1] at e; cases e
    | some p =>
      rw [e1] at e
      simp only [Option.bind_some] at e
      cases e2 : b p.2 with
      | none => rw [e2] at e; cases e
      | some p2 =>
        rw [e2] at e
        simp only [Option.bind_some] at e
        cases e3 : put i p.1 p2.2 with
        | none => rw [e3] at e; cases e
        | some ρ3 =>
          rw [e3] at e
          simp only [Option.bind_some] at e
          cases e4 : put j p2.1 ρ3 with
          | none => rw [e4] at e; cases e
          | some ρ4 => rw [e4] at e; cases e; exact ⟨ρ4, rfl⟩
  obtain ⟨ρ', rfl⟩ := ho
  refine ⟨M, ρ, .nx ρ', S, e, fun σ' H' A' S' p o hp => ?_⟩
  exact w σ' (upd H' p o) ⟨A'.ext.trans (Ext.same (same_upd hp o)), A'.io, A'.st⟩ (S'.same (same_upd hp o))
theorem sM_parT {K : PySem.W.Frag} {i j : Nat} (hij : i ≠ j) {a b : EM} {D : Ends} {σ : L2.St} {H : Hp} (q : sM K (sPar i j a b) D σ H) :
    tAsg (tTup (tCons (tM K a) (tCons (tM K b) tNil))) (L2.gTup K 2 (L2.gCons (gName i) (L2.gCons (gName j) L2.gNil))) D σ H := by
  have h : tM K a σ H fun x H1 => tM K b σ H1 fun y H2 => ∃ v w, [x, y] = [v, w] ∧ ∀ p o, H2 p = none → D.nx ((σ.set i (some v)).set j (some w)) (upd H2 p o) := sM_par hij (sM_parN q)
  show tM K a σ H fun x H1 => tM K b σ H1 fun y H2 => ([x, y] : List V).length ≤ sizeLine ∧ ∀ p, H2 p = none → L2.gTup K 2 (L2.gCons (gName i) (L2.gCons (gName j) L2.gNil)) (.ref p) σ (upd H2 p (.tup [x, y])) D.nx
  have mono : ∀ {t : EM} {σ : L2.St} {H : Hp} {Q Q' : V → Hp → Prop}, tM K t σ H Q → (∀ v H, Q v H → Q' v H) → tM K t σ H Q' := fun ⟨M, ρ, r, ρ', S, e, k⟩ h => ⟨M, ρ, r, ρ', S, e, fun v H' x1 x2 R => h v H' (k v H' x1 x2 R)⟩
  refine mono h fun v1 H1 h1 => mono h1 fun v2 H2 h2 => ?_
  obtain ⟨v, w, e, h2⟩ := h2
  cases e
  refine ⟨by show 2 ≤ sizeLine; decide, fun p hp => ⟨p, [v1, v2], rfl, .inl (.inl upd_same), rfl, v1, [v2], rfl, v2, [], rfl, rfl, h2 p _ hp⟩⟩
theorem s_parT {X : Cx} {i j : Nat} {x y : Str} {a b : Expr} {ma mb : EM} {px py pt : Pos} {kt k2 pt2} {pos : Pos} (hc : X.calm = true) (hN : X.N.Nodup) (hi : X.N[i]? = some x) (hj : X.N[j]? = some y) (hij : i ≠ j) (hx : Loc X.env.scope x) (hy : Loc X.env.scope y)
    (ha : XE X a ma) (hb : XE X b mb) (hfx : X.fn x = true ∨ X.env.scope.names.lookup x = some .local := by first | exact .inl rfl | exact .inr rfl) (hfy : X.fn y = true ∨ X.env.scope.names.lookup y = some .local := by first | exact .inl rfl | exact .inr rfl)
    (hs : swapsWithSole [.Tuple [.Name x px, .Name y py] kt pt] (.Tuple [a, b] k2 pt2) pos.line X.env = pure false := by rfl) (hw : swappedStores [.Tuple [.Name x px, .Name y py] kt pt] (.Tuple [a, b] k2 pt2) X.env = pure none := by rfl)
    (h1 : (assignEach [.Tuple [.Name x px, .Name y py] kt pt] X.env).map (·.2) = [assign (.Tuple [.Name x px, .Name y py] kt pt) X.env] := by rfl)
    (hn : (assignEach [.Name x px, .Name y py] X.env).length = 2 := by rfl) (hst' : (assignEach [.Name x px, .Name y py] X.env).findIdx? (·.1) = none := by rfl)
    (hst : starEach [a, b] X.env = (false, eval a X.env) :: starEach [b] X.env := by rfl) (hst2 : starEach [b] X.env = (false, eval b X.env) :: starEach [] X.env := by rfl) :
    XS X (.Assign [.Tuple [.Name x px, .Name y py] kt pt] (.Tuple [a, b] k2 pt2) pos) (sPar i j ma mb) :=
  ps_imp (ps_asg (pe_tup (pa_cons ha (pa_cons hb pa_nil hst2) hst)) (pg_tup hc (pgs_cons (pg_name hN hi hx hfx) (pgs_cons (pg_name hN hj hy hfy) pgs_nil)) hn hst') hs hw h1) fun _ _ _ q => sM_parT hij q
end Vw

set_option Elab.async false
set_option linter.all false
set_option maxRecDepth 100000
/-! a, b, c = x, y, z, each of the three an own one or not -/
namespace Vw
open PySem L2 PyProof.Rows

section
variable {K : PySem.W.Frag} {M N O O' : Addr → Prop} {H H1 H2 : Hp} {ρ ρ1 ρ2 : Rho} {σ σ' : L2.St} {v v1 v2 : V} {r r1 r2 : Sl}
theorem Held.congr (h : Held K M O H v r) (e : ∀ b, M b ↔ N b) : Held K N O H v r := by
  have : M = N := funext fun b => propext (e b)
  rw [← this]; exact h
/-- a result held while another one is made -/
theorem hold_ext (S1 : Sr K (Mx M v1 r1) ρ1 σ H1) (h1 : Held K M (OO ρ1 σ) H1 v1 r1) (y1 : Ext (OO ρ1 σ) H1 (OO ρ2 σ) H2) (f2 : ∀ p, v2 = .ref p → (∃ d, r2 = .ow d) → OO ρ1 σ p ∨ H1 p = none) : Held K (Mx M v2 r2) (OO ρ2 σ) H2 v1 r1 := by
  have n1 : ∀ p, v1 = .ref p → (∃ d, r1 = .ow d) → ¬ OO ρ1 σ p := fun p h h' z => S1.ooM z (.inr ⟨h, h'⟩)
  have nm : ∀ b, (v2 = .ref b ∧ ∃ d, r2 = .ow d) → OO ρ1 σ b ∨ H1 b = none := fun b h => f2 b h.1 h.2
  cases r1 with
  | fz d =>
    refine (show Rep K (fun b => M b ∨ OO ρ1 σ b) H1 v1 d from h1).move fun b o e n => ⟨(y1.mv b o e n).1, fun z => ?_⟩
    rcases z with (z | z) | z
    · exact n (.inl z)
    · rcases nm b z with z | z
      · exact n (.inr z)
      · rw [z] at e; cases e
    · exact (y1.mv b o e n).2 (.inr z)
  | ow d =>
    obtain ⟨p, rfl, np, ho⟩ := h1
    refine ⟨p, rfl, fun z => ?_, ho.move (fun b o e n => ⟨(y1.mv (M := fun b => M b ∨ b = p) b o e n).1, fun z => ?_⟩) ?_⟩
    · rcases z with z | z
      · exact np z
      · rcases nm p z with z | z
        · exact n1 p rfl ⟨d, rfl⟩ z
        · exact ho.there z
    · rcases z with ((z | z) | z) | z
      · exact n (.inl (.inl z))
      · rcases nm b z with z | z
        · exact n (.inr z)
        · rw [z] at e; cases e
      · exact n (.inl (.inr z))
      · exact (y1.mv (M := fun b => M b ∨ b = p) b o e n).2 (.inr z)
    · cases q : H1 p with
      | none => exact (ho.there q).elim
      | some o => exact y1.keep p o q (n1 p rfl ⟨d, rfl⟩)
  | un => exact h1.elim
  | io d => exact h1.elim
/-- a result held while another one is stored -/
theorem hold_put (h2 : Held K (Mx M v1 r1) O H v2 r2) (sub : ∀ b, O' b → O b ∨ (v1 = .ref b ∧ ∃ d, r1 = .ow d)) : Held K M O' H v2 r2 := by
  cases r2 with
  | fz d => exact (show Rep K (fun b => Mx M v1 r1 b ∨ O b) H v2 d from h2).less fun b z => z.elim (fun z => .inl (.inl z)) fun z => (sub b z).elim .inr fun z => .inl (.inr z)
  | ow d =>
    obtain ⟨p, rfl, np, ho⟩ := h2
    refine ⟨p, rfl, fun z => np (.inl z), ho.move (fun b o e n => ⟨e, fun z => n ?_⟩) rfl⟩
    rcases z with (z | z) | z
    · exact .inl (.inl (.inl z))
    · exact .inl (.inr z)
    · exact (sub b z).elim .inr fun z => .inl (.inl (.inr z))
  | un => exact h2.elim
  | io d => exact h2.elim
theorem sub_put {i : Nat} {H0 : Hp} {O0 : Addr → Prop} (R : Res K M O0 H0 ρ σ v H r) (b : Addr) (z : OO (ρ.set i r) (σ.set i (some v)) b) : OO ρ σ b ∨ (v = .ref b ∧ ∃ d, r = .ow d) := by
  rcases OO_put z with z | ⟨z, d, z' | z'⟩
  · exact .inl z.1
  · exact .inr ⟨z, d, z'⟩
  · subst z'; exact R.elim
end
def sPar3E (i j l : Nat) (a b c : EM) : SM := fun ρ => (a ρ).bind fun p => (b p.2).bind fun q => (c q.2).bind fun t => (put i p.1 t.2).bind fun ρ4 => (put j q.1 ρ4).bind fun ρ5 => (put l t.1 ρ5).map .nx
theorem sM_par3E {K : PySem.W.Frag} {i j l : Nat} {a b c : EM} {D : Ends} {σ : L2.St} {H : Hp} (q : sM K (sPar3E i j l a b c) D σ H) : tPar3 i j l (tCons (tM K a) (tCons (tM K b) (tCons (tM K c) tNil))) D σ H := by
  obtain ⟨M, ρ, o, S, e, w⟩ := q
  unfold sPar3E at e
  obtain ⟨⟨r1, ρ1⟩, e1, e⟩ := Option.bind_eq_some_iff.mp e
  obtain ⟨⟨r2, ρ2⟩, e2, e⟩ := Option.bind_eq_some_iff.mp e
  obtain ⟨⟨r3, ρ3⟩, e3, e⟩ := Option.bind_eq_some_iff.mp e
  obtain ⟨ρ4, e4, e⟩ := Option.bind_eq_some_iff.mp e
  obtain ⟨ρ5, e5, e⟩ := Option.bind_eq_some_iff.mp e
  obtain ⟨ρ6, e6, rfl⟩ := Option.map_eq_some_iff.mp e
  simp only at e2 e3 e4 e5 e6
  refine ⟨M, ρ, r1, ρ1, S, e1, fun v1 H1 x1 x2 R1 => ?_⟩
  obtain ⟨S1, h1, f1⟩ := R1.split
  refine ⟨Mx M v1 r1, ρ1, r2, ρ2, S1, e2, fun v2 H2 y1 y2 R2 => ?_⟩
  obtain ⟨S2, h2, f2⟩ := R2.split
  refine ⟨Mx (Mx M v1 r1) v2 r2, ρ2, r3, ρ3, S2, e3, fun v3 H3 z1 z2 R3 => ?_⟩
  obtain ⟨S3, h3, f3⟩ := R3.split
  refine ⟨v1, v2, v3, rfl, ?_⟩
  have h1a : Held K (Mx M v2 r2) (OO ρ2 σ) H2 v1 r1 := hold_ext S1 h1 y1 f2
  have S2a : Sr K (Mx (Mx M v2 r2) v1 r1) ρ2 σ H2 := S2.lessM fun b z => by
    rcases z with (z | z) | z
    · exact .inl (.inl z)
    · exact .inr z
    · exact .inl (.inr z)
  have h1b : Held K (Mx (Mx M v2 r2) v3 r3) (OO ρ3 σ) H3 v1 r1 := hold_ext S2a h1a z1 f3
  have h2a : Held K (Mx (Mx M v1 r1) v3 r3) (OO ρ3 σ) H3 v2 r2 := hold_ext S2 h2 z1 f3
  have S3a : Sr K (Mx (Mx (Mx M v2 r2) v3 r3) v1 r1) ρ3 σ H3 := S3.lessM fun b z => by
    rcases z with ((z | z) | z) | z
    · exact .inl (.inl (.inl z))
    · exact .inl (.inr z)
    · exact .inr z
    · exact .inl (.inl (.inr z))
  -- the first one stored
  have R1' : Res K (Mx (Mx M v2 r2) v3 r3) (OO ρ σ) H ρ3 σ v1 H3 r1 := Res.join S3a h1b f1
  obtain ⟨S4, io4, o4, st4⟩ := put_aft e4 R1' ((x1.trans y1).trans z1).live
  obtain ⟨_, rfl⟩ := put_some e4
  have sub4 := sub_put (i := i) R1'
  have h2b : Held K (Mx M v3 r3) (OO (ρ3.set i r1) (σ.set i (some v1))) H3 v2 r2 := hold_put (h2a.congr fun b => ⟨fun z => by
    rcases z with (z | z) | z
    · exact .inl (.inl z)
    · exact .inr z
    · exact .inl (.inr z), fun z => by
    rcases z with (z | z) | z
    · exact .inl (.inl z)
    · exact .inr z
    · exact .inl (.inr z)⟩) sub4
  have h3a : Held K (Mx M v2 r2) (OO (ρ3.set i r1) (σ.set i (some v1))) H3 v3 r3 := hold_put (h3.congr fun b => ⟨fun z => by
    rcases z with (z | z) | z
    · exact .inl (.inl z)
    · exact .inr z
    · exact .inl (.inr z), fun z => by
    rcases z with (z | z) | z
    · exact .inl (.inl z)
    · exact .inr z
    · exact .inl (.inr z)⟩) sub4
  -- the second one
  have S4a : Sr K (Mx (Mx M v3 r3) v2 r2) (ρ3.set i r1) (σ.set i (some v1)) H3 := S4.lessM fun b z => by
    rcases z with (z | z) | z
    · exact .inl (.inl z)
    · exact .inr z
    · exact .inl (.inr z)
  have R2' : Res K (Mx M v3 r3) (OO ρ1 σ) H1 (ρ3.set i r1) (σ.set i (some v1)) v2 H3 r2 := Res.join S4a h2b f2
  obtain ⟨S5, io5, o5, st5⟩ := put_aft e5 R2' (y1.trans z1).live
  obtain ⟨_, rfl⟩ := put_some e5
  have sub5 := sub_put (i := j) R2'
  have h3b : Held K M (OO ((ρ3.set i r1).set j r2) ((σ.set i (some v1)).set j (some v2))) H3 v3 r3 := hold_put h3a sub5
  -- the third one
  have R3' : Res K M (OO ρ2 σ) H2 ((ρ3.set i r1).set j r2) ((σ.set i (some v1)).set j (some v2)) v3 H3 r3 := Res.join S5 h3b f3
  obtain ⟨S6, io6, o6, st6⟩ := put_aft e6 R3' z1.live
  have back1 : ∀ b, OO ρ1 σ b ∨ H1 b = none → OO ρ σ b ∨ H b = none := fun b z => z.elim (x1.nw b) fun z => .inr (Classical.byContradiction fun q => x1.live b q z)
  have back2 : ∀ b, OO ρ2 σ b ∨ H2 b = none → OO ρ σ b ∨ H b = none := fun b z => z.elim ((x1.trans y1).nw b) fun z => .inr (Classical.byContradiction fun q => (x1.trans y1).live b q z)
  refine w _ _ ⟨⟨((x1.trans y1).trans z1).keep, fun b z => ?_, ((x1.trans y1).trans z1).live⟩, ((((x2.trans y2).trans z2).trans io4).trans io5).trans io6, fun k d h => ?_⟩ S6
  · rcases o6 b z with z | z
    · rcases sub5 b z with z | z
      · rcases sub4 b z with z | z
        · exact ((x1.trans y1).trans z1).nw b z
        · exact f1 b z.1 z.2
      · exact back1 b (f2 b z.1 z.2)
    · exact back2 b z
  · obtain ⟨d2, h'⟩ := ((x2.trans y2).trans z2).2 k d h
    obtain ⟨d3, h''⟩ := io4.2 k d2 h'
    obtain ⟨d4, h'''⟩ := io5.2 k d3 h''
    rw [st6 k d4 h''', st5 k d3 h'', st4 k d2 h']
theorem s_par3E {X : Cx} {i j l : Nat} {x y z : Str} {a b c : Expr} {ma mb mc : EM} {px py pz pt pos : Pos} {kt k2 pt2} (hc : X.calm = true) (hN : X.N.Nodup) (hi : X.N[i]? = some x) (hj : X.N[j]? = some y) (hl : X.N[l]? = some z) (hij : i ≠ j) (hil : i ≠ l) (hjl : j ≠ l)
    (hx : X.env.scope.names.lookup x = some .local) (hy : X.env.scope.names.lookup y = some .local) (hz : X.env.scope.names.lookup z = some .local) (ha : XE X a ma) (hb : XE X b mb) (hcc : XE X c mc)
    (hw : swappedStores [.Tuple [.Name x px, .Name y py, .Name z pz] kt pt] (.Tuple [a, b, c] k2 pt2) X.env = pure (some [x, y, z]))
    (hs1 : starEach [a, b, c] X.env = (false, eval a X.env) :: starEach [b, c] X.env := by rfl) (hs2 : starEach [b, c] X.env = (false, eval b X.env) :: starEach [c] X.env := by rfl) (hs3 : starEach [c] X.env = (false, eval c X.env) :: starEach [] X.env := by rfl) :
    XS X (.Assign [.Tuple [.Name x px, .Name y py, .Name z pz] kt pt] (.Tuple [a, b, c] k2 pt2) pos) (sPar3E i j l ma mb mc) :=
  ps_imp (ps_par3 hc hN hi hj hl hij hil hjl hx hy hz (pa_cons ha (pa_cons hb (pa_cons hcc pa_nil hs3) hs2) hs1) hw) fun _ _ _ q => sM_par3E q
end Vw

set_option Elab.async false
set_option linter.all false
set_option maxRecDepth 100000
/-! the mirrors with dicts, reckoned by rewriting (goes with VwRun) -/
namespace Vw
open PySem L2 PyProof.Rows
section
variable {ρ : Rho} {m : EM} {src src1 : IM} {gm gm1 : GM} {ta ta1 : BM} {own vs1 : List Nat} {ds es : List PyData} {ps : List (PyData × PyData)} {d k y : PyData} {i : Nat} {o : Opd} {s : Sl} {n : Int}
-- items
theorem ixA_l : gIxA [.list ds, k] = gIx [.list ds, k] := rfl
theorem ixA_t : gIxA [.tuple ds, k] = gIx [.tuple ds, k] := rfl
theorem ixA_s {z : Str} : gIxA [.str z, k] = gIx [.str z, k] := rfl
theorem ixA_d : gIxA [.dict ps, k] = if okKB k = true then (lookD ps k).map .fz else none := rfl
theorem inA_l : gInA [k, .list ds] = gIn [k, .list ds] := rfl
theorem inA_t : gInA [k, .tuple ds] = gIn [k, .tuple ds] := rfl
theorem inA_s {z : Str} : gInA [k, .str z] = gIn [k, .str z] := rfl
theorem inA_d : gInA [k, .dict ps] = if plainD ps = true ∧ okKB k = true then some (.fz (.bool (false ^^ (lookD ps k).isSome))) else none := rfl
theorem notInA_l : gNotInA [k, .list ds] = gNotIn [k, .list ds] := rfl
theorem notInA_t : gNotInA [k, .tuple ds] = gNotIn [k, .tuple ds] := rfl
theorem notInA_s {z : Str} : gNotInA [k, .str z] = gNotIn [k, .str z] := rfl
theorem notInA_d : gNotInA [k, .dict ps] = if plainD ps = true ∧ okKB k = true then some (.fz (.bool (true ^^ (lookD ps k).isSome))) else none := rfl
theorem listA_l : gListA [.list ds] = gList [.list ds] := rfl
theorem listA_t : gListA [.tuple ds] = gList [.tuple ds] := rfl
theorem sortedA_l : gSortedA [.list ds] = gSorted [.list ds] := rfl
theorem listA_d : gListA [.dict ps] = if plainD ps = true then some (.ow (.list (ps.map (·.1)))) else none := rfl
theorem items_d : gItems [.dict ps] = if plainD ps = true then some (.ow (.list (ps.map fun p => .tuple [p.1, p.2]))) else none := rfl
theorem dict0_k : eDict0 ρ = some (.ow (.dict []), ρ) := rfl
-- keys as such
theorem plain_0 : plainD [] = true := rfl
theorem plain_i {j : Int} : plainD ((.int j, y) :: ps) = true := rfl
theorem plain_t : plainD ((.tuple ds, y) :: ps) = true := rfl
theorem okK_i {j : Int} : okKB (.int j) = true := rfl
theorem okK_p {a b : Int} : okKB (.tuple [.int a, .int b]) = true := rfl
-- sources
def jvAK : Option (Sl × Rho) → Option (List PyData × Rho)
  | some (.fz (.dict ps), ρ) => if plainD ps = true then some (ps.map (·.1), ρ) else none
  | some (.ow (.dict ps), ρ) => if plainD ps = true then some (ps.map (·.1), ρ) else none
  | some (.io (.dict ps), ρ) => if plainD ps = true then some (ps.map (·.1), ρ) else none
  | x => jvK x
theorem jValA_k : jValA m ρ = jvAK (m ρ) := by
  unfold jValA jvAK jvK
  cases m ρ with
  | none => rfl
  | some p => obtain ⟨s, q⟩ := p; cases s <;> (try rfl) <;> (rename_i d; cases d <;> rfl)
theorem jvAK_fl : jvAK (some (.fz (.list ds), ρ)) = some (ds, ρ) := rfl
theorem jvAK_ft : jvAK (some (.fz (.tuple ds), ρ)) = some (ds, ρ) := rfl
theorem jvAK_ol : jvAK (some (.ow (.list ds), ρ)) = some (ds, ρ) := rfl
theorem jvAK_fd : jvAK (some (.fz (.dict ps), ρ)) = if plainD ps = true then some (ps.map (·.1), ρ) else none := rfl
theorem jvAK_od : jvAK (some (.ow (.dict ps), ρ)) = if plainD ps = true then some (ps.map (·.1), ρ) else none := rfl
-- two sources
def lcK22 : Option (List PyData × Rho) → Option (Sl × Rho)
  | some (ys, ρ) => if ys.length ≤ sizeLine then some (.ow (.list ys), ρ) else none
  | none => none
def lc2K (g : GM) (t : BM) (src1 : IM) (g1 : GM) (t1 : BM) (e : EM) (own vs1 : List Nat) : Option (List PyData × Rho) → Option (Sl × Rho)
  | some (ds, ρ) => lcK22 (lcM2 g t src1 g1 t1 e own vs1 ds ρ)
  | none => none
theorem eLc2_k : eLc2 src gm ta src1 gm1 ta1 m own vs1 ρ = lc2K gm ta src1 gm1 ta1 m own vs1 (src ρ) := by
  unfold eLc2 lc2K lcK22
  cases src ρ with
  | none => rfl
  | some p => simp only [Option.bind_some]; cases lcM2 gm ta src1 gm1 ta1 m own vs1 p.1 p.2 <;> rfl
theorem lc2K_s : lc2K gm ta src1 gm1 ta1 m own vs1 (some (ds, ρ)) = lcK22 (lcM2 gm ta src1 gm1 ta1 m own vs1 ds ρ) := rfl
theorem lcK22_s {ys : List PyData} (h : ys.length ≤ 10000) : lcK22 (some (ys, ρ)) = some (.ow (.list ys), ρ) := by
  have : ys.length ≤ sizeLine := Nat.le_trans h (by decide)
  simp [lcK22, this]
-- d[k] = y
def saK4 (i : Nat) (y : PyData) (ρ : Rho) : Option PyData → Option PyData → Option Out
  | some k, some (.list ds) => match k with
    | .int n => (ixN ds.length n).map fun j => .nx (setOwn ρ i (.list (ds.set j y)))
    | _ => none
  | some k, some (.dict ps) => if okKB k = true ∧ ps.length < 10000 then some (.nx (setOwn ρ i (.dict (putD ps k y)))) else none
  | _, _ => none
def saK3 (i : Nat) (o : Opd) (y : PyData) : Option (Option PyData × Rho) → Option Out
  | some (x, ρ) => saK4 i y ρ (fin o x ρ) (own? ρ i)
  | none => none
def saK2 (i : Nat) (o : Opd) (y : PyData) (ρ : Rho) : Option PyData → Option Out
  | some _ => saK3 i o y (pre o ρ)
  | none => none
def saK (i : Nat) (o : Opd) : Option (Sl × Rho) → Option Out
  | some (.fz y, ρ) => saK2 i o y ρ (own? ρ i)
  | some (.ow y, ρ) => saK2 i o y ρ (own? ρ i)
  | some (.io y, ρ) => saK2 i o y ρ (own? ρ i)
  | _ => none
theorem sSetAt_k : sSetAt i m o ρ = saK i o (m ρ) := by
  unfold sSetAt
  cases m ρ with
  | none => rfl
  | some p =>
    obtain ⟨s, q⟩ := p
    have key : ∀ y : PyData, ((own? q i).bind fun _ => (pre o q).bind fun r => (fin o r.1 r.2).bind fun k => (own? r.2 i).bind fun d => match d, k with
        | .list ds, .int n => (ixN ds.length n).map fun j => Out.nx (setOwn r.2 i (.list (ds.set j y)))
        | .dict ds, kd => if okKB kd = true ∧ ds.length < 10000 then some (.nx (setOwn r.2 i (.dict (putD ds kd y)))) else none
        | _, _ => none) = saK2 i o y q (own? q i) := fun y => by
      cases own? q i with
      | none => rfl
      | some d0 =>
        simp only [Option.bind_some, saK2]
        cases pre o q with
        | none => rfl
        | some r =>
          obtain ⟨x, r⟩ := r
          simp only [Option.bind_some, saK3]
          cases fin o x r with
          | none => simp only [Option.bind_none, saK4]
          | some k =>
            simp only [Option.bind_some]
            cases own? r i with
            | none => simp only [Option.bind_none, saK4]
            | some d => cases d <;> cases k <;> rfl
    cases s with
    | un => rfl
    | fz y => exact key y
    | ow y => exact key y
    | io y => exact key y
theorem saK_f : saK i o (some (.fz y, ρ)) = saK2 i o y ρ (own? ρ i) := rfl
theorem saK_o : saK i o (some (.ow y, ρ)) = saK2 i o y ρ (own? ρ i) := rfl
theorem saK2_s : saK2 i o y ρ (some d) = saK3 i o y (pre o ρ) := rfl
theorem saK3_s {x : Option PyData} : saK3 i o y (some (x, ρ)) = saK4 i y ρ (fin o x ρ) (own? ρ i) := rfl
theorem saK4_d : saK4 i y ρ (some k) (some (.dict ps)) = if okKB k = true ∧ ps.length < 10000 then some (.nx (setOwn ρ i (.dict (putD ps k y)))) else none := rfl
theorem saK4_l : saK4 i y ρ (some (.int n)) (some (.list ds)) = (ixN ds.length n).map fun j => .nx (setOwn ρ i (.list (ds.set j y))) := rfl
-- d.update(..)
variable {hm : PyData → List PyData → Option (PyData × PyData)} {os : List Opd}
def mutDK (h : PyData → List PyData → Option (PyData × PyData)) (i : Nat) (os : List Opd) : Option PyData → Rho → Option (Sl × Rho)
  | some (.dict _), ρ => mutK1 h i os (pres os ρ)
  | _, _ => none
theorem eMutD_k : eMut "dict" hm i os ρ = mutDK hm i os (own? ρ i) ρ := by
  unfold eMut
  cases h0 : own? ρ i with
  | none => rfl
  | some d0 =>
    simp only [Option.bind_some]
    cases d0 with
    | dict zs =>
      rw [if_pos (by rfl)]
      show _ = mutK1 hm i os (pres os ρ)
      cases h1 : pres os ρ with
      | none => rfl
      | some p =>
        obtain ⟨ys, q⟩ := p
        show _ = mutK2 hm i (fins os ys q) (own? q i) q
        simp only [Option.bind_some]
        cases h2 : fins os ys q with
        | none => rfl
        | some z =>
          simp only [Option.bind_some]
          cases h3 : own? q i with
          | none => rfl
          | some v =>
            show _ = mutK3 i (hm v z) q
            simp only [Option.bind_some]
            cases h4 : hm v z <;> rfl
    | _ => simp [kindD, mutDK]
theorem mutDK_s : mutDK hm i os (some (.dict ps)) ρ = mutK1 hm i os (pres os ρ) := rfl
-- a, b, c = x, y, z
def p3K3 (j l : Nat) (y z : Sl) : Option Rho → Option Out
  | some ρ => parK3 l z (put j y ρ)
  | none => none
def p3K2 (i j l : Nat) (x y : Sl) : Option (Sl × Rho) → Option Out
  | some (z, ρ) => p3K3 j l y z (put i x ρ)
  | none => none
def p3K1 (i j l : Nat) (x : Sl) (c : EM) : Option (Sl × Rho) → Option Out
  | some (y, ρ) => p3K2 i j l x y (c ρ)
  | none => none
def p3K (i j l : Nat) (b c : EM) : Option (Sl × Rho) → Option Out
  | some (x, ρ) => p3K1 i j l x c (b ρ)
  | none => none
variable {j l : Nat} {a b c : EM} {x z : Sl} {ds3 : List PyData}
theorem sPar3E_k : sPar3E i j l a b c ρ = p3K i j l b c (a ρ) := by
  unfold sPar3E p3K p3K1 p3K2 p3K3 parK3 setK2
  cases a ρ with
  | none => rfl
  | some p =>
    obtain ⟨x, q⟩ := p
    simp only [Option.bind_some]
    cases b q with
    | none => rfl
    | some w =>
      obtain ⟨y, z⟩ := w
      simp only [Option.bind_some]
      cases c z with
      | none => rfl
      | some u =>
        obtain ⟨t, v⟩ := u
        simp only [Option.bind_some]
        cases put i x v with
        | none => rfl
        | some v =>
          simp only [Option.bind_some]
          cases put j y v with
          | none => rfl
          | some v => simp only [Option.bind_some]; cases put l t v <;> rfl
theorem p3K_s : p3K i j l b c (some (x, ρ)) = p3K1 i j l x c (b ρ) := rfl
theorem p3K1_s : p3K1 i j l x c (some (s, ρ)) = p3K2 i j l x s (c ρ) := rfl
theorem p3K2_s : p3K2 i j l x s (some (z, ρ)) = p3K3 j l s z (put i x ρ) := rfl
theorem p3K3_s : p3K3 j l s z (some ρ) = parK3 l z (put j s ρ) := rfl
def q3K2 (i j l : Nat) : Option (List PyData) → Rho → Option Out
  | some ds, ρ => setK2 (gsCons (gN i) (gsCons (gN j) (gsCons (gN l) gsNil)) ds ρ)
  | none, _ => none
def q3K (i j l : Nat) (os : List Opd) : Option (List (Option PyData) × Rho) → Option Out
  | some (xs, ρ) => q3K2 i j l (fins os xs ρ) ρ
  | none => none
theorem sPar3_k : sPar3 i j l os ρ = q3K i j l os (pres os ρ) := by
  unfold sPar3 q3K q3K2 setK2
  cases pres os ρ with
  | none => rfl
  | some p =>
    simp only [Option.bind_some]
    cases fins os p.1 p.2 with
    | none => rfl
    | some ds =>
      simp only [Option.bind_some]
      cases gsCons (gN i) (gsCons (gN j) (gsCons (gN l) gsNil)) ds p.2 <;> rfl
theorem q3K_s {xs : List (Option PyData)} : q3K i j l os (some (xs, ρ)) = q3K2 i j l (fins os xs ρ) ρ := rfl
theorem q3K2_s : q3K2 i j l (some ds3) ρ = setK2 (gsCons (gN i) (gsCons (gN j) (gsCons (gN l) gsNil)) ds3 ρ) := rfl
end
end Vw

set_option Elab.async false
set_option linter.all false
set_option maxRecDepth 100000
set_option maxHeartbeats 2000000
/-! errors of one's own as values: made, asked for their class, read -/
namespace Vw
open PySem L2 PyProof.Rows

section
variable {X : Cx} {e : Expr} {es : List Expr} {ta : TA} {p p1 p2 pos : Pos} {x : Str}
/-- B.__init__(self, ..), B a class of one's own that has its __init__ from ValueError -/
theorem pe_cinit {B : Addr} {mc : Value} {pl : Sem Bool} (hg : Gl X x) (hm : X.mg x = some (.ref B)) (hga : PySem.W.specialIn X.K (.ref B) "__getattribute__" = some (some (.builtin "type.__getattribute__"))) (hrd : PySem.W.readsIn X.K B mc = true)
    (hf : PySem.W.findCls X.K (.ref B) mc "__init__" = some (.val (.builtin "ValueError.__init__"))) (ha : PA X (e :: es) ta) (hdb : (x == ("__debug__" : Str)) = false := by decide)
    (hc : eval (.Call (.Attribute (.Name x p1) "__init__" p2) (e :: es) [] pos) X.env = (do let ov ← eval (.Name x p1) X.env; standAt p2.atName; let (f, first) ← holding [ov] (getMethod ov "__init__" pl); callWith pos f first (backTo pos (starEach (e :: es) X.env)) (backToKw pos (keywordEach [] X.env))) := by rfl)
    (he : starEach (e :: es) X.env = (false, eval e X.env) :: starEach es X.env := by rfl) (hpl : (backTo pos (starEach es X.env)).any (·.1) = false := by rfl) :
    PE X (.Call (.Attribute (.Name x p1) "__init__" p2) (e :: es) [] pos) (tVeI X.K ta) := by
  refine ⟨fun pins s σ H Q I h => PySem.W.methodCall_KW (ld_glob I hg hm ?_ hdb) hc⟩
  have KI : X.K.In s.heap := I.kIn
  refine PySem.W.method_cls KI hga (PySem.W.cls_value KI hrd hf rfl ?_)
  show wpAny _ _ (callWith pos (Value.builtin "ValueError.__init__") [] (backTo pos (starEach (e :: es) X.env)) []) _ _ _
  refine PyProof.Rows.callWith_method1 (thn (ha.run pos pins _ σ H _ (I.tok _) h) fun us s1 ⟨vs, H1, J, rs, a, C, ws, ev, hl, T, ea, q⟩ => ?_) he hpl
  subst ev
  cases rs with
  | @cons _ u0 _ ur ra rw' =>
    obtain rfl : u0 = Value.ref a := ra
    exact oinit_ok T J ea (by rw [← Paired.length rw', sizeLine_eq]; omega) fun s' J' => ⟨.non, H1, J', rfl, q⟩
/-- C(e, ..), C's own __init__ keeping sp: the new error itself -/
def tMkV (C : Addr) (sp : Sp) (ta : TA) : TE := fun σ H Q => ta σ H fun vs H1 => vs.length ≤ 1000 ∧ ∀ a, H1 a = none → sp (.ref a :: vs) (upd H1 a (exo a C none)) (fun v H2 => v = .non ∧ Q (.ref a) H2) (fun _ _ _ => False)
theorem pe_mkV {C fI : Addr} {k : Nat} {fd : FuncData} {ps : List Str} {sp : Sp} (T : OexC X.K C) (iC : PySem.W.findIn X.K (.ref C) "__init__" = some (some (.ref fI))) (tI : PySem.W.typeIn X.K (.ref fI) = some (.type "function")) (F1 : FnOk X.prog X.w X.K X.mg X.base CX0 k fI fd ps sp)
    (hr : Room (k + 1) X.A) (hb : Binds X.K fd ps []) (hg : Gl X x) (hm : X.mg x = some (.ref C)) (ha : PA X (e :: es) ta) (hdb : (x == ("__debug__" : Str)) = false := by decide)
    (he : starEach (e :: es) X.env = (false, eval e X.env) :: starEach es X.env := by rfl) (hpl : (backTo pos (starEach es X.env)).any (·.1) = false := by rfl) : PE X (.Call (.Name x p) (e :: es) [] pos) (tMkV C sp ta) := by
  refine ⟨fun pins s σ H Q I h => wpAny_Call_Name_kw (ld_glob I hg hm ?_ hdb)⟩
  obtain ⟨nm, q, N, bs, bm, sn, sub, ab, col, dd, k0, k1, k2, k3, k5, hC, hbm⟩ := T.cls
  refine PySem.W.callWith_K (h₀ := X.base) I.ok.mod.kin T.kC (thn (ha.run pos pins s σ H _ I h) fun us s1 ⟨vs, H1, J, rs, hz, q1⟩ => ⟨J.kIn, ?_⟩) he hpl
  show wpAny _ _ (call (.ref C) us) _ _ _
  obtain ⟨hp, g, dr, tk, os⟩ := s1
  have hn : H1 (hp.objs.size + 1) = none := J.hok.fresh (Nat.le_succ _)
  have hq := q1 (hp.objs.size + 1) hn
  have hget : ((hp.push (PySem.W.kdv_tup us)).push (PySem.HandSPX.excO C hp.objs.size)).get? (hp.objs.size + 1) = some (PySem.HandSPX.excO C hp.objs.size) := by heap_get
  have J2 : Inv X pins σ (upd H1 (hp.objs.size + 1) (exo (hp.objs.size + 1) C none)) ⟨(hp.push (PySem.W.kdv_tup us)).push (PySem.HandSPX.excO C hp.objs.size), g, dr, tk, os⟩ :=
    J.laid (t' := tk) (a := hp.objs.size + 1) (h' := (hp.push (PySem.W.kdv_tup us)).push (PySem.HandSPX.excO C hp.objs.size)) (fun b o z => Heap.get?_push_of_some _ (Heap.get?_push_of_some _ z)) (Nat.le_succ _) (exo_ok hget)
  have r2 : Vals (V.ref (hp.objs.size + 1) :: vs) (Value.ref (hp.objs.size + 1) :: us) := .cons rfl rs
  have hl : (Value.ref (hp.objs.size + 1) :: us ++ []).length = ps.length := by
    have z := r2.length
    rw [F1.len _ _ _ _ hq] at z
    rw [List.append_nil]
    exact z.symm
  have hus : us.length ≤ sizeLine := by rw [← Paired.length rs, sizeLine_eq]; omega
  have hb2 := hb _ (Value.ref (hp.objs.size + 1) :: us) J2.kIn hl
  rw [List.append_nil] at hb2
  refine wpAny_call (PySem.HandSPX.call_own F.excBase_ValueError (fun Y => PySem.HandSPX.refsVE_contains Y bm hbm) (J.kIn _ _ hC) (PySem.W.looks_findIn J.kIn iC) (fun self => PySem.W.bind_fn J.kIn self tI) hus
    (codeAny_mono (F1.run _ X.stack _ _ ⟨Value.ref (hp.objs.size + 1) :: us, []⟩ (Value.ref (hp.objs.size + 1) :: us) _ _ (fun _ _ _ => False) (hr.make C us []) (J2.env0.make C us []) hb2 r2 hq) fun r s' hq' => ?_))
  cases r with
  | error er => exact pass0 pins σ _ _ er s' J2 hq'
  | ok fl =>
    cases fl with
    | ret u =>
      obtain ⟨v, H2, os2, bare2, un2, hok2, rv, ev, q2⟩ := hq'
      subst ev
      obtain ⟨h2, g2, d2, t2, os'⟩ := s'
      exact ⟨rv, .ref (hp.objs.size + 1), H2, J2.call' (ch := []) os2 un2 hok2 bare2 (fun b z => absurd z (by simp)), rfl, q2⟩
    | _ => exact False.elim hq'
end
/-- the base class of all errors, with its __init__ from ValueError -/
structure BaseC (K : PySem.W.Frag) (mg : Str → Option Value) (x : Str) : Prop where
  ex : ∃ (B : Addr) (mc : Value), mg x = some (.ref B) ∧ PySem.W.specialIn K (.ref B) "__getattribute__" = some (some (.builtin "type.__getattribute__")) ∧ PySem.W.readsIn K B mc = true ∧ PySem.W.findCls K (.ref B) mc "__init__" = some (.val (.builtin "ValueError.__init__"))
/-- __init__ with these fields, one by one -/
def spE (C : Addr) (fs : List Str) : Sp := fun vs H Q _ => ∃ (a : Addr) (ws : List V), vs = .ref a :: ws ∧ ws.length = fs.length ∧ H a = some (exo a C none) ∧
  ∀ (dx : Addr) (H' : Hp), H dx = none → dx ≠ a → H' a = some (exo a C (some dx)) → H' dx = some (exd dx (fs.zip ws).reverse) → (∀ b, b ≠ a → b ≠ dx → H' b = H b) → Q .non H'
/-- what the written part says of a class of errors with an __init__ of its own -/
structure ErrC (P : Program) (w : World) (K : PySem.W.Frag) (mg : Str → Option Value) (base : Heap) (n : Str) (fs : List Str) : Prop where
  ex : ∃ (C fI : Addr) (fd : FuncData), ObC K n C ∧ OexC K C ∧ mg n = some (.ref C) ∧ PySem.W.findIn K (.ref C) "__init__" = some (some (.ref fI)) ∧ PySem.W.typeIn K (.ref fI) = some (.type "function") ∧ Binds K fd ("self" :: fs) [] ∧ (∀ f ∈ fs, PySem.W.findIn K (.ref C) f = some none) ∧
    FnOk P w K mg base CX0 1 fI fd ("self" :: fs) (spE C fs)
theorem spE_len {C : Addr} {fs : List Str} : ∀ vs H Q E, spE C fs vs H Q E → vs.length = ("self" :: fs : List Str).length := fun vs H Q E ⟨a, ws, h, hl, _⟩ => by rw [h, List.length_cons, hl, List.length_cons]
theorem run1 {K : PySem.W.Frag} {C : Addr} {f m : Str} {vs : List V} {H : Hp} {Q : VK} {E : XK} (T : OexC K C) (hno : PySem.W.findIn K (.ref C) f = some none) (h : spE C [f] vs H Q E) :
    tSeq (tDrop (tVeI K (tCons (tVar 0) (tCons (tC (.str m)) tNil)))) (tOst K f (tVar 0) (tVar 1)) { nx := fun _ H' => Q .non H', rt := Q } (start ["self", f] vs) H := by
  obtain ⟨a, ws, rfl, hl, ha, k⟩ := h
  match ws, hl with
  | [v], _ =>
    refine ⟨.ref a, rfl, a, C, [.str m], rfl, by simp, T, ha, v, rfl, .ref a, rfl, a, C, rfl, T, hno, .inl ⟨ha, fun dx hx hne => ?_⟩⟩
    exact k dx _ hx hne upd_same (by rw [upd_ne hne, upd_same]; rfl) fun b h1 h2 => by rw [upd_ne h1, upd_ne h2]
theorem run2 {K : PySem.W.Frag} {C : Addr} {f g m : Str} {vs : List V} {H : Hp} {Q : VK} {E : XK} (T : OexC K C) (hf : PySem.W.findIn K (.ref C) f = some none) (hg : PySem.W.findIn K (.ref C) g = some none) (h : spE C [f, g] vs H Q E) :
    tSeq (tDrop (tVeI K (tCons (tVar 0) (tCons (tC (.str m)) tNil)))) (tSeq (tOst K f (tVar 0) (tVar 1)) (tOst K g (tVar 0) (tVar 2))) { nx := fun _ H' => Q .non H', rt := Q } (start ["self", f, g] vs) H := by
  obtain ⟨a, ws, rfl, hl, ha, k⟩ := h
  match ws, hl with
  | [v, y], _ =>
    refine ⟨.ref a, rfl, a, C, [.str m], rfl, by simp, T, ha, v, rfl, .ref a, rfl, a, C, rfl, T, hf, .inl ⟨ha, fun dx hx hne => ?_⟩⟩
    refine ⟨y, rfl, .ref a, rfl, a, C, rfl, T, hg, .inr ⟨dx, [(f, v)], upd_same, by rw [upd_ne hne, upd_same], by simp, ?_⟩⟩
    exact k dx _ hx hne (by rw [upd_ne (Ne.symm hne), upd_same]) (by rw [upd_same]; rfl) fun b h1 h2 => by rw [upd_ne h2, upd_ne h1, upd_ne h2]
/-- the new error, as data -/
def gErr (n : Str) (fs : List Str) : List PyData → Option Sl := fun ds => if ds.length = fs.length ∧ ds.length ≤ 1000 then some (.fz (.dict (objL n (fs.zip ds).reverse))) else none
theorem zip_fst {α β : Type} : ∀ {fs : List α} {l : List β}, l.length = fs.length → (fs.zip l).map (·.1) = fs
  | [], _, _ => by simp
  | _ :: _, [], h => by simp at h
  | _ :: _, _ :: _, h => by simp only [List.zip_cons_cons, List.map_cons]; rw [zip_fst (by simpa using h)]
theorem zip_snd {α β : Type} : ∀ {fs : List α} {l : List β}, l.length = fs.length → (fs.zip l).map (·.2) = l
  | [], [], _ => by simp
  | [], _ :: _, h => by simp at h
  | _ :: _, [], h => by simp at h
  | _ :: _, _ :: _, h => by simp only [List.zip_cons_cons, List.map_cons]; rw [zip_snd (by simpa using h)]
theorem x_err {X : Cx} {kk : Nat} {n : Str} {fs : List Str} {e : Expr} {es : List Expr} {os : List Opd} {p pos : Pos} (C : ErrC X.prog X.w X.K X.mg X.base n fs) (hr : Room kk X.A) (hk : 2 ≤ kk) (hg : Gl X n) (ha : XA X (e :: es) os) (hv : os.all Opd.isVal = true) (hdb : (n == ("__debug__" : Str)) = false := by decide)
    (he : starEach (e :: es) X.env = (false, eval e X.env) :: starEach es X.env := by rfl) (hpl : (backTo pos (starEach es X.env)).any (·.1) = false := by rfl) : XE X (.Call (.Name n p) (e :: es) [] pos) (eFn (gErr n fs) os) := by
  obtain ⟨C, fI, fd, c, T, hm, iC, tI, hb, nf, F⟩ := C.ex
  refine pe_imp (pe_mkV T iC tI F (hr.mono hk) hb hg hm ha hdb he hpl) fun σ H Q q => ?_
  refine tM_fnR (r := fun vs H1 Q => vs.length ≤ 1000 ∧ ∀ a, H1 a = none → spE C fs (.ref a :: vs) (upd H1 a (exo a C none)) (fun v H2 => v = .non ∧ Q (.ref a) H2) (fun _ _ _ => False)) ?_ hv q
  intro A vs ds H s Q hA h hg k
  unfold gErr at hg
  split at hg
  · rename_i hc
    cases hg
    have hl := h.length
    refine ⟨by omega, fun a hn => ⟨a, vs, rfl, by omega, upd_same, fun dx H' hx hne h1 h2 h3 => ⟨rfl, ?_⟩⟩⟩
    have hx' : H dx = none := by rw [upd_ne hne] at hx; exact hx
    have sm : Same H H' := fun b u z => by
      have n1 : b ≠ a := fun q => by rw [q, hn] at z; cases z
      have n2 : b ≠ dx := fun q => by rw [q, hx'] at z; cases z
      rw [h3 b n1 n2, upd_ne n1]
      exact z
    refine k _ H' sm ?_
    refine .obj (fun z => hA a z hn) (fun z => hA dx z hx') h1 h2 c (fun f hf => nf f ?_) ?_ ?_
    · rw [List.map_reverse, zip_fst hc.1] at hf
      exact List.mem_reverse.mp hf
    · rw [List.map_reverse, List.map_reverse, zip_fst (by omega), zip_fst hc.1]
    · rw [List.map_reverse, List.map_reverse, zip_snd (by omega), zip_snd hc.1]
      exact (h.move (Same.mv sm)).reverse
  · cases hg
end Vw

set_option Elab.async false
set_option linter.all false
set_option maxRecDepth 100000
set_option maxHeartbeats 2000000
/-! errors of one's own as values: what they hold, of which class they are -/
namespace Vw
open PySem L2 PyProof.Rows

/-! ### e.f -/
def fldD : List (PyData × PyData) → Str → Option PyData
  | (.str g, d) :: es, f => if f = g then some d else fldD es f
  | _, _ => none
def gFld (f : Str) : List PyData → Option Sl
  | [.dict ((.bool true, _) :: es)] => (fldD es f).map .fz
  | _ => none
theorem fld_find {K : PySem.W.Frag} {A : Addr → Prop} {H : Hp} {f : Str} {d : PyData} : ∀ {fs : List (Str × V)} {es : List (Str × PyData)}, fs.map (·.1) = es.map (·.1) → RepAll K A H (fs.map (·.2)) (es.map (·.2)) → fldD (es.map fun p => (.str p.1, p.2)) f = some d → ∃ v, fs.lookup f = some v ∧ Rep K A H v d ∧ f ∈ es.map (·.1)
  | _, [], _, _, h => by cases h
  | [], _ :: _, e, _, _ => by cases e
  | (g, v) :: fs, (g', d') :: es, e, r, h => by
    simp only [List.map_cons, List.cons.injEq] at e
    obtain ⟨rfl, e⟩ := e
    cases r with
    | cons r1 r2 =>
      simp only [List.map_cons, fldD] at h
      by_cases q : f = g
      · subst q
        rw [if_pos rfl] at h
        cases h
        exact ⟨v, by simp [List.lookup], r1, List.mem_cons_self⟩
      · rw [if_neg q] at h
        obtain ⟨w, h1, h2, h3⟩ := fld_find e r2 h
        refine ⟨w, ?_, h2, List.mem_cons_of_mem _ h3⟩
        rw [List.lookup, show (f == g) = false from by simpa using q]
        exact h1
def rFld (K : PySem.W.Frag) (f : Str) : V → Hp → VK → Prop := fun x H Q => ∃ (a C dx : Addr) (fs : List (Str × V)) (n : Str) (v : V), x = .ref a ∧ H a = some (exo a C (some dx)) ∧ H dx = some (exd dx fs) ∧ ObC K n C ∧ PySem.W.findIn K (.ref C) f = some none ∧ fs.lookup f = some v ∧ Q v H
theorem pe_fldO {X : Cx} {e : Expr} {te : TE} {f : Str} {pos : Pos} (he : PE X e te) (hb : attributeBase e f X.env (eval e X.env) = eval e X.env := by rfl) : PE X (.Attribute e f pos) (fun σ H Q => te σ H fun x H1 => rFld X.K f x H1 Q) := by
  refine ⟨fun pins s σ H Q I h => attr_of hb (thn (he.run pins s σ H _ I h) fun u s1 ⟨x, H1, J, rx, a, C, dx, fs, n, v, ex, h1, h2, c, hno, l, q⟩ => ?_)⟩
  subst ex
  obtain rfl : u = Value.ref a := rx
  obtain ⟨ox, od, K1, _, mA, hr, hl⟩ := exo_inst J h1 h2
  obtain ⟨y, hy, ry⟩ := RelO.some_of (v := v) (o := mA f) (by rw [← l]; exact hr f)
  exact HandSPX.exc_get J.kIn K1 c.ga c.gg c.sub (PySem.W.findObj_own c.hd hno rfl (by rw [hl, hy])) (handed_of ry) ⟨v, H1, J.tok _, ry, q⟩
theorem fnFld {K : PySem.W.Frag} {f : Str} : FnD K (r1 (rFld K f)) (gFld f) := fun A vs ds H s Q hA hr e k x hx => by
  subst hx
  unfold gFld at e
  split at e
  · rename_i m es
    obtain ⟨d, hd, rfl⟩ := Option.map_eq_some_iff.mp e
    obtain ⟨x', e', h⟩ := hr.one
    cases e'
    rcases h with h | ⟨p, rfl, es', ep, ks, vs, _, z, _⟩
    · cases h with
      | dG na h1 z t u => exact (Bool.false_ne_true (plain_ok z.ok)).elim
      | obj na nd h1 h2 c nf z t =>
        obtain ⟨v, l, r, hm⟩ := fld_find z t hd
        exact ⟨_, _, _, _, _, v, rfl, h1, h2, c, nf _ hm, l, k v H (Same.refl H) r⟩
      | obj0 na h1 c => cases hd
    · exact (Bool.false_ne_true (plain_ok z.ok)).elim
  · cases e
theorem x_fldO {X : Cx} {e : Expr} {o : Opd} {f : Str} {pos : Pos} (he : XO X e o) (hb : attributeBase e f X.env (eval e X.env) = eval e X.env := by rfl) : XE X (.Attribute e f pos) (eFn (gFld f) [o]) :=
  pe_imp (pe_fldO he hb) fun σ H Q q => by
    have h := pM1 (tM_fn fnFld q)
    exact oM_mono h fun x H1 h => h x rfl

/-! ### isinstance(e, C) -/
def unDeep : Nat → PyData → Option Str
  | 0, .str n => some n
  | k + 1, .tuple [d] => unDeep k d
  | _, _ => none
theorem unDeep_deep (n : Str) : ∀ k : Nat, unDeep k (deepD n k) = some n
  | 0 => rfl
  | k + 1 => by rw [deepD, unDeep]; exact unDeep_deep n k
/-- the name of an object's class -/
def nameO : PyData → Option Str
  | .dict ((.bool true, m) :: _) => unDeep 70 m
  | _ => none
theorem nameO_ob {n : Str} {es : List (Str × PyData)} : nameO (.dict (objL n es)) = some n := unDeep_deep n 70
/-- of which of these classes a class is -/
def gIsC (tab : List (Str × Bool)) : List PyData → Option Sl
  | [d] => (nameO d).bind fun n => (tab.lookup n).map fun b => .fz (.bool b)
  | _ => none
/-- the class that a name stands for, and which classes are below it -/
def SubC (K : PySem.W.Frag) (mg : Str → Option Value) (D : Str) (tab : List (Str × Bool)) : Prop := ∃ CD : Addr, mg D = some (.ref CD) ∧ ∀ p ∈ tab, ∀ C : Addr, PySem.W.nsIn K mainGlobals p.1 = some (some (.ref C)) → PySem.W.kitOne K (.ref C) (.ref CD) = some p.2
def SubB (K : PySem.W.Frag) (T : String) (tab : List (Str × Bool)) : Prop := ∀ p ∈ tab, ∀ C : Addr, PySem.W.nsIn K mainGlobals p.1 = some (some (.ref C)) → PySem.W.kitOne K (.ref C) (.type T) = some p.2
def rIsO (K : PySem.W.Frag) (c : V) (u : Value) : V → Hp → VK → Prop := fun x H Q => ∃ (a C : Addr) (n : Str) (b : Bool), x = .ref a ∧ ObC K n C ∧ ((∃ dx fs, H a = some (exo a C (some dx)) ∧ H dx = some (exd dx fs)) ∨ H a = some (ExO (.ref C) a)) ∧ PySem.W.kitOne K (.ref C) u = some b ∧ Q (.bl b) H
theorem c_isO {X : Cx} {c : V} {u : Value} (hu : ∀ w, RelV c w → w = u) : CallR X (.builtin "isinstance") (fun xs H Q => ∃ x, xs = [x, c] ∧ rIsO X.K c u x H Q) := by
  intro pins s σ H xs us Q I r h
  obtain ⟨x, rfl, a, C, n, b, rfl, oc, ob, hk, q⟩ := h
  obtain ⟨u1, u2, rfl, q1, q2⟩ := vals2 r
  cases (show u1 = Value.ref a from q1)
  rw [hu u2 q2]
  obtain ⟨P, Z, p⟩ := ob_kit I oc ob
  exact PySem.W.kia_one Z I.kIn p hk (fun z => by cases z) fun tk => ⟨.bl b, H, I.tok tk, rfl, q⟩
theorem lookup_mem {α : Type} {n : Str} {b : α} : ∀ {l : List (Str × α)}, l.lookup n = some b → (n, b) ∈ l
  | [], h => by cases h
  | (m, c) :: l, h => by
    rw [List.lookup] at h
    split at h
    · rename_i q
      cases h
      rw [beq_iff_eq.mp q]
      exact List.mem_cons_self
    · exact List.mem_cons_of_mem _ (lookup_mem h)
theorem fnIsC {K : PySem.W.Frag} {c : V} {u : Value} {tab : List (Str × Bool)} (ht : ∀ p ∈ tab, ∀ C : Addr, PySem.W.nsIn K mainGlobals p.1 = some (some (.ref C)) → PySem.W.kitOne K (.ref C) u = some p.2) : FnD K (r1 (rIsO K c u)) (gIsC tab) := fun A vs ds H s Q hA hr e k x hx => by
  subst hx
  unfold gIsC at e
  split at e
  · rename_i d
    obtain ⟨n, hn, e⟩ := Option.bind_eq_some_iff.mp e
    obtain ⟨b, hb, rfl⟩ := Option.map_eq_some_iff.mp e
    obtain ⟨x', e', h⟩ := hr.one
    cases e'
    have hm : (n, b) ∈ tab := lookup_mem hb
    have fin : ∀ {a C : Addr} {m : Str} {es : List (Str × PyData)}, d = .dict (objL m es) → ObC K m C → ((∃ dx fs, H a = some (exo a C (some dx)) ∧ H dx = some (exd dx fs)) ∨ H a = some (ExO (.ref C) a)) → rIsO K c u (.ref a) H Q := fun {a C m es} hd oc ob => by
      subst hd
      rw [nameO_ob] at hn
      obtain rfl : m = n := Option.some.inj hn
      exact ⟨a, C, _, b, rfl, oc, ob, ht _ hm C oc.ns, k _ H (Same.refl H) (.bl b)⟩
    rcases kindD_ty h with ⟨hp, _⟩ | ⟨a, C, m, es, hd, rfl, oc, ob⟩
    · cases d with
      | dict l =>
        match l, hp with
        | (.bool true, _) :: _, hp => cases hp
        | [], _ => cases hn
        | (.bool false, _) :: _, _ => cases hn
        | (.none, _) :: _, _ => cases hn
        | (.int _, _) :: _, _ => cases hn
        | (.str _, _) :: _, _ => cases hn
        | (.list _, _) :: _, _ => cases hn
        | (.tuple _, _) :: _, _ => cases hn
        | (.dict _, _) :: _, _ => cases hn
      | _ => cases hn
    · exact fin hd oc ob
  · cases e
section
variable {X : Cx} {a : Expr} {o : Opd} {p p2 pos : Pos}
theorem x_isC {D : Str} {tab : List (Str × Bool)} (hs : SubC X.K X.mg D tab) (ha : XO X a o) (gi : Gl X "isinstance") (mi : X.mg "isinstance" = none) (gD : Gl X D) (hdb : (D == ("__debug__" : Str)) = false := by decide)
    (h1 : starEach [a, .Name D p2] X.env = (false, eval a X.env) :: starEach [.Name D p2] X.env := by rfl) (h2 : starEach [.Name D p2] X.env = (false, eval (.Name D p2) X.env) :: starEach [] X.env := by rfl) (h3 : (backTo pos (starEach [.Name D p2] X.env)).any (·.1) = false := by rfl) :
    XE X (.Call (.Name "isinstance" p) [a, .Name D p2] [] pos) (eFn (gIsC tab) [o]) := by
  obtain ⟨CD, hD, ht⟩ := hs
  refine pe_imp (pe_callB (c_isO (c := .ref CD) (u := .ref CD) fun w r => r) gi mi (by decide +kernel) (pa_cons ha (pa_cons (pe_glob gD hD (show RelV (.ref CD) (.ref CD) from rfl) hdb) pa_nil h2) h1) (by decide) (by decide) h1 h3) fun σ H Q q => ?_
  have h := pM1 (tM_fn (fnIsC (c := .ref CD) ht) q)
  exact oM_mono h fun x H1 h => ⟨x, rfl, h x rfl⟩
theorem x_isT {D : Str} {T : String} {tab : List (Str × Bool)} (hs : SubB X.K T tab) (ha : XO X a o) (gi : Gl X "isinstance") (mi : X.mg "isinstance" = none) (gD : Gl X D) (mD : X.mg D = none) (hT : bootBuiltins D = some (.type T)) (hn : D ≠ "__name__" := by decide) (hdb : (D == ("__debug__" : Str)) = false := by decide)
    (h1 : starEach [a, .Name D p2] X.env = (false, eval a X.env) :: starEach [.Name D p2] X.env := by rfl) (h2 : starEach [.Name D p2] X.env = (false, eval (.Name D p2) X.env) :: starEach [] X.env := by rfl) (h3 : (backTo pos (starEach [.Name D p2] X.env)).any (·.1) = false := by rfl) :
    XE X (.Call (.Name "isinstance" p) [a, .Name D p2] [] pos) (eFn (gIsC tab) [o]) := by
  refine pe_imp (pe_callB (c_isO (c := .ty T) (u := .type T) fun w r => r) gi mi (by decide +kernel) (pa_cons ha (pa_cons (pe_bltn gD mD hT (show RelV (.ty T) (.type T) from rfl) hn hdb) pa_nil h2) h1) (by decide) (by decide) h1 h3) fun σ H Q q => ?_
  have h := pM1 (tM_fn (fnIsC (c := .ty T) hs) q)
  exact oM_mono h fun x H1 h => ⟨x, rfl, h x rfl⟩
end

/-! ### C(e), C without an __init__ of its own -/
structure Err0 (K : PySem.W.Frag) (mg : Str → Option Value) (n : Str) : Prop where
  ex : ∃ (C : Addr) (bmB : List Value) (B newId initId : String), ObC K n C ∧ ExcBaseFacts B newId initId bmB ∧ PySem.W.excIn K C bmB newId = true ∧ mg n = some (.ref C) ∧ PySem.W.keepIn K (.ref C) = true
def gErr0 (n : Str) : List PyData → Option Sl
  | [d] => some (.fz (.dict (objL n [])))
  | _ => none
theorem x_err0 {X : Cx} {n : Str} {e : Expr} {o : Opd} {p pos : Pos} (C : Err0 X.K X.mg n) (hg : Gl X n) (he : XO X e o) (hdb : (n == ("__debug__" : Str)) = false := by decide) (hs : starEach [e] X.env = (false, eval e X.env) :: starEach [] X.env := by rfl) : XE X (.Call (.Name n p) [e] [] pos) (eFn (gErr0 n) [o]) := by
  obtain ⟨C, bmB, B, newId, initId, c, F, q, hm, kC⟩ := C.ex
  refine pe_imp (pe_exc1 F q hm kC hg he hs hdb) fun σ H Q q => ?_
  have h := pM1 (tM_fn (r := r1 fun x H1 Q => ∀ a, H1 a = none → Q (.ref a) (upd H1 a (ExO (.ref C) a))) (g := gErr0 n) (fun A vs ds H s Q hA hr e k x hx a hn => by
    subst hx
    unfold gErr0 at e
    split at e
    · cases e
      exact k _ _ (same_upd hn _) (.obj0 (fun z => hA a z hn) upd_same c)
    · cases e) q)
  exact oM_mono h fun x H1 h => h x rfl
end Vw

set_option Elab.async false
set_option linter.all false
set_option maxRecDepth 100000
set_option maxHeartbeats 2000000
/-! what the top has written of classes of errors -/
namespace Vw
open PySem L2 PyProof.Rows

/-- a class of errors with an __init__ of its own, as it stands behind the top -/
structure ErrK (K : PySem.W.Frag) (mg : Str → Option Value) (n qual : Str) (fs : List Str) (st : Stmt) : Prop where
  ex : ∃ (C fI : Addr) (fd : FuncData), ObC K n C ∧ OexC K C ∧ mg n = some (.ref C) ∧ PySem.W.findIn K (.ref C) "__init__" = some (some (.ref fI)) ∧ PySem.W.typeIn K (.ref fI) = some (.type "function") ∧ Binds K fd ("self" :: fs) [] ∧ (∀ f ∈ fs, PySem.W.findIn K (.ref C) f = some none) ∧
    Fun K "__init__" qual st fI fd
section
variable {K : PySem.W.Frag} {h : Heap} {mg : Str → Option Value}
theorem cls_some {C : Addr} (h : PySem.W.hasDictIn K C = true) : (PySem.W.clsIn K C).isSome = true := by
  obtain ⟨cd, e, _⟩ := PySem.W.any_some h
  rw [e]
  rfl
theorem obC_mk {n : Str} {C : Addr} (v : PySem.W.nsIn K mainGlobals n = some (some (.ref C))) (a : (PySem.W.clsIn K C).isSome = true) (b : PySem.W.findIn K (.ref C) "__getattribute__" = some (some (.builtin "BaseException.__getattribute__"))) (c : PySem.W.findIn K (.ref C) "__getattr__" = some none)
    (d : PySem.W.subIn K (.ref C) (.type "BaseException") = some true) (e : PySem.W.hasDictIn K C = true) (f : PySem.W.findIn K (.ref C) "__class__" = some (some (.builtin "object.__class__"))) (g : PySem.W.specialIn K (.builtin "object.__class__") "__get__" = some (some (.builtin "getset_descriptor.__get__")))
    (i : PySem.W.takesIn K (.builtin "object.__class__") = some true) (j : PySem.W.mroIn K C (.type "object") = some true)
    (n1 : PySem.W.kitOne K (.ref C) (.type "int") = some false) (n2 : PySem.W.kitOne K (.ref C) (.type "str") = some false) (n3 : PySem.W.kitOne K (.ref C) (.type "tuple") = some false) (n4 : PySem.W.kitOne K (.ref C) (.type "list") = some false) (n5 : PySem.W.kitOne K (.ref C) (.type "bool") = some false) (n6 : PySem.W.kitOne K (.ref C) (.type "dict") = some false) : ObC K n C :=
  ⟨v, a, b, c, d, e, f, g, i, j, fun x hx => by rcases hx with rfl | rfl | rfl | rfl | rfl | rfl <;> assumption⟩
theorem oexC_mk {C N : Addr} {nm q : Str} {bs bm : List Value} {sn : List Str} {sub : List Value} {ab : Bool} {col : Option Bool} {dd : Option Addr} {k0 k1 k2 k3 k5 : Option Value} (l : K.lookup C = some (excClassObj nm q C N bs bm true sn sub ab col dd k0 k1 k2 k3 k5 "ValueError.__new__")) (r : PySem.HandSPX.refsVE bm = true)
    (a : PySem.W.findIn K (.ref C) "__setattr__" = some (some (.builtin "object.__setattr__"))) (b : PySem.W.subIn K (.ref C) (.type "BaseException") = some true) (c : PySem.W.typeIn K (.ref C) = some (.type "type")) (d : PySem.W.keepIn K (.ref C) = true) : OexC K C :=
  ⟨⟨nm, q, N, bs, bm, sn, sub, ab, col, dd, k0, k1, k2, k3, k5, l, r⟩, a, b, c, d⟩
theorem errK_mk (KX : K.In h) (G : h.Ns mainGlobals mg) {n qual : Str} {fs : List Str} {st : Stmt} {C fI : Addr} (o : ObC K n C) (x : OexC K C) (i : PySem.W.findIn K (.ref C) "__init__" = some (some (.ref fI))) (t : PySem.W.typeIn K (.ref fI) = some (.type "function")) {oc : Value} {od an : Option Addr} {sl : Array (Option Value)} {kV dc pm cd ct : Value}
    (l : K.lookup fI = some ⟨oc, od, .func (PySem.W.fnOf "__init__" qual (defArgs st) (defBody st) (defScope st) .none kV dc pm an cd ct), sl⟩) (c : PySem.W.codeIn K cd qual = true) (k : PySem.W.keepIn K (.ref fI) = true)
    (hb : ∀ (kV doc pm : Value) (an : Option Addr) (cdv ct : Value) (us : List Value), us.length = ("self" :: fs : List Str).length → bindArgs (PySem.W.fnOf "__init__" qual (defArgs st) (defBody st) (defScope st) .none kV doc pm an cdv ct) ⟨us, []⟩ = pure (("self" :: fs : List Str).zip us))
    (nf : ∀ f ∈ fs, PySem.W.findIn K (.ref C) f = some none) : ErrK K mg n qual fs st :=
  have F := fun_mk (st := st) l c k
  ⟨C, fI, _, o, x, PySem.W.mg_of KX G o.ns, i, t, F.binds hb, nf, F⟩
theorem sub_nil {u : Value} : ∀ p ∈ ([] : List (Str × Bool)), ∀ C : Addr, PySem.W.nsIn K mainGlobals p.1 = some (some (.ref C)) → PySem.W.kitOne K (.ref C) u = some p.2 := fun p hp => absurd hp (by simp)
theorem sub_cons {u : Value} {n : Str} {b : Bool} {tab : List (Str × Bool)} {C0 : Addr} (v : PySem.W.nsIn K mainGlobals n = some (some (.ref C0))) (k : PySem.W.kitOne K (.ref C0) u = some b) (t : ∀ p ∈ tab, ∀ C : Addr, PySem.W.nsIn K mainGlobals p.1 = some (some (.ref C)) → PySem.W.kitOne K (.ref C) u = some p.2) :
    ∀ p ∈ (n, b) :: tab, ∀ C : Addr, PySem.W.nsIn K mainGlobals p.1 = some (some (.ref C)) → PySem.W.kitOne K (.ref C) u = some p.2 := fun p hp C hC => by
  rcases List.mem_cons.mp hp with rfl | hp
  · rw [v] at hC
    cases hC
    exact k
  · exact t p hp C hC
end
end Vw

set_option Elab.async false
set_option linter.all false
set_option maxRecDepth 100000
set_option maxHeartbeats 2000000
/-! printed by gen.py: the defs of the law as plain functions -/
namespace My
open PySem L2 PyProof.Rows Vw

def topS (i : Nat) : Stmt := PySem.Challenge.pw_forkyears_k03_errors_by_hand.main.body.getD i (.Pass ⟨0, 0, 0, 0⟩)

/-- what is asked of the text as the top has left it -/
structure Txt (K : PySem.W.Frag) (mg : Str → Option Value) : Prop where
  n_ValueError : mg "ValueError" = none
  n_enumerate : mg "enumerate" = none
  n_int : mg "int" = none
  n_isinstance : mg "isinstance" = none
  n_len : mg "len" = none
  n_list : mg "list" = none
  n_range : mg "range" = none
  n_repr : mg "repr" = none
  eb : BaseC K mg "ForkyearsError"
  e_InvalidSaying : ErrK K mg "InvalidSaying" "InvalidSaying.__init__" ["saying"] (inClass (topS 2) 0)
  e_InvalidIndex : ErrK K mg "InvalidIndex" "InvalidIndex.__init__" ["index"] (inClass (topS 3) 0)
  e_DeskFull : ErrK K mg "DeskFull" "DeskFull.__init__" ["limit"] (inClass (topS 4) 0)
  e_TooMany : ErrK K mg "TooMany" "TooMany.__init__" ["limit"] (inClass (topS 5) 0)
  e_Refuted : ErrK K mg "Refuted" "Refuted.__init__" ["refutation"] (inClass (topS 6) 0)
  e_InvalidText : Err0 K mg "InvalidText"
  s_ForkyearsError : SubC K mg "ForkyearsError" [("InvalidSaying", true), ("InvalidIndex", true), ("DeskFull", true), ("TooMany", true), ("Refuted", true), ("InvalidText", true)]
  s_ValueError : SubB K "ValueError" [("InvalidSaying", true), ("InvalidIndex", true), ("DeskFull", true), ("TooMany", true), ("Refuted", true), ("InvalidText", true)]
  s_InvalidSaying : SubC K mg "InvalidSaying" [("InvalidSaying", true), ("InvalidIndex", false), ("DeskFull", false), ("TooMany", false), ("Refuted", false), ("InvalidText", false)]
  s_InvalidIndex : SubC K mg "InvalidIndex" [("InvalidSaying", false), ("InvalidIndex", true), ("DeskFull", false), ("TooMany", false), ("Refuted", false), ("InvalidText", false)]
  s_DeskFull : SubC K mg "DeskFull" [("InvalidSaying", false), ("InvalidIndex", false), ("DeskFull", true), ("TooMany", false), ("Refuted", false), ("InvalidText", false)]
  s_Refuted : SubC K mg "Refuted" [("InvalidSaying", false), ("InvalidIndex", false), ("DeskFull", false), ("TooMany", false), ("Refuted", true), ("InvalidText", false)]
  s_TooMany : SubC K mg "TooMany" [("InvalidSaying", false), ("InvalidIndex", false), ("DeskFull", false), ("TooMany", true), ("Refuted", false), ("InvalidText", false)]
  s_InvalidText : SubC K mg "InvalidText" [("InvalidSaying", false), ("InvalidIndex", false), ("DeskFull", false), ("TooMany", false), ("Refuted", false), ("InvalidText", true)]

/-! ### InvalidSaying -/
abbrev S_InvalidSaying : Stmt := inClass (topS 2) 0
theorem sc_InvalidSaying : FnScope ["self", "saying"] ["self", "saying"] (defScope S_InvalidSaying) := ⟨rfl, rfl, rfl, by decide +kernel, rfl, by decide +kernel, by decide +kernel⟩
theorem err_InvalidSaying {P : Program} {w : World} {K : PySem.W.Frag} {mg : Str → Option Value} {base : Heap} (T : Txt K mg) : ErrC P w K mg base "InvalidSaying" ["saying"] := by
  obtain ⟨C, fI, fd, c, T1, hm, iC, tI, hb, nf, F⟩ := T.e_InvalidSaying.ex
  obtain ⟨B, mc, b1, b2, b3, b4⟩ := T.eb.ex
  exact ⟨C, fI, fd, c, T1, hm, iC, tI, hb, nf, F.ok sc_InvalidSaying spE_len (fun cdv A outer s H vs Q E hr h => ⟨_, pss_cons (ps_expr (pe_cinit rfl b1 b2 b3 b4 (pa_cons (pe_var (i := 0) rfl (by first | exact Or.inl rfl | exact Or.inr rfl) rfl rfl) (pa_cons pe_str pa_nil)))) (pss_one (ps_ost (pe_var (i := 0) rfl (by first | exact Or.inl rfl | exact Or.inr rfl) rfl rfl) (pe_var (i := 1) rfl (by first | exact Or.inl rfl | exact Or.inr rfl) rfl rfl))), run1 T1 (nf _ (by simp)) h⟩)⟩

/-! ### InvalidIndex -/
abbrev S_InvalidIndex : Stmt := inClass (topS 3) 0
theorem sc_InvalidIndex : FnScope ["self", "index"] ["self", "index"] (defScope S_InvalidIndex) := ⟨rfl, rfl, rfl, by decide +kernel, rfl, by decide +kernel, by decide +kernel⟩
theorem err_InvalidIndex {P : Program} {w : World} {K : PySem.W.Frag} {mg : Str → Option Value} {base : Heap} (T : Txt K mg) : ErrC P w K mg base "InvalidIndex" ["index"] := by
  obtain ⟨C, fI, fd, c, T1, hm, iC, tI, hb, nf, F⟩ := T.e_InvalidIndex.ex
  obtain ⟨B, mc, b1, b2, b3, b4⟩ := T.eb.ex
  exact ⟨C, fI, fd, c, T1, hm, iC, tI, hb, nf, F.ok sc_InvalidIndex spE_len (fun cdv A outer s H vs Q E hr h => ⟨_, pss_cons (ps_expr (pe_cinit rfl b1 b2 b3 b4 (pa_cons (pe_var (i := 0) rfl (by first | exact Or.inl rfl | exact Or.inr rfl) rfl rfl) (pa_cons pe_str pa_nil)))) (pss_one (ps_ost (pe_var (i := 0) rfl (by first | exact Or.inl rfl | exact Or.inr rfl) rfl rfl) (pe_var (i := 1) rfl (by first | exact Or.inl rfl | exact Or.inr rfl) rfl rfl))), run1 T1 (nf _ (by simp)) h⟩)⟩

/-! ### DeskFull -/
abbrev S_DeskFull : Stmt := inClass (topS 4) 0
theorem sc_DeskFull : FnScope ["self", "limit"] ["self", "limit"] (defScope S_DeskFull) := ⟨rfl, rfl, rfl, by decide +kernel, rfl, by decide +kernel, by decide +kernel⟩
theorem err_DeskFull {P : Program} {w : World} {K : PySem.W.Frag} {mg : Str → Option Value} {base : Heap} (T : Txt K mg) : ErrC P w K mg base "DeskFull" ["limit"] := by
  obtain ⟨C, fI, fd, c, T1, hm, iC, tI, hb, nf, F⟩ := T.e_DeskFull.ex
  obtain ⟨B, mc, b1, b2, b3, b4⟩ := T.eb.ex
  exact ⟨C, fI, fd, c, T1, hm, iC, tI, hb, nf, F.ok sc_DeskFull spE_len (fun cdv A outer s H vs Q E hr h => ⟨_, pss_cons (ps_expr (pe_cinit rfl b1 b2 b3 b4 (pa_cons (pe_var (i := 0) rfl (by first | exact Or.inl rfl | exact Or.inr rfl) rfl rfl) (pa_cons pe_str pa_nil)))) (pss_one (ps_ost (pe_var (i := 0) rfl (by first | exact Or.inl rfl | exact Or.inr rfl) rfl rfl) (pe_var (i := 1) rfl (by first | exact Or.inl rfl | exact Or.inr rfl) rfl rfl))), run1 T1 (nf _ (by simp)) h⟩)⟩

/-! ### TooMany -/
abbrev S_TooMany : Stmt := inClass (topS 5) 0
theorem sc_TooMany : FnScope ["self", "limit"] ["self", "limit"] (defScope S_TooMany) := ⟨rfl, rfl, rfl, by decide +kernel, rfl, by decide +kernel, by decide +kernel⟩
theorem err_TooMany {P : Program} {w : World} {K : PySem.W.Frag} {mg : Str → Option Value} {base : Heap} (T : Txt K mg) : ErrC P w K mg base "TooMany" ["limit"] := by
  obtain ⟨C, fI, fd, c, T1, hm, iC, tI, hb, nf, F⟩ := T.e_TooMany.ex
  obtain ⟨B, mc, b1, b2, b3, b4⟩ := T.eb.ex
  exact ⟨C, fI, fd, c, T1, hm, iC, tI, hb, nf, F.ok sc_TooMany spE_len (fun cdv A outer s H vs Q E hr h => ⟨_, pss_cons (ps_expr (pe_cinit rfl b1 b2 b3 b4 (pa_cons (pe_var (i := 0) rfl (by first | exact Or.inl rfl | exact Or.inr rfl) rfl rfl) (pa_cons pe_str pa_nil)))) (pss_one (ps_ost (pe_var (i := 0) rfl (by first | exact Or.inl rfl | exact Or.inr rfl) rfl rfl) (pe_var (i := 1) rfl (by first | exact Or.inl rfl | exact Or.inr rfl) rfl rfl))), run1 T1 (nf _ (by simp)) h⟩)⟩

/-! ### Refuted -/
abbrev S_Refuted : Stmt := inClass (topS 6) 0
theorem sc_Refuted : FnScope ["self", "refutation"] ["self", "refutation"] (defScope S_Refuted) := ⟨rfl, rfl, rfl, by decide +kernel, rfl, by decide +kernel, by decide +kernel⟩
theorem err_Refuted {P : Program} {w : World} {K : PySem.W.Frag} {mg : Str → Option Value} {base : Heap} (T : Txt K mg) : ErrC P w K mg base "Refuted" ["refutation"] := by
  obtain ⟨C, fI, fd, c, T1, hm, iC, tI, hb, nf, F⟩ := T.e_Refuted.ex
  obtain ⟨B, mc, b1, b2, b3, b4⟩ := T.eb.ex
  exact ⟨C, fI, fd, c, T1, hm, iC, tI, hb, nf, F.ok sc_Refuted spE_len (fun cdv A outer s H vs Q E hr h => ⟨_, pss_cons (ps_expr (pe_cinit rfl b1 b2 b3 b4 (pa_cons (pe_var (i := 0) rfl (by first | exact Or.inl rfl | exact Or.inr rfl) rfl rfl) (pa_cons pe_str pa_nil)))) (pss_one (ps_ost (pe_var (i := 0) rfl (by first | exact Or.inl rfl | exact Or.inr rfl) rfl rfl) (pe_var (i := 1) rfl (by first | exact Or.inl rfl | exact Or.inr rfl) rfl rfl))), run1 T1 (nf _ (by simp)) h⟩)⟩

/-! ### _law_open -/
abbrev S__law_open : Stmt := topS 9
abbrev N__law_open : List Str := ["script", "cells", "k", "cell"]
theorem sc__law_open : FnScope N__law_open ["script"] (defScope S__law_open) := ⟨rfl, rfl, rfl, by decide +kernel, rfl, by decide +kernel, by decide +kernel⟩

theorem ok__law_open {P : Program} {w : World} {K : PySem.W.Frag} {mg : Str → Option Value} {base : Heap} (T : Txt K mg) (D : At K mg "_law_open" S__law_open ["script"]) : CalS P w K mg base 1 "_law_open" 1 (spOpen K) :=
  open_of D sc__law_open rfl (fun f cdv A outer s H E =>
    pss_cons (ps_set (i := 1) sc__law_open.nd rfl (by first | exact Or.inl rfl | exact Or.inr rfl) (pe_callTy call_list_of rfl T.n_list (by decide +kernel) (pa_cons (pe_slice sl_list (pe_var rfl (by first | exact Or.inl rfl | exact Or.inr rfl) rfl rfl) po_none (po_some pe_int)) pa_nil rfl) (by decide) (by decide) rfl rfl))
    (pss_cons (ps_for PassesOwn.never rfl (pi_enum rfl T.n_enumerate (pa_cons (pe_slice sl_list (pe_var rfl (by first | exact Or.inl rfl | exact Or.inr rfl) rfl rfl) (po_some pe_int) (po_some pe_int)) pa_nil rfl) rfl) (g_tup rfl (gs_cons (g_name (i := 2) sc__law_open.nd rfl (by first | exact Or.inl rfl | exact Or.inr rfl)) (gs_cons (g_name (i := 3) sc__law_open.nd rfl (by first | exact Or.inl rfl | exact Or.inr rfl)) (gs_nil))) (gsCons_len (gsCons_len (gsNil_len)))) (ss_one (s_setIx 1 (x_add (x_val (x_item (x_bor 1) (x_val (x_mod (x_val (x_int' rfl T.n_int (xa_cons (x_bor 2) (xa_nil)))) (x_val (x_int)))))) (x_bor 3)) (x_val (x_mod (x_val (x_int' rfl T.n_int (xa_cons (x_bor 2) (xa_nil)))) (x_val (x_int)))))))
    (ss_one (s_ret (x_lst (xa_cons (x_val (x_name 1)) (xa_cons (x_val (x_int)) (xa_cons (x_val (x_int)) (xa_nil)))) rfl)))))

/-! ### _law_spread -/
abbrev S__law_spread : Stmt := topS 10
abbrev N__law_spread : List Str := ["cell", "at", "primes", "mixed", "one", "two", "three"]
theorem sc__law_spread : FnScope N__law_spread ["cell", "at"] (defScope S__law_spread) := ⟨rfl, rfl, rfl, by decide +kernel, rfl, by decide +kernel, by decide +kernel⟩

noncomputable def m__law_spread : SM := sSeq (sIf (bOf (eFn gGe [(.bor 0), (.val (eFn gPow [(.val (eC (.int 10))), (.val (eC (.int 18)))]))])) (sRet (eMove 0)) (sNil)) (sSeq (sSet 2 (eFn gLst' [(.val (eC (.int 2147483629))), (.val (eC (.int 2147483587))), (.val (eC (.int 2147483579))), (.val (eC (.int 2147483563))), (.val (eC (.int 2147483549))), (.val (eC (.int 2147483543))), (.val (eC (.int 2147483497))), (.val (eC (.int 2147483489)))])) (sSeq (sSet 2 (eFn gAdd [(.bor 2), (.val (eFn gLst' [(.val (eC (.int 2147483477))), (.val (eC (.int 2147483423))), (.val (eC (.int 2147483399))), (.val (eC (.int 2147483353))), (.val (eC (.int 2147483323)))]))])) (sSeq (sSet 3 (eFn gAdd [(.val (eFn gAdd [(.val (eFn gMul [(.val (eFn gMod [(.val (eFn gInt [(.bor 0)])), (.val (eC (.int 1000000007)))])), (.val (eFn gAdd [(.val (eFn gMul [(.val (eC (.int 2))), (.bor 1)])), (.val (eC (.int 69069)))]))])), (.val (eFn gMul [(.bor 1), (.val (eC (.int 40503)))]))])), (.val (eC (.int 977)))])) (sSeq (sSet 4 (eFn gMod [(.val (eFn gInt [(.val (eFn gPow [(.bor 3), (.val (eC (.int 3)))]))])), (.val (eFn gIx [(.bor 2), (.val (eFn gMod [(.val (eFn gInt [(.bor 1)])), (.val (eC (.int 13)))]))]))])) (sSeq (sSet 5 (eFn gMod [(.val (eFn gInt [(.val (eFn gPow [(.val (eFn gAdd [(.val (eFn gAdd [(.val (eFn gMul [(.bor 4), (.val (eFn gAdd [(.bor 1), (.val (eC (.int 3)))]))])), (.val (eFn gMod [(.val (eFn gInt [(.bor 0)])), (.val (eC (.int 65537)))]))])), (.val (eC (.int 5)))])), (.val (eC (.int 5)))]))])), (.val (eFn gIx [(.bor 2), (.val (eFn gMod [(.val (eFn gInt [(.val (eFn gAdd [(.bor 1), (.val (eC (.int 5)))]))])), (.val (eC (.int 13)))]))]))])) (sSeq (sSet 6 (eFn gMod [(.val (eFn gInt [(.val (eFn gPow [(.val (eFn gAdd [(.val (eFn gAdd [(.bor 5), (.val (eFn gMod [(.val (eFn gInt [(.bor 4)])), (.val (eC (.int 1009)))]))])), (.bor 1)])), (.val (eC (.int 3)))]))])), (.val (eFn gIx [(.bor 2), (.val (eFn gMod [(.val (eFn gInt [(.val (eFn gAdd [(.bor 1), (.val (eC (.int 7)))]))])), (.val (eC (.int 13)))]))]))])) (sRet (eFn gAdd [(.val (eFn gMul [(.val (eFn gAdd [(.val (eFn gMul [(.bor 4), (.val (eC (.int 2147483647)))])), (.bor 5)])), (.val (eC (.int 2147483647)))])), (.bor 6)]))))))))

noncomputable def f__law_spread : Fn := fnM 7 [false, false] m__law_spread

theorem ok__law_spread {P : Program} {w : World} {K : PySem.W.Frag} {mg : Str → Option Value} {base : Heap} (T : Txt K mg) (D : At K mg "_law_spread" S__law_spread ["cell", "at"])  : Cal P w K mg base 1 "_law_spread" [false, false] f__law_spread :=
  cal_of (N := N__law_spread) (k := 0) (n := 7) (ms := [false, false]) (m := m__law_spread) D sc__law_spread rfl rfl (by decide) (fun f cdv A outer s H E hr => 
    ss_cons (s_if (t_ge (x_bor 0) (x_val (x_pow (x_val (x_int)) (x_val (x_int))))) (ss_one (s_ret (x_move 0))) (ss_nil)) (ss_cons (s_set (i := 2) sc__law_spread.nd rfl (by first | exact Or.inl rfl | exact Or.inr rfl) (x_lst (xa_cons (x_val (x_int)) (xa_cons (x_val (x_int)) (xa_cons (x_val (x_int)) (xa_cons (x_val (x_int)) (xa_cons (x_val (x_int)) (xa_cons (x_val (x_int)) (xa_cons (x_val (x_int)) (xa_cons (x_val (x_int)) (xa_nil))))))))) rfl)) (ss_cons (s_set (i := 2) sc__law_spread.nd rfl (by first | exact Or.inl rfl | exact Or.inr rfl) (x_add (x_bor 2) (x_val (x_lst (xa_cons (x_val (x_int)) (xa_cons (x_val (x_int)) (xa_cons (x_val (x_int)) (xa_cons (x_val (x_int)) (xa_cons (x_val (x_int)) (xa_nil)))))) rfl)))) (ss_cons (s_set (i := 3) sc__law_spread.nd rfl (by first | exact Or.inl rfl | exact Or.inr rfl) (x_add (x_val (x_add (x_val (x_mul (x_val (x_mod (x_val (x_int' rfl T.n_int (xa_cons (x_bor 0) (xa_nil)))) (x_val (x_int)))) (x_val (x_add (x_val (x_mul (x_val (x_int)) (x_bor 1))) (x_val (x_int)))))) (x_val (x_mul (x_bor 1) (x_val (x_int)))))) (x_val (x_int)))) (ss_cons (s_set (i := 4) sc__law_spread.nd rfl (by first | exact Or.inl rfl | exact Or.inr rfl) (x_mod (x_val (x_int' rfl T.n_int (xa_cons (x_val (x_pow (x_bor 3) (x_val (x_int)))) (xa_nil)))) (x_val (x_item (x_bor 2) (x_val (x_mod (x_val (x_int' rfl T.n_int (xa_cons (x_bor 1) (xa_nil)))) (x_val (x_int)))))))) (ss_cons (s_set (i := 5) sc__law_spread.nd rfl (by first | exact Or.inl rfl | exact Or.inr rfl) (x_mod (x_val (x_int' rfl T.n_int (xa_cons (x_val (x_pow (x_val (x_add (x_val (x_add (x_val (x_mul (x_bor 4) (x_val (x_add (x_bor 1) (x_val (x_int)))))) (x_val (x_mod (x_val (x_int' rfl T.n_int (xa_cons (x_bor 0) (xa_nil)))) (x_val (x_int)))))) (x_val (x_int)))) (x_val (x_int)))) (xa_nil)))) (x_val (x_item (x_bor 2) (x_val (x_mod (x_val (x_int' rfl T.n_int (xa_cons (x_val (x_add (x_bor 1) (x_val (x_int)))) (xa_nil)))) (x_val (x_int)))))))) (ss_cons (s_set (i := 6) sc__law_spread.nd rfl (by first | exact Or.inl rfl | exact Or.inr rfl) (x_mod (x_val (x_int' rfl T.n_int (xa_cons (x_val (x_pow (x_val (x_add (x_val (x_add (x_bor 5) (x_val (x_mod (x_val (x_int' rfl T.n_int (xa_cons (x_bor 4) (xa_nil)))) (x_val (x_int)))))) (x_bor 1))) (x_val (x_int)))) (xa_nil)))) (x_val (x_item (x_bor 2) (x_val (x_mod (x_val (x_int' rfl T.n_int (xa_cons (x_val (x_add (x_bor 1) (x_val (x_int)))) (xa_nil)))) (x_val (x_int)))))))) (ss_one (s_ret (x_add (x_val (x_mul (x_val (x_add (x_val (x_mul (x_bor 4) (x_val (x_int)))) (x_bor 5))) (x_val (x_int)))) (x_bor 6)))))))))))

/-! ### _law_take -/
abbrev S__law_take : Stmt := topS 11
abbrev N__law_take : List Str := ["pen", "amount", "found", "at", "cell"]
theorem sc__law_take : FnScope N__law_take ["pen", "amount"] (defScope S__law_take) := ⟨rfl, rfl, rfl, by decide +kernel, rfl, by decide +kernel, by decide +kernel⟩

noncomputable def m__law_take : SM := sSeq (sIf (bOf (eFn gLt [(.val (eFn gIx [(.bor 0), (.val (eC (.int 2)))])), (.bor 1)])) (sSeq (sSet 3 (eFn gIx [(.bor 0), (.val (eC (.int 1)))])) (sSeq (sSet 4 (eC (.int 0))) (sSeq (sIf (bOf (eFn gLt [(.bor 3), (.val (eFn gLen [(.val (eFn gIx [(.bor 0), (.val (eC (.int 0)))]))]))])) (sSet 4 (eFn gIx [(.val (eFn gIx [(.bor 0), (.val (eC (.int 0)))])), (.bor 3)])) (sIf (bOf (eFn gGt [(.val (eFn gLen [(.val (eFn gIx [(.bor 0), (.val (eC (.int 0)))]))])), (.val (eC (.int 0)))])) (sSet 4 (eFn gMod [(.val (eFn gInt [(.val (eFn gIx [(.val (eFn gIx [(.bor 0), (.val (eC (.int 0)))])), (.val (eFn gMod [(.val (eFn gInt [(.val (eFn gAdd [(.val (eFn gMul [(.bor 3), (.val (eC (.int 5)))])), (.val (eC (.int 3)))]))])), (.val (eFn gLen [(.val (eFn gIx [(.bor 0), (.val (eC (.int 0)))]))]))]))]))])), (.val (eFn gAdd [(.val (eFn gPow [(.val (eC (.int 10))), (.val (eC (.int 17)))])), (.bor 3)]))])) (sNil))) (sSeq (sSetIx 0 (eFn gAdd [(.bor 3), (.val (eC (.int 1)))]) (.val (eC (.int 1)))) (sSetIx 0 (eCall f__law_spread [(.val (eName 4)), (.val (eName 3))]) (.val (eC (.int 2)))))))) (sNil)) (sSeq (sSet 2 (eFn gMod [(.val (eFn gInt [(.val (eFn gIx [(.bor 0), (.val (eC (.int 2)))]))])), (.bor 1)])) (sSeq (sSetIx 0 (eFn gDiv [(.val (eFn gIx [(.bor 0), (.val (eC (.int 2)))])), (.bor 1)]) (.val (eC (.int 2)))) (sRet (eMove 2))))

noncomputable def f__law_take : Fn := fnM 5 [true, false] m__law_take

theorem ok__law_take {P : Program} {w : World} {K : PySem.W.Frag} {mg : Str → Option Value} {base : Heap} (T : Txt K mg) (D : At K mg "_law_take" S__law_take ["pen", "amount"]) (C__law_spread : Cal P w K mg base 1 "_law_spread" [false, false] f__law_spread) : Cal P w K mg base 2 "_law_take" [true, false] f__law_take :=
  cal_of (N := N__law_take) (k := 1) (n := 5) (ms := [true, false]) (m := m__law_take) D sc__law_take rfl rfl (by decide) (fun f cdv A outer s H E hr => 
    ss_cons (s_if (t_lt (x_val (x_item (x_bor 0) (x_val (x_int)))) (x_bor 1)) (ss_cons (s_set (i := 3) sc__law_take.nd rfl (by first | exact Or.inl rfl | exact Or.inr rfl) (x_item (x_bor 0) (x_val (x_int)))) (ss_cons (s_set (i := 4) sc__law_take.nd rfl (by first | exact Or.inl rfl | exact Or.inr rfl) (x_int)) (ss_cons (s_if (t_lt (x_bor 3) (x_val (x_len rfl T.n_len (xa_cons (x_val (x_item (x_bor 0) (x_val (x_int)))) (xa_nil))))) (ss_one (s_set (i := 4) sc__law_take.nd rfl (by first | exact Or.inl rfl | exact Or.inr rfl) (x_item (x_val (x_item (x_bor 0) (x_val (x_int)))) (x_bor 3)))) (ss_one (s_if (t_gt (x_val (x_len rfl T.n_len (xa_cons (x_val (x_item (x_bor 0) (x_val (x_int)))) (xa_nil)))) (x_val (x_int))) (ss_one (s_set (i := 4) sc__law_take.nd rfl (by first | exact Or.inl rfl | exact Or.inr rfl) (x_mod (x_val (x_int' rfl T.n_int (xa_cons (x_val (x_item (x_val (x_item (x_bor 0) (x_val (x_int)))) (x_val (x_mod (x_val (x_int' rfl T.n_int (xa_cons (x_val (x_add (x_val (x_mul (x_bor 3) (x_val (x_int)))) (x_val (x_int)))) (xa_nil)))) (x_val (x_len rfl T.n_len (xa_cons (x_val (x_item (x_bor 0) (x_val (x_int)))) (xa_nil)))))))) (xa_nil)))) (x_val (x_add (x_val (x_pow (x_val (x_int)) (x_val (x_int)))) (x_bor 3)))))) (ss_nil)))) (ss_cons (s_setIx 0 (x_add (x_bor 3) (x_val (x_int))) (x_val (x_int))) (ss_one (s_setIx 0 (x_f C__law_spread hr (by first | decide | omega) rfl (xa_cons (x_val (x_name 4)) (xa_cons (x_val (x_name 3)) (xa_nil)))) (x_val (x_int)))))))) (ss_nil)) (ss_cons (s_set (i := 2) sc__law_take.nd rfl (by first | exact Or.inl rfl | exact Or.inr rfl) (x_mod (x_val (x_int' rfl T.n_int (xa_cons (x_val (x_item (x_bor 0) (x_val (x_int)))) (xa_nil)))) (x_bor 1))) (ss_cons (s_setIx 0 (x_div (x_val (x_item (x_bor 0) (x_val (x_int)))) (x_bor 1)) (x_val (x_int))) (ss_one (s_ret (x_move 2))))))

/-! ### _law_one_of -/
abbrev S__law_one_of : Stmt := topS 12
abbrev N__law_one_of : List Str := ["pen", "some"]
theorem sc__law_one_of : FnScope N__law_one_of ["pen", "some"] (defScope S__law_one_of) := ⟨rfl, rfl, rfl, by decide +kernel, rfl, by decide +kernel, by decide +kernel⟩

noncomputable def m__law_one_of : SM := sRet (eFn gIx [(.bor 1), (.val (eCall f__law_take [(.bor 0), (.val (eFn gLen [(.bor 1)]))]))])

noncomputable def f__law_one_of : Fn := fnM 2 [true, false] m__law_one_of

theorem ok__law_one_of {P : Program} {w : World} {K : PySem.W.Frag} {mg : Str → Option Value} {base : Heap} (T : Txt K mg) (D : At K mg "_law_one_of" S__law_one_of ["pen", "some"]) (C__law_take : Cal P w K mg base 2 "_law_take" [true, false] f__law_take) : Cal P w K mg base 3 "_law_one_of" [true, false] f__law_one_of :=
  cal_of (N := N__law_one_of) (k := 2) (n := 2) (ms := [true, false]) (m := m__law_one_of) D sc__law_one_of rfl rfl (by decide) (fun f cdv A outer s H E hr => 
    ss_one (s_ret (x_item (x_bor 1) (x_val (x_f C__law_take hr (by first | decide | omega) rfl (xa_cons (x_bor 0) (xa_cons (x_val (x_len rfl T.n_len (xa_cons (x_bor 1) (xa_nil)))) (xa_nil))))))))

/-! ### law -/
abbrev S_law : Stmt := topS 13
abbrev N_law : List Str := ["script", "pen", "turn", "some", "values", "lines", "seen", "errors", "told", "k", "error", "kinds", "index"]
theorem sc_law : FnScope N_law ["script"] (defScope S_law) := ⟨rfl, rfl, rfl, by decide +kernel, rfl, by decide +kernel, by decide +kernel⟩
noncomputable def m_law : SM := sSeq (sFor (jArgs fRng1 [(.val (eC (.int 4)))]) (gN 2) (sSeq (sSet 3 (eFn gLst' [(.val (eC .none)), (.val (eC (.bool true))), (.val (eC (.bool false))), (.val (eC (.int 0))), (.val (eC (.int 1))), (.val (eFn gNeg [(.val (eC (.int 1)))])), (.val (eFn gPow [(.val (eC (.int 10))), (.val (eC (.int 50)))])), (.val (eC (.str ""))), (.val (eC (.str "a"))), (.val (eFn gTup' [])), (.val (eFn gLst' [])), (.val (eDict0)), (.val (eFn gTup' [(.val (eC (.int 0)))])), (.val (eFn gLst' [(.val (eC (.int 0)))])), (.val (eFn gTup' [(.val (eFn gTup' [(.val (eC (.int 0))), (.val (eC (.int 1)))])), (.val (eC (.str "<"))), (.val (eC (.int 5)))]))])) (sSeq (sSet 4 (eFn gLst' [(.val (eCall f__law_one_of [(.bor 1), (.val (eName 3))])), (.val (eCall f__law_one_of [(.bor 1), (.val (eName 3))])), (.val (eCall f__law_one_of [(.bor 1), (.val (eFn gLst' [(.val (eC (.int 0))), (.val (eC (.int 1))), (.val (eC (.int 7))), (.val (eC (.int 8))), (.val (eC (.int 18))), (.val (eFn gPow [(.val (eC (.int 10))), (.val (eC (.int 20)))]))]))]))])) (sSeq (sSet 5 (eFn gLst' [(.val (eFn gTup' [(.val (eFn gTup' [(.val (eC (.int 0))), (.val (eC (.int 1)))])), (.val (eFn gTup' [(.val (eC (.str "under"))), (.val (eCall f__law_take [(.bor 1), (.val (eC (.int 9)))]))]))])), (.val (eFn gTup' [(.val (eFn gAdd [(.val (eCall f__law_take [(.bor 1), (.val (eC (.int 9)))])), (.val (eC (.int 1)))])), (.val (eFn gTup' [(.val (eC (.str "year"))), (.val (eC (.int 20)))]))]))])) (sSeq (sSet 4 (eFn gAdd [(.bor 4), (.val (eFn gLst' [(.val (eSl (.bor 5) none (some (eFn gAdd [(.val (eC (.int 1))), (.val (eCall f__law_take [(.bor 1), (.val (eC (.int 2)))]))])))), (.val (eCall f__law_one_of [(.bor 1), (.val (eFn gLst' [(.val (eC (.int 0))), (.val (eC (.int 1))), (.val (eC (.int 7))), (.val (eC (.int 8))), (.val (eC (.int 20))), (.val (eFn gPow [(.val (eC (.int 10))), (.val (eC (.int 20)))]))]))]))]))])) (sSeq (sSet 6 (eFn gRepr [(.bor 4)])) (sSeq (sSet 7 (eFn gLst' [(.val (eFn (gErr "InvalidSaying" ["saying"]) [(.val (eFn gIxA [(.bor 4), (.val (eC (.int 0)))]))])), (.val (eFn (gErr "InvalidIndex" ["index"]) [(.val (eFn gIxA [(.bor 4), (.val (eC (.int 1)))]))])), (.val (eFn (gErr "DeskFull" ["limit"]) [(.val (eFn gIxA [(.bor 4), (.val (eC (.int 2)))]))])), (.val (eFn (gErr "Refuted" ["refutation"]) [(.val (eFn gIxA [(.bor 4), (.val (eC (.int 3)))]))]))])) (sSeq (sSet 7 (eFn gAdd [(.bor 7), (.val (eFn gLst' [(.val (eFn (gErr "TooMany" ["limit"]) [(.val (eFn gIxA [(.bor 4), (.val (eC (.int 4)))]))])), (.val (eFn (gErr0 "InvalidText") [(.val (eC (.str "a text")))]))]))])) (sSeq (sFor (jArgs fEnumT [(.val (eName 7))]) (gT (gsCons (gN 9) (gsCons (gN 10) (gsNil)))) (sSeq (sIf (bOr (bNot (bOf (eFn (gIsC [("InvalidSaying", true), ("InvalidIndex", true), ("DeskFull", true), ("TooMany", true), ("Refuted", true), ("InvalidText", true)]) [(.bor 10)]))) (bNot (bOf (eFn (gIsC [("InvalidSaying", true), ("InvalidIndex", true), ("DeskFull", true), ("TooMany", true), ("Refuted", true), ("InvalidText", true)]) [(.bor 10)])))) (sRet (eC (.bool false))) (sNil)) (sSeq (sSet 11 (eFn gLst' [(.val (eFn (gIsC [("InvalidSaying", true), ("InvalidIndex", false), ("DeskFull", false), ("TooMany", false), ("Refuted", false), ("InvalidText", false)]) [(.bor 10)])), (.val (eFn (gIsC [("InvalidSaying", false), ("InvalidIndex", true), ("DeskFull", false), ("TooMany", false), ("Refuted", false), ("InvalidText", false)]) [(.bor 10)])), (.val (eFn (gIsC [("InvalidSaying", false), ("InvalidIndex", false), ("DeskFull", true), ("TooMany", false), ("Refuted", false), ("InvalidText", false)]) [(.bor 10)]))])) (sSeq (sSet 11 (eFn gAdd [(.bor 11), (.val (eFn gLst' [(.val (eFn (gIsC [("InvalidSaying", false), ("InvalidIndex", false), ("DeskFull", false), ("TooMany", false), ("Refuted", true), ("InvalidText", false)]) [(.bor 10)])), (.val (eFn (gIsC [("InvalidSaying", false), ("InvalidIndex", false), ("DeskFull", false), ("TooMany", true), ("Refuted", false), ("InvalidText", false)]) [(.bor 10)])), (.val (eFn (gIsC [("InvalidSaying", false), ("InvalidIndex", false), ("DeskFull", false), ("TooMany", false), ("Refuted", false), ("InvalidText", true)]) [(.bor 10)]))]))])) (sIf (bOf (eFn gNe [(.bor 11), (.val (eLc (jArgs fRng1 [(.val (eC (.int 6)))]) (gN 12) (bYes) (eFn gEq [(.bor 12), (.bor 9)]) [12]))])) (sRet (eC (.bool false))) (sNil)))))) (sSeq (sSet 8 (eFn gLst' [(.val (eFn (gFld "saying") [(.val (eFn gIxA [(.bor 7), (.val (eC (.int 0)))]))])), (.val (eFn (gFld "index") [(.val (eFn gIxA [(.bor 7), (.val (eC (.int 1)))]))])), (.val (eFn (gFld "limit") [(.val (eFn gIxA [(.bor 7), (.val (eC (.int 2)))]))])), (.val (eFn (gFld "refutation") [(.val (eFn gIxA [(.bor 7), (.val (eC (.int 3)))]))])), (.val (eFn (gFld "limit") [(.val (eFn gIxA [(.bor 7), (.val (eC (.int 4)))]))]))])) (sIf (bOr (bOf (eFn gNe [(.val (eFn gRepr [(.bor 8)])), (.bor 6)])) (bOf (eFn gNe [(.val (eFn gRepr [(.bor 4)])), (.bor 6)]))) (sRet (eC (.bool false))) (sNil)))))))))))) (sRet (eC (.bool true)))

theorem ok_law {P : Program} {w : World} {K : PySem.W.Frag} {mg : Str → Option Value} {fa : Addr} (T : Txt K mg) (hfa : mg "law" = some (.ref fa)) (D : At K mg "law" S_law ["script"]) (D__law_spread : At K mg "_law_spread" S__law_spread ["cell", "at"]) (D__law_take : At K mg "_law_take" S__law_take ["pen", "amount"]) (D__law_one_of : At K mg "_law_one_of" S__law_one_of ["pen", "some"]) (D__law_open : At K mg "_law_open" S__law_open ["script"])
    (hm : ∀ cs : List Int, cs.length ≤ 12 → ∃ ρ', m_law ((List.replicate 13 .un).set 1 (.ow (penD cs 0 0))) = some (.rt (.fz (.bool true)) ρ')) :
    ∃ fd : FuncData, (∀ (s : Shared) (u : Value), BindsTo s fd ⟨[u], []⟩ [("script", u)]) ∧ ∀ base : Heap, K.In base → base.Ns mainGlobals mg → FnG P w K mg base 4 fa fd ["script"] (spLaw K) :=
  law_of (N := N_law) (k := 3) (i := 1) (m := m_law) D sc_law hfa (by decide) (by decide) hm (fun f fd F s u => by obtain ⟨oc, od, kV, doc, pm, an, cdv, ct, osl, rfl, lk, hcd⟩ := F.ex; exact .of_eq rfl) (fun base f cdv A outer s H E hk hn hgd hr => by
    have C__law_spread := ok__law_spread (P := P) (w := w) (base := base) T D__law_spread 
    have C__law_take := ok__law_take (P := P) (w := w) (base := base) T D__law_take C__law_spread
    have C__law_one_of := ok__law_one_of (P := P) (w := w) (base := base) T D__law_one_of C__law_take
    have C__law_open := ok__law_open (P := P) (w := w) (base := base) T D__law_open 
    exact pss_cons (p_pen (i := 1) C__law_open hr (by decide) sc_law.nd rfl (by first | exact Or.inl rfl | exact Or.inr rfl) rfl (by first | exact Or.inl rfl | exact Or.inr rfl) rfl rfl rfl)
      (ss_cons (s_for PassesOwn.never rfl (i_range1 rfl T.n_range (xa_cons (x_val (x_int)) (xa_nil))) (g_name (i := 2) sc_law.nd rfl (by first | exact Or.inl rfl | exact Or.inr rfl)) (ss_cons (s_set (i := 3) sc_law.nd rfl (by first | exact Or.inl rfl | exact Or.inr rfl) (x_lst (xa_cons (x_val (x_non)) (xa_cons (x_val (x_bl)) (xa_cons (x_val (x_bl)) (xa_cons (x_val (x_int)) (xa_cons (x_val (x_int)) (xa_cons (x_val (x_neg (x_val (x_int)))) (xa_cons (x_val (x_pow (x_val (x_int)) (x_val (x_int)))) (xa_cons (x_val (x_str)) (xa_cons (x_val (x_str)) (xa_cons (x_val (x_tup (xa_nil) rfl)) (xa_cons (x_val (x_lst (xa_nil) rfl)) (xa_cons (x_val (x_dict0)) (xa_cons (x_val (x_tup (xa_cons (x_val (x_int)) (xa_nil)) rfl)) (xa_cons (x_val (x_lst (xa_cons (x_val (x_int)) (xa_nil)) rfl)) (xa_cons (x_val (x_tup (xa_cons (x_val (x_tup (xa_cons (x_val (x_int)) (xa_cons (x_val (x_int)) (xa_nil))) rfl)) (xa_cons (x_val (x_str)) (xa_cons (x_val (x_int)) (xa_nil)))) rfl)) (xa_nil)))))))))))))))) rfl)) (ss_cons (s_set (i := 4) sc_law.nd rfl (by first | exact Or.inl rfl | exact Or.inr rfl) (x_lst (xa_cons (x_val (x_f C__law_one_of hr (by first | decide | omega) rfl (xa_cons (x_bor 1) (xa_cons (x_val (x_name 3)) (xa_nil))))) (xa_cons (x_val (x_f C__law_one_of hr (by first | decide | omega) rfl (xa_cons (x_bor 1) (xa_cons (x_val (x_name 3)) (xa_nil))))) (xa_cons (x_val (x_f C__law_one_of hr (by first | decide | omega) rfl (xa_cons (x_bor 1) (xa_cons (x_val (x_lst (xa_cons (x_val (x_int)) (xa_cons (x_val (x_int)) (xa_cons (x_val (x_int)) (xa_cons (x_val (x_int)) (xa_cons (x_val (x_int)) (xa_cons (x_val (x_pow (x_val (x_int)) (x_val (x_int)))) (xa_nil))))))) rfl)) (xa_nil))))) (xa_nil)))) rfl)) (ss_cons (s_set (i := 5) sc_law.nd rfl (by first | exact Or.inl rfl | exact Or.inr rfl) (x_lst (xa_cons (x_val (x_tup (xa_cons (x_val (x_tup (xa_cons (x_val (x_int)) (xa_cons (x_val (x_int)) (xa_nil))) rfl)) (xa_cons (x_val (x_tup (xa_cons (x_val (x_str)) (xa_cons (x_val (x_f C__law_take hr (by first | decide | omega) rfl (xa_cons (x_bor 1) (xa_cons (x_val (x_int)) (xa_nil))))) (xa_nil))) rfl)) (xa_nil))) rfl)) (xa_cons (x_val (x_tup (xa_cons (x_val (x_add (x_val (x_f C__law_take hr (by first | decide | omega) rfl (xa_cons (x_bor 1) (xa_cons (x_val (x_int)) (xa_nil))))) (x_val (x_int)))) (xa_cons (x_val (x_tup (xa_cons (x_val (x_str)) (xa_cons (x_val (x_int)) (xa_nil))) rfl)) (xa_nil))) rfl)) (xa_nil))) rfl)) (ss_cons (s_set (i := 4) sc_law.nd rfl (by first | exact Or.inl rfl | exact Or.inr rfl) (x_add (x_bor 4) (x_val (x_lst (xa_cons (x_val (x_slice (x_bor 5) o_none (o_some (x_add (x_val (x_int)) (x_val (x_f C__law_take hr (by first | decide | omega) rfl (xa_cons (x_bor 1) (xa_cons (x_val (x_int)) (xa_nil))))))))) (xa_cons (x_val (x_f C__law_one_of hr (by first | decide | omega) rfl (xa_cons (x_bor 1) (xa_cons (x_val (x_lst (xa_cons (x_val (x_int)) (xa_cons (x_val (x_int)) (xa_cons (x_val (x_int)) (xa_cons (x_val (x_int)) (xa_cons (x_val (x_int)) (xa_cons (x_val (x_pow (x_val (x_int)) (x_val (x_int)))) (xa_nil))))))) rfl)) (xa_nil))))) (xa_nil))) rfl)))) (ss_cons (s_set (i := 6) sc_law.nd rfl (by first | exact Or.inl rfl | exact Or.inr rfl) (x_repr hgd hr rfl T.n_repr (xa_cons (x_bor 4) (xa_nil)))) (ss_cons (s_set (i := 7) sc_law.nd rfl (by first | exact Or.inl rfl | exact Or.inr rfl) (x_lst (xa_cons (x_val (x_err (err_InvalidSaying T) hr (by first | decide | omega) rfl (xa_cons (x_val (x_itemA hr (x_bor 4) (x_val (x_int)))) (xa_nil)) rfl)) (xa_cons (x_val (x_err (err_InvalidIndex T) hr (by first | decide | omega) rfl (xa_cons (x_val (x_itemA hr (x_bor 4) (x_val (x_int)))) (xa_nil)) rfl)) (xa_cons (x_val (x_err (err_DeskFull T) hr (by first | decide | omega) rfl (xa_cons (x_val (x_itemA hr (x_bor 4) (x_val (x_int)))) (xa_nil)) rfl)) (xa_cons (x_val (x_err (err_Refuted T) hr (by first | decide | omega) rfl (xa_cons (x_val (x_itemA hr (x_bor 4) (x_val (x_int)))) (xa_nil)) rfl)) (xa_nil))))) rfl)) (ss_cons (s_set (i := 7) sc_law.nd rfl (by first | exact Or.inl rfl | exact Or.inr rfl) (x_add (x_bor 7) (x_val (x_lst (xa_cons (x_val (x_err (err_TooMany T) hr (by first | decide | omega) rfl (xa_cons (x_val (x_itemA hr (x_bor 4) (x_val (x_int)))) (xa_nil)) rfl)) (xa_cons (x_val (x_err0 T.e_InvalidText rfl (x_val (x_str)))) (xa_nil))) rfl)))) (ss_cons (s_for PassesOwn.never rfl (i_enumT rfl T.n_enumerate (xa_cons (x_val (x_name 7)) (xa_nil)) rfl) (g_tup rfl (gs_cons (g_name (i := 9) sc_law.nd rfl (by first | exact Or.inl rfl | exact Or.inr rfl)) (gs_cons (g_name (i := 10) sc_law.nd rfl (by first | exact Or.inl rfl | exact Or.inr rfl)) (gs_nil))) (gsCons_len (gsCons_len (gsNil_len)))) (ss_cons (s_if (t_w (w_or (t_not (t_val (x_isC T.s_ForkyearsError (x_bor 10) rfl T.n_isinstance rfl))) (w_or1 (t_not (t_val (x_isT T.s_ValueError (x_bor 10) rfl T.n_isinstance rfl T.n_ValueError (by decide +kernel))))))) (ss_one (s_ret (x_bl))) (ss_nil)) (ss_cons (s_set (i := 11) sc_law.nd rfl (by first | exact Or.inl rfl | exact Or.inr rfl) (x_lst (xa_cons (x_val (x_isC T.s_InvalidSaying (x_bor 10) rfl T.n_isinstance rfl)) (xa_cons (x_val (x_isC T.s_InvalidIndex (x_bor 10) rfl T.n_isinstance rfl)) (xa_cons (x_val (x_isC T.s_DeskFull (x_bor 10) rfl T.n_isinstance rfl)) (xa_nil)))) rfl)) (ss_cons (s_set (i := 11) sc_law.nd rfl (by first | exact Or.inl rfl | exact Or.inr rfl) (x_add (x_bor 11) (x_val (x_lst (xa_cons (x_val (x_isC T.s_Refuted (x_bor 10) rfl T.n_isinstance rfl)) (xa_cons (x_val (x_isC T.s_TooMany (x_bor 10) rfl T.n_isinstance rfl)) (xa_cons (x_val (x_isC T.s_InvalidText (x_bor 10) rfl T.n_isinstance rfl)) (xa_nil)))) rfl)))) (ss_one (s_if (t_ne hr (x_bor 11) (x_val (x_lc (own := [("index", 12)]) rfl sc_law.nd (i_range1 rfl T.n_range (xa_cons (x_val (x_int)) (xa_nil))) (blkOk_by (N := N_law) (sc := defScope S_law) (by decide +kernel)) (ts := [12]) (by decide) (fun _ _ _ _ _ => g_name (i := 12) sc_law.nd rfl (by first | exact Or.inl rfl | exact Or.inr rfl)) (fun _ _ _ _ _ => ts_nil) (fun _ _ _ _ _ => x_eq hr (x_bor 12) (x_bor 9))))) (ss_one (s_ret (x_bl))) (ss_nil))))))) (ss_cons (s_set (i := 8) sc_law.nd rfl (by first | exact Or.inl rfl | exact Or.inr rfl) (x_lst (xa_cons (x_val (x_fldO (x_val (x_itemA hr (x_bor 7) (x_val (x_int)))))) (xa_cons (x_val (x_fldO (x_val (x_itemA hr (x_bor 7) (x_val (x_int)))))) (xa_cons (x_val (x_fldO (x_val (x_itemA hr (x_bor 7) (x_val (x_int)))))) (xa_cons (x_val (x_fldO (x_val (x_itemA hr (x_bor 7) (x_val (x_int)))))) (xa_cons (x_val (x_fldO (x_val (x_itemA hr (x_bor 7) (x_val (x_int)))))) (xa_nil)))))) rfl)) (ss_one (s_if (t_w (w_or (t_ne hr (x_val (x_repr hgd hr rfl T.n_repr (xa_cons (x_bor 8) (xa_nil)))) (x_bor 6)) (w_or1 (t_ne hr (x_val (x_repr hgd hr rfl T.n_repr (xa_cons (x_bor 4) (xa_nil)))) (x_bor 6))))) (ss_one (s_ret (x_bl))) (ss_nil))))))))))))) (ss_one (s_ret (x_bl)))))

/-! ### what the top has written -/
theorem fin {l : PySem.W.OpenLaw} {w : World} {K : PySem.W.Frag} {h : Heap} {mg : Str → Option Value} {fa : Addr} (KX : K.In h) (G : h.Ns mainGlobals mg) (hfa : mg "law" = some (.ref fa))
    (hm : ∀ cs : List Int, cs.length ≤ 12 → ∃ ρ', m_law ((List.replicate 13 .un).set 1 (.ow (penD cs 0 0))) = some (.rt (.fz (.bool true)) ρ'))
    {f0 : Addr} {od0 an0 : Option Addr} {sl0 : Array (Option Value)} {oc0 kV0 dc0 pm0 cd0 ct0 : Value}
    (a0 : PySem.W.nsIn K mainGlobals "_law_spread" = some (some (.ref f0))) (l0 : K.lookup f0 = some ⟨oc0, od0, .func (PySem.W.fnOf "_law_spread" "_law_spread" (defArgs S__law_spread) (defBody S__law_spread) (defScope S__law_spread) .none kV0 dc0 pm0 an0 cd0 ct0), sl0⟩) (c0 : PySem.W.codeIn K cd0 "_law_spread" = true) (k0 : PySem.W.keepIn K (.ref f0) = true)
    {f1 : Addr} {od1 an1 : Option Addr} {sl1 : Array (Option Value)} {oc1 kV1 dc1 pm1 cd1 ct1 : Value}
    (a1 : PySem.W.nsIn K mainGlobals "_law_take" = some (some (.ref f1))) (l1 : K.lookup f1 = some ⟨oc1, od1, .func (PySem.W.fnOf "_law_take" "_law_take" (defArgs S__law_take) (defBody S__law_take) (defScope S__law_take) .none kV1 dc1 pm1 an1 cd1 ct1), sl1⟩) (c1 : PySem.W.codeIn K cd1 "_law_take" = true) (k1 : PySem.W.keepIn K (.ref f1) = true)
    {f2 : Addr} {od2 an2 : Option Addr} {sl2 : Array (Option Value)} {oc2 kV2 dc2 pm2 cd2 ct2 : Value}
    (a2 : PySem.W.nsIn K mainGlobals "_law_one_of" = some (some (.ref f2))) (l2 : K.lookup f2 = some ⟨oc2, od2, .func (PySem.W.fnOf "_law_one_of" "_law_one_of" (defArgs S__law_one_of) (defBody S__law_one_of) (defScope S__law_one_of) .none kV2 dc2 pm2 an2 cd2 ct2), sl2⟩) (c2 : PySem.W.codeIn K cd2 "_law_one_of" = true) (k2 : PySem.W.keepIn K (.ref f2) = true)
    {f3 : Addr} {od3 an3 : Option Addr} {sl3 : Array (Option Value)} {oc3 kV3 dc3 pm3 cd3 ct3 : Value}
    (a3 : PySem.W.nsIn K mainGlobals "_law_open" = some (some (.ref f3))) (l3 : K.lookup f3 = some ⟨oc3, od3, .func (PySem.W.fnOf "_law_open" "_law_open" (defArgs S__law_open) (defBody S__law_open) (defScope S__law_open) .none kV3 dc3 pm3 an3 cd3 ct3), sl3⟩) (c3 : PySem.W.codeIn K cd3 "_law_open" = true) (k3 : PySem.W.keepIn K (.ref f3) = true)
    {f4 : Addr} {od4 an4 : Option Addr} {sl4 : Array (Option Value)} {oc4 kV4 dc4 pm4 cd4 ct4 : Value}
    (a4 : PySem.W.nsIn K mainGlobals "law" = some (some (.ref f4))) (l4 : K.lookup f4 = some ⟨oc4, od4, .func (PySem.W.fnOf "law" "law" (defArgs S_law) (defBody S_law) (defScope S_law) .none kV4 dc4 pm4 an4 cd4 ct4), sl4⟩) (c4 : PySem.W.codeIn K cd4 "law" = true) (k4 : PySem.W.keepIn K (.ref f4) = true)
    (z0 : PySem.W.nsIn K mainGlobals "ValueError" = some none)
    (z1 : PySem.W.nsIn K mainGlobals "enumerate" = some none)
    (z2 : PySem.W.nsIn K mainGlobals "int" = some none)
    (z3 : PySem.W.nsIn K mainGlobals "isinstance" = some none)
    (z4 : PySem.W.nsIn K mainGlobals "len" = some none)
    (z5 : PySem.W.nsIn K mainGlobals "list" = some none)
    (z6 : PySem.W.nsIn K mainGlobals "range" = some none)
    (z7 : PySem.W.nsIn K mainGlobals "repr" = some none)
    {xC_InvalidSaying : Addr} (xv_InvalidSaying : PySem.W.nsIn K mainGlobals "InvalidSaying" = some (some (.ref xC_InvalidSaying)))
    {xC_InvalidIndex : Addr} (xv_InvalidIndex : PySem.W.nsIn K mainGlobals "InvalidIndex" = some (some (.ref xC_InvalidIndex)))
    {xC_DeskFull : Addr} (xv_DeskFull : PySem.W.nsIn K mainGlobals "DeskFull" = some (some (.ref xC_DeskFull)))
    {xC_TooMany : Addr} (xv_TooMany : PySem.W.nsIn K mainGlobals "TooMany" = some (some (.ref xC_TooMany)))
    {xC_Refuted : Addr} (xv_Refuted : PySem.W.nsIn K mainGlobals "Refuted" = some (some (.ref xC_Refuted)))
    {xC_InvalidText : Addr} (xv_InvalidText : PySem.W.nsIn K mainGlobals "InvalidText" = some (some (.ref xC_InvalidText)))
    {xC_ForkyearsError : Addr} (xv_ForkyearsError : PySem.W.nsIn K mainGlobals "ForkyearsError" = some (some (.ref xC_ForkyearsError)))
    (xb1 : PySem.W.specialIn K (.ref xC_ForkyearsError) "__getattribute__" = some (some (.builtin "type.__getattribute__"))) (xb2 : PySem.W.readsIn K xC_ForkyearsError (.type "type") = true) (xb3 : PySem.W.findCls K (.ref xC_ForkyearsError) (.type "type") "__init__" = some (.val (.builtin "ValueError.__init__")))
    (xo2_InvalidSaying : PySem.W.findIn K (.ref xC_InvalidSaying) "__getattribute__" = some (some (.builtin "BaseException.__getattribute__"))) (xo3_InvalidSaying : PySem.W.findIn K (.ref xC_InvalidSaying) "__getattr__" = some none) (xo4_InvalidSaying : PySem.W.subIn K (.ref xC_InvalidSaying) (.type "BaseException") = some true) (xo5_InvalidSaying : PySem.W.hasDictIn K xC_InvalidSaying = true) (xo6_InvalidSaying : PySem.W.findIn K (.ref xC_InvalidSaying) "__class__" = some (some (.builtin "object.__class__"))) (xo9_InvalidSaying : PySem.W.mroIn K xC_InvalidSaying (.type "object") = some true) (xn0_InvalidSaying : PySem.W.kitOne K (.ref xC_InvalidSaying) (.type "int") = some false) (xn1_InvalidSaying : PySem.W.kitOne K (.ref xC_InvalidSaying) (.type "str") = some false) (xn2_InvalidSaying : PySem.W.kitOne K (.ref xC_InvalidSaying) (.type "tuple") = some false) (xn3_InvalidSaying : PySem.W.kitOne K (.ref xC_InvalidSaying) (.type "list") = some false) (xn4_InvalidSaying : PySem.W.kitOne K (.ref xC_InvalidSaying) (.type "bool") = some false) (xn5_InvalidSaying : PySem.W.kitOne K (.ref xC_InvalidSaying) (.type "dict") = some false)
    (xo7 : PySem.W.specialIn K (.builtin "object.__class__") "__get__" = some (some (.builtin "getset_descriptor.__get__"))) (xo8 : PySem.W.takesIn K (.builtin "object.__class__") = some true)
    {ynm_InvalidSaying yq_InvalidSaying : Str} {yN_InvalidSaying : Addr} {ybs_InvalidSaying ybm_InvalidSaying : List Value} {ysn_InvalidSaying : List Str} {ysub_InvalidSaying : List Value} {yab_InvalidSaying : Bool} {ycol_InvalidSaying : Option Bool} {ydd_InvalidSaying : Option Addr} {yk0_InvalidSaying yk1_InvalidSaying yk2_InvalidSaying yk3_InvalidSaying yk5_InvalidSaying : Option Value}
    (xl_InvalidSaying : K.lookup xC_InvalidSaying = some (excClassObj ynm_InvalidSaying yq_InvalidSaying xC_InvalidSaying yN_InvalidSaying ybs_InvalidSaying ybm_InvalidSaying true ysn_InvalidSaying ysub_InvalidSaying yab_InvalidSaying ycol_InvalidSaying ydd_InvalidSaying yk0_InvalidSaying yk1_InvalidSaying yk2_InvalidSaying yk3_InvalidSaying yk5_InvalidSaying "ValueError.__new__")) (xr_InvalidSaying : PySem.HandSPX.refsVE ybm_InvalidSaying = true)
    (xs_InvalidSaying : PySem.W.findIn K (.ref xC_InvalidSaying) "__setattr__" = some (some (.builtin "object.__setattr__"))) (xt_InvalidSaying : PySem.W.typeIn K (.ref xC_InvalidSaying) = some (.type "type")) (xk_InvalidSaying : PySem.W.keepIn K (.ref xC_InvalidSaying) = true)
    {xI_InvalidSaying : Addr} (xi_InvalidSaying : PySem.W.findIn K (.ref xC_InvalidSaying) "__init__" = some (some (.ref xI_InvalidSaying))) (xf_InvalidSaying : PySem.W.typeIn K (.ref xI_InvalidSaying) = some (.type "function"))
    {zod_InvalidSaying zan_InvalidSaying : Option Addr} {zsl_InvalidSaying : Array (Option Value)} {zoc_InvalidSaying zkV_InvalidSaying zdc_InvalidSaying zpm_InvalidSaying zcd_InvalidSaying zct_InvalidSaying : Value} (xfl_InvalidSaying : K.lookup xI_InvalidSaying = some ⟨zoc_InvalidSaying, zod_InvalidSaying, .func (PySem.W.fnOf "__init__" "InvalidSaying.__init__" (defArgs (inClass (topS 2) 0)) (defBody (inClass (topS 2) 0)) (defScope (inClass (topS 2) 0)) .none zkV_InvalidSaying zdc_InvalidSaying zpm_InvalidSaying zan_InvalidSaying zcd_InvalidSaying zct_InvalidSaying), zsl_InvalidSaying⟩) (xfc_InvalidSaying : PySem.W.codeIn K zcd_InvalidSaying "InvalidSaying.__init__" = true) (xfk_InvalidSaying : PySem.W.keepIn K (.ref xI_InvalidSaying) = true)
    (xg0_InvalidSaying : PySem.W.findIn K (.ref xC_InvalidSaying) "saying" = some none)
    (xo2_InvalidIndex : PySem.W.findIn K (.ref xC_InvalidIndex) "__getattribute__" = some (some (.builtin "BaseException.__getattribute__"))) (xo3_InvalidIndex : PySem.W.findIn K (.ref xC_InvalidIndex) "__getattr__" = some none) (xo4_InvalidIndex : PySem.W.subIn K (.ref xC_InvalidIndex) (.type "BaseException") = some true) (xo5_InvalidIndex : PySem.W.hasDictIn K xC_InvalidIndex = true) (xo6_InvalidIndex : PySem.W.findIn K (.ref xC_InvalidIndex) "__class__" = some (some (.builtin "object.__class__"))) (xo9_InvalidIndex : PySem.W.mroIn K xC_InvalidIndex (.type "object") = some true) (xn0_InvalidIndex : PySem.W.kitOne K (.ref xC_InvalidIndex) (.type "int") = some false) (xn1_InvalidIndex : PySem.W.kitOne K (.ref xC_InvalidIndex) (.type "str") = some false) (xn2_InvalidIndex : PySem.W.kitOne K (.ref xC_InvalidIndex) (.type "tuple") = some false) (xn3_InvalidIndex : PySem.W.kitOne K (.ref xC_InvalidIndex) (.type "list") = some false) (xn4_InvalidIndex : PySem.W.kitOne K (.ref xC_InvalidIndex) (.type "bool") = some false) (xn5_InvalidIndex : PySem.W.kitOne K (.ref xC_InvalidIndex) (.type "dict") = some false)
    {ynm_InvalidIndex yq_InvalidIndex : Str} {yN_InvalidIndex : Addr} {ybs_InvalidIndex ybm_InvalidIndex : List Value} {ysn_InvalidIndex : List Str} {ysub_InvalidIndex : List Value} {yab_InvalidIndex : Bool} {ycol_InvalidIndex : Option Bool} {ydd_InvalidIndex : Option Addr} {yk0_InvalidIndex yk1_InvalidIndex yk2_InvalidIndex yk3_InvalidIndex yk5_InvalidIndex : Option Value}
    (xl_InvalidIndex : K.lookup xC_InvalidIndex = some (excClassObj ynm_InvalidIndex yq_InvalidIndex xC_InvalidIndex yN_InvalidIndex ybs_InvalidIndex ybm_InvalidIndex true ysn_InvalidIndex ysub_InvalidIndex yab_InvalidIndex ycol_InvalidIndex ydd_InvalidIndex yk0_InvalidIndex yk1_InvalidIndex yk2_InvalidIndex yk3_InvalidIndex yk5_InvalidIndex "ValueError.__new__")) (xr_InvalidIndex : PySem.HandSPX.refsVE ybm_InvalidIndex = true)
    (xs_InvalidIndex : PySem.W.findIn K (.ref xC_InvalidIndex) "__setattr__" = some (some (.builtin "object.__setattr__"))) (xt_InvalidIndex : PySem.W.typeIn K (.ref xC_InvalidIndex) = some (.type "type")) (xk_InvalidIndex : PySem.W.keepIn K (.ref xC_InvalidIndex) = true)
    {xI_InvalidIndex : Addr} (xi_InvalidIndex : PySem.W.findIn K (.ref xC_InvalidIndex) "__init__" = some (some (.ref xI_InvalidIndex))) (xf_InvalidIndex : PySem.W.typeIn K (.ref xI_InvalidIndex) = some (.type "function"))
    {zod_InvalidIndex zan_InvalidIndex : Option Addr} {zsl_InvalidIndex : Array (Option Value)} {zoc_InvalidIndex zkV_InvalidIndex zdc_InvalidIndex zpm_InvalidIndex zcd_InvalidIndex zct_InvalidIndex : Value} (xfl_InvalidIndex : K.lookup xI_InvalidIndex = some ⟨zoc_InvalidIndex, zod_InvalidIndex, .func (PySem.W.fnOf "__init__" "InvalidIndex.__init__" (defArgs (inClass (topS 3) 0)) (defBody (inClass (topS 3) 0)) (defScope (inClass (topS 3) 0)) .none zkV_InvalidIndex zdc_InvalidIndex zpm_InvalidIndex zan_InvalidIndex zcd_InvalidIndex zct_InvalidIndex), zsl_InvalidIndex⟩) (xfc_InvalidIndex : PySem.W.codeIn K zcd_InvalidIndex "InvalidIndex.__init__" = true) (xfk_InvalidIndex : PySem.W.keepIn K (.ref xI_InvalidIndex) = true)
    (xg0_InvalidIndex : PySem.W.findIn K (.ref xC_InvalidIndex) "index" = some none)
    (xo2_DeskFull : PySem.W.findIn K (.ref xC_DeskFull) "__getattribute__" = some (some (.builtin "BaseException.__getattribute__"))) (xo3_DeskFull : PySem.W.findIn K (.ref xC_DeskFull) "__getattr__" = some none) (xo4_DeskFull : PySem.W.subIn K (.ref xC_DeskFull) (.type "BaseException") = some true) (xo5_DeskFull : PySem.W.hasDictIn K xC_DeskFull = true) (xo6_DeskFull : PySem.W.findIn K (.ref xC_DeskFull) "__class__" = some (some (.builtin "object.__class__"))) (xo9_DeskFull : PySem.W.mroIn K xC_DeskFull (.type "object") = some true) (xn0_DeskFull : PySem.W.kitOne K (.ref xC_DeskFull) (.type "int") = some false) (xn1_DeskFull : PySem.W.kitOne K (.ref xC_DeskFull) (.type "str") = some false) (xn2_DeskFull : PySem.W.kitOne K (.ref xC_DeskFull) (.type "tuple") = some false) (xn3_DeskFull : PySem.W.kitOne K (.ref xC_DeskFull) (.type "list") = some false) (xn4_DeskFull : PySem.W.kitOne K (.ref xC_DeskFull) (.type "bool") = some false) (xn5_DeskFull : PySem.W.kitOne K (.ref xC_DeskFull) (.type "dict") = some false)
    {ynm_DeskFull yq_DeskFull : Str} {yN_DeskFull : Addr} {ybs_DeskFull ybm_DeskFull : List Value} {ysn_DeskFull : List Str} {ysub_DeskFull : List Value} {yab_DeskFull : Bool} {ycol_DeskFull : Option Bool} {ydd_DeskFull : Option Addr} {yk0_DeskFull yk1_DeskFull yk2_DeskFull yk3_DeskFull yk5_DeskFull : Option Value}
    (xl_DeskFull : K.lookup xC_DeskFull = some (excClassObj ynm_DeskFull yq_DeskFull xC_DeskFull yN_DeskFull ybs_DeskFull ybm_DeskFull true ysn_DeskFull ysub_DeskFull yab_DeskFull ycol_DeskFull ydd_DeskFull yk0_DeskFull yk1_DeskFull yk2_DeskFull yk3_DeskFull yk5_DeskFull "ValueError.__new__")) (xr_DeskFull : PySem.HandSPX.refsVE ybm_DeskFull = true)
    (xs_DeskFull : PySem.W.findIn K (.ref xC_DeskFull) "__setattr__" = some (some (.builtin "object.__setattr__"))) (xt_DeskFull : PySem.W.typeIn K (.ref xC_DeskFull) = some (.type "type")) (xk_DeskFull : PySem.W.keepIn K (.ref xC_DeskFull) = true)
    {xI_DeskFull : Addr} (xi_DeskFull : PySem.W.findIn K (.ref xC_DeskFull) "__init__" = some (some (.ref xI_DeskFull))) (xf_DeskFull : PySem.W.typeIn K (.ref xI_DeskFull) = some (.type "function"))
    {zod_DeskFull zan_DeskFull : Option Addr} {zsl_DeskFull : Array (Option Value)} {zoc_DeskFull zkV_DeskFull zdc_DeskFull zpm_DeskFull zcd_DeskFull zct_DeskFull : Value} (xfl_DeskFull : K.lookup xI_DeskFull = some ⟨zoc_DeskFull, zod_DeskFull, .func (PySem.W.fnOf "__init__" "DeskFull.__init__" (defArgs (inClass (topS 4) 0)) (defBody (inClass (topS 4) 0)) (defScope (inClass (topS 4) 0)) .none zkV_DeskFull zdc_DeskFull zpm_DeskFull zan_DeskFull zcd_DeskFull zct_DeskFull), zsl_DeskFull⟩) (xfc_DeskFull : PySem.W.codeIn K zcd_DeskFull "DeskFull.__init__" = true) (xfk_DeskFull : PySem.W.keepIn K (.ref xI_DeskFull) = true)
    (xg0_DeskFull : PySem.W.findIn K (.ref xC_DeskFull) "limit" = some none)
    (xo2_TooMany : PySem.W.findIn K (.ref xC_TooMany) "__getattribute__" = some (some (.builtin "BaseException.__getattribute__"))) (xo3_TooMany : PySem.W.findIn K (.ref xC_TooMany) "__getattr__" = some none) (xo4_TooMany : PySem.W.subIn K (.ref xC_TooMany) (.type "BaseException") = some true) (xo5_TooMany : PySem.W.hasDictIn K xC_TooMany = true) (xo6_TooMany : PySem.W.findIn K (.ref xC_TooMany) "__class__" = some (some (.builtin "object.__class__"))) (xo9_TooMany : PySem.W.mroIn K xC_TooMany (.type "object") = some true) (xn0_TooMany : PySem.W.kitOne K (.ref xC_TooMany) (.type "int") = some false) (xn1_TooMany : PySem.W.kitOne K (.ref xC_TooMany) (.type "str") = some false) (xn2_TooMany : PySem.W.kitOne K (.ref xC_TooMany) (.type "tuple") = some false) (xn3_TooMany : PySem.W.kitOne K (.ref xC_TooMany) (.type "list") = some false) (xn4_TooMany : PySem.W.kitOne K (.ref xC_TooMany) (.type "bool") = some false) (xn5_TooMany : PySem.W.kitOne K (.ref xC_TooMany) (.type "dict") = some false)
    {ynm_TooMany yq_TooMany : Str} {yN_TooMany : Addr} {ybs_TooMany ybm_TooMany : List Value} {ysn_TooMany : List Str} {ysub_TooMany : List Value} {yab_TooMany : Bool} {ycol_TooMany : Option Bool} {ydd_TooMany : Option Addr} {yk0_TooMany yk1_TooMany yk2_TooMany yk3_TooMany yk5_TooMany : Option Value}
    (xl_TooMany : K.lookup xC_TooMany = some (excClassObj ynm_TooMany yq_TooMany xC_TooMany yN_TooMany ybs_TooMany ybm_TooMany true ysn_TooMany ysub_TooMany yab_TooMany ycol_TooMany ydd_TooMany yk0_TooMany yk1_TooMany yk2_TooMany yk3_TooMany yk5_TooMany "ValueError.__new__")) (xr_TooMany : PySem.HandSPX.refsVE ybm_TooMany = true)
    (xs_TooMany : PySem.W.findIn K (.ref xC_TooMany) "__setattr__" = some (some (.builtin "object.__setattr__"))) (xt_TooMany : PySem.W.typeIn K (.ref xC_TooMany) = some (.type "type")) (xk_TooMany : PySem.W.keepIn K (.ref xC_TooMany) = true)
    {xI_TooMany : Addr} (xi_TooMany : PySem.W.findIn K (.ref xC_TooMany) "__init__" = some (some (.ref xI_TooMany))) (xf_TooMany : PySem.W.typeIn K (.ref xI_TooMany) = some (.type "function"))
    {zod_TooMany zan_TooMany : Option Addr} {zsl_TooMany : Array (Option Value)} {zoc_TooMany zkV_TooMany zdc_TooMany zpm_TooMany zcd_TooMany zct_TooMany : Value} (xfl_TooMany : K.lookup xI_TooMany = some ⟨zoc_TooMany, zod_TooMany, .func (PySem.W.fnOf "__init__" "TooMany.__init__" (defArgs (inClass (topS 5) 0)) (defBody (inClass (topS 5) 0)) (defScope (inClass (topS 5) 0)) .none zkV_TooMany zdc_TooMany zpm_TooMany zan_TooMany zcd_TooMany zct_TooMany), zsl_TooMany⟩) (xfc_TooMany : PySem.W.codeIn K zcd_TooMany "TooMany.__init__" = true) (xfk_TooMany : PySem.W.keepIn K (.ref xI_TooMany) = true)
    (xg0_TooMany : PySem.W.findIn K (.ref xC_TooMany) "limit" = some none)
    (xo2_Refuted : PySem.W.findIn K (.ref xC_Refuted) "__getattribute__" = some (some (.builtin "BaseException.__getattribute__"))) (xo3_Refuted : PySem.W.findIn K (.ref xC_Refuted) "__getattr__" = some none) (xo4_Refuted : PySem.W.subIn K (.ref xC_Refuted) (.type "BaseException") = some true) (xo5_Refuted : PySem.W.hasDictIn K xC_Refuted = true) (xo6_Refuted : PySem.W.findIn K (.ref xC_Refuted) "__class__" = some (some (.builtin "object.__class__"))) (xo9_Refuted : PySem.W.mroIn K xC_Refuted (.type "object") = some true) (xn0_Refuted : PySem.W.kitOne K (.ref xC_Refuted) (.type "int") = some false) (xn1_Refuted : PySem.W.kitOne K (.ref xC_Refuted) (.type "str") = some false) (xn2_Refuted : PySem.W.kitOne K (.ref xC_Refuted) (.type "tuple") = some false) (xn3_Refuted : PySem.W.kitOne K (.ref xC_Refuted) (.type "list") = some false) (xn4_Refuted : PySem.W.kitOne K (.ref xC_Refuted) (.type "bool") = some false) (xn5_Refuted : PySem.W.kitOne K (.ref xC_Refuted) (.type "dict") = some false)
    {ynm_Refuted yq_Refuted : Str} {yN_Refuted : Addr} {ybs_Refuted ybm_Refuted : List Value} {ysn_Refuted : List Str} {ysub_Refuted : List Value} {yab_Refuted : Bool} {ycol_Refuted : Option Bool} {ydd_Refuted : Option Addr} {yk0_Refuted yk1_Refuted yk2_Refuted yk3_Refuted yk5_Refuted : Option Value}
    (xl_Refuted : K.lookup xC_Refuted = some (excClassObj ynm_Refuted yq_Refuted xC_Refuted yN_Refuted ybs_Refuted ybm_Refuted true ysn_Refuted ysub_Refuted yab_Refuted ycol_Refuted ydd_Refuted yk0_Refuted yk1_Refuted yk2_Refuted yk3_Refuted yk5_Refuted "ValueError.__new__")) (xr_Refuted : PySem.HandSPX.refsVE ybm_Refuted = true)
    (xs_Refuted : PySem.W.findIn K (.ref xC_Refuted) "__setattr__" = some (some (.builtin "object.__setattr__"))) (xt_Refuted : PySem.W.typeIn K (.ref xC_Refuted) = some (.type "type")) (xk_Refuted : PySem.W.keepIn K (.ref xC_Refuted) = true)
    {xI_Refuted : Addr} (xi_Refuted : PySem.W.findIn K (.ref xC_Refuted) "__init__" = some (some (.ref xI_Refuted))) (xf_Refuted : PySem.W.typeIn K (.ref xI_Refuted) = some (.type "function"))
    {zod_Refuted zan_Refuted : Option Addr} {zsl_Refuted : Array (Option Value)} {zoc_Refuted zkV_Refuted zdc_Refuted zpm_Refuted zcd_Refuted zct_Refuted : Value} (xfl_Refuted : K.lookup xI_Refuted = some ⟨zoc_Refuted, zod_Refuted, .func (PySem.W.fnOf "__init__" "Refuted.__init__" (defArgs (inClass (topS 6) 0)) (defBody (inClass (topS 6) 0)) (defScope (inClass (topS 6) 0)) .none zkV_Refuted zdc_Refuted zpm_Refuted zan_Refuted zcd_Refuted zct_Refuted), zsl_Refuted⟩) (xfc_Refuted : PySem.W.codeIn K zcd_Refuted "Refuted.__init__" = true) (xfk_Refuted : PySem.W.keepIn K (.ref xI_Refuted) = true)
    (xg0_Refuted : PySem.W.findIn K (.ref xC_Refuted) "refutation" = some none)
    (xo2_InvalidText : PySem.W.findIn K (.ref xC_InvalidText) "__getattribute__" = some (some (.builtin "BaseException.__getattribute__"))) (xo3_InvalidText : PySem.W.findIn K (.ref xC_InvalidText) "__getattr__" = some none) (xo4_InvalidText : PySem.W.subIn K (.ref xC_InvalidText) (.type "BaseException") = some true) (xo5_InvalidText : PySem.W.hasDictIn K xC_InvalidText = true) (xo6_InvalidText : PySem.W.findIn K (.ref xC_InvalidText) "__class__" = some (some (.builtin "object.__class__"))) (xo9_InvalidText : PySem.W.mroIn K xC_InvalidText (.type "object") = some true) (xn0_InvalidText : PySem.W.kitOne K (.ref xC_InvalidText) (.type "int") = some false) (xn1_InvalidText : PySem.W.kitOne K (.ref xC_InvalidText) (.type "str") = some false) (xn2_InvalidText : PySem.W.kitOne K (.ref xC_InvalidText) (.type "tuple") = some false) (xn3_InvalidText : PySem.W.kitOne K (.ref xC_InvalidText) (.type "list") = some false) (xn4_InvalidText : PySem.W.kitOne K (.ref xC_InvalidText) (.type "bool") = some false) (xn5_InvalidText : PySem.W.kitOne K (.ref xC_InvalidText) (.type "dict") = some false)
    (xk_InvalidText : PySem.W.keepIn K (.ref xC_InvalidText) = true) (xe_InvalidText : PySem.W.excIn K xC_InvalidText [.type "ValueError", .type "Exception", .type "BaseException", .type "object"] "ValueError.__new__" = true)
    (xu_InvalidSaying_ForkyearsError : PySem.W.kitOne K (.ref xC_InvalidSaying) (.ref xC_ForkyearsError) = some true)
    (xu_InvalidIndex_ForkyearsError : PySem.W.kitOne K (.ref xC_InvalidIndex) (.ref xC_ForkyearsError) = some true)
    (xu_DeskFull_ForkyearsError : PySem.W.kitOne K (.ref xC_DeskFull) (.ref xC_ForkyearsError) = some true)
    (xu_TooMany_ForkyearsError : PySem.W.kitOne K (.ref xC_TooMany) (.ref xC_ForkyearsError) = some true)
    (xu_Refuted_ForkyearsError : PySem.W.kitOne K (.ref xC_Refuted) (.ref xC_ForkyearsError) = some true)
    (xu_InvalidText_ForkyearsError : PySem.W.kitOne K (.ref xC_InvalidText) (.ref xC_ForkyearsError) = some true)
    (xu_InvalidSaying_ValueError : PySem.W.kitOne K (.ref xC_InvalidSaying) (.type "ValueError") = some true)
    (xu_InvalidIndex_ValueError : PySem.W.kitOne K (.ref xC_InvalidIndex) (.type "ValueError") = some true)
    (xu_DeskFull_ValueError : PySem.W.kitOne K (.ref xC_DeskFull) (.type "ValueError") = some true)
    (xu_TooMany_ValueError : PySem.W.kitOne K (.ref xC_TooMany) (.type "ValueError") = some true)
    (xu_Refuted_ValueError : PySem.W.kitOne K (.ref xC_Refuted) (.type "ValueError") = some true)
    (xu_InvalidText_ValueError : PySem.W.kitOne K (.ref xC_InvalidText) (.type "ValueError") = some true)
    (xu_InvalidSaying_InvalidSaying : PySem.W.kitOne K (.ref xC_InvalidSaying) (.ref xC_InvalidSaying) = some true)
    (xu_InvalidIndex_InvalidSaying : PySem.W.kitOne K (.ref xC_InvalidIndex) (.ref xC_InvalidSaying) = some false)
    (xu_DeskFull_InvalidSaying : PySem.W.kitOne K (.ref xC_DeskFull) (.ref xC_InvalidSaying) = some false)
    (xu_TooMany_InvalidSaying : PySem.W.kitOne K (.ref xC_TooMany) (.ref xC_InvalidSaying) = some false)
    (xu_Refuted_InvalidSaying : PySem.W.kitOne K (.ref xC_Refuted) (.ref xC_InvalidSaying) = some false)
    (xu_InvalidText_InvalidSaying : PySem.W.kitOne K (.ref xC_InvalidText) (.ref xC_InvalidSaying) = some false)
    (xu_InvalidSaying_InvalidIndex : PySem.W.kitOne K (.ref xC_InvalidSaying) (.ref xC_InvalidIndex) = some false)
    (xu_InvalidIndex_InvalidIndex : PySem.W.kitOne K (.ref xC_InvalidIndex) (.ref xC_InvalidIndex) = some true)
    (xu_DeskFull_InvalidIndex : PySem.W.kitOne K (.ref xC_DeskFull) (.ref xC_InvalidIndex) = some false)
    (xu_TooMany_InvalidIndex : PySem.W.kitOne K (.ref xC_TooMany) (.ref xC_InvalidIndex) = some false)
    (xu_Refuted_InvalidIndex : PySem.W.kitOne K (.ref xC_Refuted) (.ref xC_InvalidIndex) = some false)
    (xu_InvalidText_InvalidIndex : PySem.W.kitOne K (.ref xC_InvalidText) (.ref xC_InvalidIndex) = some false)
    (xu_InvalidSaying_DeskFull : PySem.W.kitOne K (.ref xC_InvalidSaying) (.ref xC_DeskFull) = some false)
    (xu_InvalidIndex_DeskFull : PySem.W.kitOne K (.ref xC_InvalidIndex) (.ref xC_DeskFull) = some false)
    (xu_DeskFull_DeskFull : PySem.W.kitOne K (.ref xC_DeskFull) (.ref xC_DeskFull) = some true)
    (xu_TooMany_DeskFull : PySem.W.kitOne K (.ref xC_TooMany) (.ref xC_DeskFull) = some false)
    (xu_Refuted_DeskFull : PySem.W.kitOne K (.ref xC_Refuted) (.ref xC_DeskFull) = some false)
    (xu_InvalidText_DeskFull : PySem.W.kitOne K (.ref xC_InvalidText) (.ref xC_DeskFull) = some false)
    (xu_InvalidSaying_Refuted : PySem.W.kitOne K (.ref xC_InvalidSaying) (.ref xC_Refuted) = some false)
    (xu_InvalidIndex_Refuted : PySem.W.kitOne K (.ref xC_InvalidIndex) (.ref xC_Refuted) = some false)
    (xu_DeskFull_Refuted : PySem.W.kitOne K (.ref xC_DeskFull) (.ref xC_Refuted) = some false)
    (xu_TooMany_Refuted : PySem.W.kitOne K (.ref xC_TooMany) (.ref xC_Refuted) = some false)
    (xu_Refuted_Refuted : PySem.W.kitOne K (.ref xC_Refuted) (.ref xC_Refuted) = some true)
    (xu_InvalidText_Refuted : PySem.W.kitOne K (.ref xC_InvalidText) (.ref xC_Refuted) = some false)
    (xu_InvalidSaying_TooMany : PySem.W.kitOne K (.ref xC_InvalidSaying) (.ref xC_TooMany) = some false)
    (xu_InvalidIndex_TooMany : PySem.W.kitOne K (.ref xC_InvalidIndex) (.ref xC_TooMany) = some false)
    (xu_DeskFull_TooMany : PySem.W.kitOne K (.ref xC_DeskFull) (.ref xC_TooMany) = some false)
    (xu_TooMany_TooMany : PySem.W.kitOne K (.ref xC_TooMany) (.ref xC_TooMany) = some true)
    (xu_Refuted_TooMany : PySem.W.kitOne K (.ref xC_Refuted) (.ref xC_TooMany) = some false)
    (xu_InvalidText_TooMany : PySem.W.kitOne K (.ref xC_InvalidText) (.ref xC_TooMany) = some false)
    (xu_InvalidSaying_InvalidText : PySem.W.kitOne K (.ref xC_InvalidSaying) (.ref xC_InvalidText) = some false)
    (xu_InvalidIndex_InvalidText : PySem.W.kitOne K (.ref xC_InvalidIndex) (.ref xC_InvalidText) = some false)
    (xu_DeskFull_InvalidText : PySem.W.kitOne K (.ref xC_DeskFull) (.ref xC_InvalidText) = some false)
    (xu_TooMany_InvalidText : PySem.W.kitOne K (.ref xC_TooMany) (.ref xC_InvalidText) = some false)
    (xu_Refuted_InvalidText : PySem.W.kitOne K (.ref xC_Refuted) (.ref xC_InvalidText) = some false)
    (xu_InvalidText_InvalidText : PySem.W.kitOne K (.ref xC_InvalidText) (.ref xC_InvalidText) = some true)
    : ∃ fd : FuncData, (∀ (s : Shared) (u : Value), BindsTo s fd ⟨[u], []⟩ [("script", u)]) ∧ ∀ base : Heap, K.In base → base.Ns mainGlobals mg → FnG l.prog w K mg base 4 fa fd ["script"] (spLaw K) := by
  have T : Txt K mg := ⟨PySem.W.mg_none_of KX G z0, PySem.W.mg_none_of KX G z1, PySem.W.mg_none_of KX G z2, PySem.W.mg_none_of KX G z3, PySem.W.mg_none_of KX G z4, PySem.W.mg_none_of KX G z5, PySem.W.mg_none_of KX G z6, PySem.W.mg_none_of KX G z7, ⟨xC_ForkyearsError, _, PySem.W.mg_of KX G xv_ForkyearsError, xb1, xb2, xb3⟩, errK_mk KX G (obC_mk xv_InvalidSaying (cls_some xo5_InvalidSaying) xo2_InvalidSaying xo3_InvalidSaying xo4_InvalidSaying xo5_InvalidSaying xo6_InvalidSaying xo7 xo8 xo9_InvalidSaying xn0_InvalidSaying xn1_InvalidSaying xn2_InvalidSaying xn3_InvalidSaying xn4_InvalidSaying xn5_InvalidSaying) (oexC_mk xl_InvalidSaying xr_InvalidSaying xs_InvalidSaying xo4_InvalidSaying xt_InvalidSaying xk_InvalidSaying) xi_InvalidSaying xf_InvalidSaying xfl_InvalidSaying xfc_InvalidSaying xfk_InvalidSaying (fun _ _ _ _ _ _ us hl => match us, hl with | [_, _], _ => rfl) (fun f hf => by simp only [List.mem_cons, List.not_mem_nil, or_false] at hf; subst hf; exact xg0_InvalidSaying), errK_mk KX G (obC_mk xv_InvalidIndex (cls_some xo5_InvalidIndex) xo2_InvalidIndex xo3_InvalidIndex xo4_InvalidIndex xo5_InvalidIndex xo6_InvalidIndex xo7 xo8 xo9_InvalidIndex xn0_InvalidIndex xn1_InvalidIndex xn2_InvalidIndex xn3_InvalidIndex xn4_InvalidIndex xn5_InvalidIndex) (oexC_mk xl_InvalidIndex xr_InvalidIndex xs_InvalidIndex xo4_InvalidIndex xt_InvalidIndex xk_InvalidIndex) xi_InvalidIndex xf_InvalidIndex xfl_InvalidIndex xfc_InvalidIndex xfk_InvalidIndex (fun _ _ _ _ _ _ us hl => match us, hl with | [_, _], _ => rfl) (fun f hf => by simp only [List.mem_cons, List.not_mem_nil, or_false] at hf; subst hf; exact xg0_InvalidIndex), errK_mk KX G (obC_mk xv_DeskFull (cls_some xo5_DeskFull) xo2_DeskFull xo3_DeskFull xo4_DeskFull xo5_DeskFull xo6_DeskFull xo7 xo8 xo9_DeskFull xn0_DeskFull xn1_DeskFull xn2_DeskFull xn3_DeskFull xn4_DeskFull xn5_DeskFull) (oexC_mk xl_DeskFull xr_DeskFull xs_DeskFull xo4_DeskFull xt_DeskFull xk_DeskFull) xi_DeskFull xf_DeskFull xfl_DeskFull xfc_DeskFull xfk_DeskFull (fun _ _ _ _ _ _ us hl => match us, hl with | [_, _], _ => rfl) (fun f hf => by simp only [List.mem_cons, List.not_mem_nil, or_false] at hf; subst hf; exact xg0_DeskFull), errK_mk KX G (obC_mk xv_TooMany (cls_some xo5_TooMany) xo2_TooMany xo3_TooMany xo4_TooMany xo5_TooMany xo6_TooMany xo7 xo8 xo9_TooMany xn0_TooMany xn1_TooMany xn2_TooMany xn3_TooMany xn4_TooMany xn5_TooMany) (oexC_mk xl_TooMany xr_TooMany xs_TooMany xo4_TooMany xt_TooMany xk_TooMany) xi_TooMany xf_TooMany xfl_TooMany xfc_TooMany xfk_TooMany (fun _ _ _ _ _ _ us hl => match us, hl with | [_, _], _ => rfl) (fun f hf => by simp only [List.mem_cons, List.not_mem_nil, or_false] at hf; subst hf; exact xg0_TooMany), errK_mk KX G (obC_mk xv_Refuted (cls_some xo5_Refuted) xo2_Refuted xo3_Refuted xo4_Refuted xo5_Refuted xo6_Refuted xo7 xo8 xo9_Refuted xn0_Refuted xn1_Refuted xn2_Refuted xn3_Refuted xn4_Refuted xn5_Refuted) (oexC_mk xl_Refuted xr_Refuted xs_Refuted xo4_Refuted xt_Refuted xk_Refuted) xi_Refuted xf_Refuted xfl_Refuted xfc_Refuted xfk_Refuted (fun _ _ _ _ _ _ us hl => match us, hl with | [_, _], _ => rfl) (fun f hf => by simp only [List.mem_cons, List.not_mem_nil, or_false] at hf; subst hf; exact xg0_Refuted), ⟨xC_InvalidText, _, _, _, _, (obC_mk xv_InvalidText (cls_some xo5_InvalidText) xo2_InvalidText xo3_InvalidText xo4_InvalidText xo5_InvalidText xo6_InvalidText xo7 xo8 xo9_InvalidText xn0_InvalidText xn1_InvalidText xn2_InvalidText xn3_InvalidText xn4_InvalidText xn5_InvalidText), PySem.F.excBase_ValueError, xe_InvalidText, PySem.W.mg_of KX G xv_InvalidText, xk_InvalidText⟩, ⟨xC_ForkyearsError, PySem.W.mg_of KX G xv_ForkyearsError, (sub_cons xv_InvalidSaying xu_InvalidSaying_ForkyearsError (sub_cons xv_InvalidIndex xu_InvalidIndex_ForkyearsError (sub_cons xv_DeskFull xu_DeskFull_ForkyearsError (sub_cons xv_TooMany xu_TooMany_ForkyearsError (sub_cons xv_Refuted xu_Refuted_ForkyearsError (sub_cons xv_InvalidText xu_InvalidText_ForkyearsError sub_nil))))))⟩, (sub_cons xv_InvalidSaying xu_InvalidSaying_ValueError (sub_cons xv_InvalidIndex xu_InvalidIndex_ValueError (sub_cons xv_DeskFull xu_DeskFull_ValueError (sub_cons xv_TooMany xu_TooMany_ValueError (sub_cons xv_Refuted xu_Refuted_ValueError (sub_cons xv_InvalidText xu_InvalidText_ValueError sub_nil)))))), ⟨xC_InvalidSaying, PySem.W.mg_of KX G xv_InvalidSaying, (sub_cons xv_InvalidSaying xu_InvalidSaying_InvalidSaying (sub_cons xv_InvalidIndex xu_InvalidIndex_InvalidSaying (sub_cons xv_DeskFull xu_DeskFull_InvalidSaying (sub_cons xv_TooMany xu_TooMany_InvalidSaying (sub_cons xv_Refuted xu_Refuted_InvalidSaying (sub_cons xv_InvalidText xu_InvalidText_InvalidSaying sub_nil))))))⟩, ⟨xC_InvalidIndex, PySem.W.mg_of KX G xv_InvalidIndex, (sub_cons xv_InvalidSaying xu_InvalidSaying_InvalidIndex (sub_cons xv_InvalidIndex xu_InvalidIndex_InvalidIndex (sub_cons xv_DeskFull xu_DeskFull_InvalidIndex (sub_cons xv_TooMany xu_TooMany_InvalidIndex (sub_cons xv_Refuted xu_Refuted_InvalidIndex (sub_cons xv_InvalidText xu_InvalidText_InvalidIndex sub_nil))))))⟩, ⟨xC_DeskFull, PySem.W.mg_of KX G xv_DeskFull, (sub_cons xv_InvalidSaying xu_InvalidSaying_DeskFull (sub_cons xv_InvalidIndex xu_InvalidIndex_DeskFull (sub_cons xv_DeskFull xu_DeskFull_DeskFull (sub_cons xv_TooMany xu_TooMany_DeskFull (sub_cons xv_Refuted xu_Refuted_DeskFull (sub_cons xv_InvalidText xu_InvalidText_DeskFull sub_nil))))))⟩, ⟨xC_Refuted, PySem.W.mg_of KX G xv_Refuted, (sub_cons xv_InvalidSaying xu_InvalidSaying_Refuted (sub_cons xv_InvalidIndex xu_InvalidIndex_Refuted (sub_cons xv_DeskFull xu_DeskFull_Refuted (sub_cons xv_TooMany xu_TooMany_Refuted (sub_cons xv_Refuted xu_Refuted_Refuted (sub_cons xv_InvalidText xu_InvalidText_Refuted sub_nil))))))⟩, ⟨xC_TooMany, PySem.W.mg_of KX G xv_TooMany, (sub_cons xv_InvalidSaying xu_InvalidSaying_TooMany (sub_cons xv_InvalidIndex xu_InvalidIndex_TooMany (sub_cons xv_DeskFull xu_DeskFull_TooMany (sub_cons xv_TooMany xu_TooMany_TooMany (sub_cons xv_Refuted xu_Refuted_TooMany (sub_cons xv_InvalidText xu_InvalidText_TooMany sub_nil))))))⟩, ⟨xC_InvalidText, PySem.W.mg_of KX G xv_InvalidText, (sub_cons xv_InvalidSaying xu_InvalidSaying_InvalidText (sub_cons xv_InvalidIndex xu_InvalidIndex_InvalidText (sub_cons xv_DeskFull xu_DeskFull_InvalidText (sub_cons xv_TooMany xu_TooMany_InvalidText (sub_cons xv_Refuted xu_Refuted_InvalidText (sub_cons xv_InvalidText xu_InvalidText_InvalidText sub_nil))))))⟩⟩
  have D__law_spread : At K mg "_law_spread" S__law_spread ["cell", "at"] := at_mk KX G a0 l0 c0 k0 fun _ _ _ _ _ _ us hl => match us, hl with | [_, _], _ => rfl
  have D__law_take : At K mg "_law_take" S__law_take ["pen", "amount"] := at_mk KX G a1 l1 c1 k1 fun _ _ _ _ _ _ us hl => match us, hl with | [_, _], _ => rfl
  have D__law_one_of : At K mg "_law_one_of" S__law_one_of ["pen", "some"] := at_mk KX G a2 l2 c2 k2 fun _ _ _ _ _ _ us hl => match us, hl with | [_, _], _ => rfl
  have D__law_open : At K mg "_law_open" S__law_open ["script"] := at_mk KX G a3 l3 c3 k3 fun _ _ _ _ _ _ us hl => match us, hl with | [_], _ => rfl
  have D_law : At K mg "law" S_law ["script"] := at_mk KX G a4 l4 c4 k4 fun _ _ _ _ _ _ us hl => match us, hl with | [_], _ => rfl
  exact ok_law T hfa D_law D__law_spread D__law_take D__law_one_of D__law_open hm

end My

set_option Elab.async false
set_option linter.all false
set_option maxRecDepth 100000
set_option maxHeartbeats 4000000
/-! errors: their classes, what they hold -/
namespace My
open PySem L2 PyProof.Rows Vw

theorem take_at {b : Int} {p : PyData} (h : PenAt b p) (hb : b ≤ 2147483648) (n : Int) (hn : 0 < n) (hz : n < 2 ^ 64) : ∃ (p' : PyData) (x : Int), f__law_take [p, .int n] = some (.fz (.int x), [p']) ∧ 0 ≤ x ∧ x < n ∧ PenAt (b + 1) p' := pen_take h hb n hn hz
theorem one_at {b : Int} {p : PyData} (h : PenAt b p) (hb : b ≤ 2147483648) (ds : List PyData) (hn : 0 < ds.length) (hz : ds.length < 10000) : ∃ (p' d : PyData), f__law_one_of [p, .list ds] = some (.fz d, [p']) ∧ d ∈ ds ∧ PenAt (b + 1) p' := pen_one h hb ds hn hz
theorem err1 {n f : Str} {d : PyData} : gErr n [f] [d] = some (.fz (.dict (objL n [(f, d)]))) := rfl
theorem err0 {n : Str} {d : PyData} : gErr0 n [d] = some (.fz (.dict (objL n []))) := rfl
theorem fld1 {n f : Str} {d : PyData} : gFld f [.dict (objL n [(f, d)])] = some (.fz d) := by
  show (fldD [(.str f, d)] f).map Sl.fz = _
  rw [fldD, if_pos rfl]
  rfl
theorem isO {tab : List (Str × Bool)} {n : Str} {es : List (Str × PyData)} {b : Bool} (h : tab.lookup n = some b) : gIsC tab [.dict (objL n es)] = some (.fz (.bool b)) := by
  have e : gIsC tab [.dict (objL n es)] = (nameO (.dict (objL n es))).bind fun n => (tab.lookup n).map fun b => .fz (.bool b) := rfl
  rw [e, nameO_ob, Option.bind_some, h]
  rfl
theorem add32 {a b c d e : PyData} : gAdd [.list [a, b, c], .list [d, e]] = some (.ow (.list [a, b, c, d, e])) := catL (by simp)
theorem add42 {a b c d e f : PyData} : gAdd [.list [a, b, c, d], .list [e, f]] = some (.ow (.list [a, b, c, d, e, f])) := catL (by simp)
theorem ix53 {a b c d e : PyData} : gIx [.list [a, b, c, d, e], .int 3] = some (.fz d) := rfl
theorem ix54 {a b c d e : PyData} : gIx [.list [a, b, c, d, e], .int 4] = some (.fz e) := rfl
theorem ix63 {a b c d e f : PyData} : gIx [.list [a, b, c, d, e, f], .int 3] = some (.fz d) := rfl
theorem ix64 {a b c d e f : PyData} : gIx [.list [a, b, c, d, e, f], .int 4] = some (.fz e) := rfl
theorem enum6 {a b c d e f : PyData} : fEnumT [.list [a, b, c, d, e, f]] = some [.tuple [.int 0, a], .tuple [.int 1, b], .tuple [.int 2, c], .tuple [.int 3, d], .tuple [.int 4, e], .tuple [.int 5, f]] := rfl
theorem rng6 : fRng1 [.int 6] = some [.int 0, .int 1, .int 2, .int 3, .int 4, .int 5] := by rfl
theorem add33 {a b c d e f : PyData} : gAdd [.list [a, b, c], .list [d, e, f]] = some (.ow (.list [a, b, c, d, e, f])) := catL (by simp)
theorem is_all_InvalidSaying {es : List (Str × PyData)} : gIsC [("InvalidSaying", true), ("InvalidIndex", true), ("DeskFull", true), ("TooMany", true), ("Refuted", true), ("InvalidText", true)] [.dict (objL "InvalidSaying" es)] = some (.fz (.bool true)) := isO (by rfl)
theorem is_all_InvalidIndex {es : List (Str × PyData)} : gIsC [("InvalidSaying", true), ("InvalidIndex", true), ("DeskFull", true), ("TooMany", true), ("Refuted", true), ("InvalidText", true)] [.dict (objL "InvalidIndex" es)] = some (.fz (.bool true)) := isO (by rfl)
theorem is_all_DeskFull {es : List (Str × PyData)} : gIsC [("InvalidSaying", true), ("InvalidIndex", true), ("DeskFull", true), ("TooMany", true), ("Refuted", true), ("InvalidText", true)] [.dict (objL "DeskFull" es)] = some (.fz (.bool true)) := isO (by rfl)
theorem is_all_TooMany {es : List (Str × PyData)} : gIsC [("InvalidSaying", true), ("InvalidIndex", true), ("DeskFull", true), ("TooMany", true), ("Refuted", true), ("InvalidText", true)] [.dict (objL "TooMany" es)] = some (.fz (.bool true)) := isO (by rfl)
theorem is_all_Refuted {es : List (Str × PyData)} : gIsC [("InvalidSaying", true), ("InvalidIndex", true), ("DeskFull", true), ("TooMany", true), ("Refuted", true), ("InvalidText", true)] [.dict (objL "Refuted" es)] = some (.fz (.bool true)) := isO (by rfl)
theorem is_all_InvalidText {es : List (Str × PyData)} : gIsC [("InvalidSaying", true), ("InvalidIndex", true), ("DeskFull", true), ("TooMany", true), ("Refuted", true), ("InvalidText", true)] [.dict (objL "InvalidText" es)] = some (.fz (.bool true)) := isO (by rfl)
theorem is_InvalidSaying_InvalidSaying {es : List (Str × PyData)} : gIsC [("InvalidSaying", true), ("InvalidIndex", false), ("DeskFull", false), ("TooMany", false), ("Refuted", false), ("InvalidText", false)] [.dict (objL "InvalidSaying" es)] = some (.fz (.bool true)) := isO (by rfl)
theorem is_InvalidSaying_InvalidIndex {es : List (Str × PyData)} : gIsC [("InvalidSaying", true), ("InvalidIndex", false), ("DeskFull", false), ("TooMany", false), ("Refuted", false), ("InvalidText", false)] [.dict (objL "InvalidIndex" es)] = some (.fz (.bool false)) := isO (by rfl)
theorem is_InvalidSaying_DeskFull {es : List (Str × PyData)} : gIsC [("InvalidSaying", true), ("InvalidIndex", false), ("DeskFull", false), ("TooMany", false), ("Refuted", false), ("InvalidText", false)] [.dict (objL "DeskFull" es)] = some (.fz (.bool false)) := isO (by rfl)
theorem is_InvalidSaying_TooMany {es : List (Str × PyData)} : gIsC [("InvalidSaying", true), ("InvalidIndex", false), ("DeskFull", false), ("TooMany", false), ("Refuted", false), ("InvalidText", false)] [.dict (objL "TooMany" es)] = some (.fz (.bool false)) := isO (by rfl)
theorem is_InvalidSaying_Refuted {es : List (Str × PyData)} : gIsC [("InvalidSaying", true), ("InvalidIndex", false), ("DeskFull", false), ("TooMany", false), ("Refuted", false), ("InvalidText", false)] [.dict (objL "Refuted" es)] = some (.fz (.bool false)) := isO (by rfl)
theorem is_InvalidSaying_InvalidText {es : List (Str × PyData)} : gIsC [("InvalidSaying", true), ("InvalidIndex", false), ("DeskFull", false), ("TooMany", false), ("Refuted", false), ("InvalidText", false)] [.dict (objL "InvalidText" es)] = some (.fz (.bool false)) := isO (by rfl)
theorem is_InvalidIndex_InvalidSaying {es : List (Str × PyData)} : gIsC [("InvalidSaying", false), ("InvalidIndex", true), ("DeskFull", false), ("TooMany", false), ("Refuted", false), ("InvalidText", false)] [.dict (objL "InvalidSaying" es)] = some (.fz (.bool false)) := isO (by rfl)
theorem is_InvalidIndex_InvalidIndex {es : List (Str × PyData)} : gIsC [("InvalidSaying", false), ("InvalidIndex", true), ("DeskFull", false), ("TooMany", false), ("Refuted", false), ("InvalidText", false)] [.dict (objL "InvalidIndex" es)] = some (.fz (.bool true)) := isO (by rfl)
theorem is_InvalidIndex_DeskFull {es : List (Str × PyData)} : gIsC [("InvalidSaying", false), ("InvalidIndex", true), ("DeskFull", false), ("TooMany", false), ("Refuted", false), ("InvalidText", false)] [.dict (objL "DeskFull" es)] = some (.fz (.bool false)) := isO (by rfl)
theorem is_InvalidIndex_TooMany {es : List (Str × PyData)} : gIsC [("InvalidSaying", false), ("InvalidIndex", true), ("DeskFull", false), ("TooMany", false), ("Refuted", false), ("InvalidText", false)] [.dict (objL "TooMany" es)] = some (.fz (.bool false)) := isO (by rfl)
theorem is_InvalidIndex_Refuted {es : List (Str × PyData)} : gIsC [("InvalidSaying", false), ("InvalidIndex", true), ("DeskFull", false), ("TooMany", false), ("Refuted", false), ("InvalidText", false)] [.dict (objL "Refuted" es)] = some (.fz (.bool false)) := isO (by rfl)
theorem is_InvalidIndex_InvalidText {es : List (Str × PyData)} : gIsC [("InvalidSaying", false), ("InvalidIndex", true), ("DeskFull", false), ("TooMany", false), ("Refuted", false), ("InvalidText", false)] [.dict (objL "InvalidText" es)] = some (.fz (.bool false)) := isO (by rfl)
theorem is_DeskFull_InvalidSaying {es : List (Str × PyData)} : gIsC [("InvalidSaying", false), ("InvalidIndex", false), ("DeskFull", true), ("TooMany", false), ("Refuted", false), ("InvalidText", false)] [.dict (objL "InvalidSaying" es)] = some (.fz (.bool false)) := isO (by rfl)
theorem is_DeskFull_InvalidIndex {es : List (Str × PyData)} : gIsC [("InvalidSaying", false), ("InvalidIndex", false), ("DeskFull", true), ("TooMany", false), ("Refuted", false), ("InvalidText", false)] [.dict (objL "InvalidIndex" es)] = some (.fz (.bool false)) := isO (by rfl)
theorem is_DeskFull_DeskFull {es : List (Str × PyData)} : gIsC [("InvalidSaying", false), ("InvalidIndex", false), ("DeskFull", true), ("TooMany", false), ("Refuted", false), ("InvalidText", false)] [.dict (objL "DeskFull" es)] = some (.fz (.bool true)) := isO (by rfl)
theorem is_DeskFull_TooMany {es : List (Str × PyData)} : gIsC [("InvalidSaying", false), ("InvalidIndex", false), ("DeskFull", true), ("TooMany", false), ("Refuted", false), ("InvalidText", false)] [.dict (objL "TooMany" es)] = some (.fz (.bool false)) := isO (by rfl)
theorem is_DeskFull_Refuted {es : List (Str × PyData)} : gIsC [("InvalidSaying", false), ("InvalidIndex", false), ("DeskFull", true), ("TooMany", false), ("Refuted", false), ("InvalidText", false)] [.dict (objL "Refuted" es)] = some (.fz (.bool false)) := isO (by rfl)
theorem is_DeskFull_InvalidText {es : List (Str × PyData)} : gIsC [("InvalidSaying", false), ("InvalidIndex", false), ("DeskFull", true), ("TooMany", false), ("Refuted", false), ("InvalidText", false)] [.dict (objL "InvalidText" es)] = some (.fz (.bool false)) := isO (by rfl)
theorem is_TooMany_InvalidSaying {es : List (Str × PyData)} : gIsC [("InvalidSaying", false), ("InvalidIndex", false), ("DeskFull", false), ("TooMany", true), ("Refuted", false), ("InvalidText", false)] [.dict (objL "InvalidSaying" es)] = some (.fz (.bool false)) := isO (by rfl)
theorem is_TooMany_InvalidIndex {es : List (Str × PyData)} : gIsC [("InvalidSaying", false), ("InvalidIndex", false), ("DeskFull", false), ("TooMany", true), ("Refuted", false), ("InvalidText", false)] [.dict (objL "InvalidIndex" es)] = some (.fz (.bool false)) := isO (by rfl)
theorem is_TooMany_DeskFull {es : List (Str × PyData)} : gIsC [("InvalidSaying", false), ("InvalidIndex", false), ("DeskFull", false), ("TooMany", true), ("Refuted", false), ("InvalidText", false)] [.dict (objL "DeskFull" es)] = some (.fz (.bool false)) := isO (by rfl)
theorem is_TooMany_TooMany {es : List (Str × PyData)} : gIsC [("InvalidSaying", false), ("InvalidIndex", false), ("DeskFull", false), ("TooMany", true), ("Refuted", false), ("InvalidText", false)] [.dict (objL "TooMany" es)] = some (.fz (.bool true)) := isO (by rfl)
theorem is_TooMany_Refuted {es : List (Str × PyData)} : gIsC [("InvalidSaying", false), ("InvalidIndex", false), ("DeskFull", false), ("TooMany", true), ("Refuted", false), ("InvalidText", false)] [.dict (objL "Refuted" es)] = some (.fz (.bool false)) := isO (by rfl)
theorem is_TooMany_InvalidText {es : List (Str × PyData)} : gIsC [("InvalidSaying", false), ("InvalidIndex", false), ("DeskFull", false), ("TooMany", true), ("Refuted", false), ("InvalidText", false)] [.dict (objL "InvalidText" es)] = some (.fz (.bool false)) := isO (by rfl)
theorem is_Refuted_InvalidSaying {es : List (Str × PyData)} : gIsC [("InvalidSaying", false), ("InvalidIndex", false), ("DeskFull", false), ("TooMany", false), ("Refuted", true), ("InvalidText", false)] [.dict (objL "InvalidSaying" es)] = some (.fz (.bool false)) := isO (by rfl)
theorem is_Refuted_InvalidIndex {es : List (Str × PyData)} : gIsC [("InvalidSaying", false), ("InvalidIndex", false), ("DeskFull", false), ("TooMany", false), ("Refuted", true), ("InvalidText", false)] [.dict (objL "InvalidIndex" es)] = some (.fz (.bool false)) := isO (by rfl)
theorem is_Refuted_DeskFull {es : List (Str × PyData)} : gIsC [("InvalidSaying", false), ("InvalidIndex", false), ("DeskFull", false), ("TooMany", false), ("Refuted", true), ("InvalidText", false)] [.dict (objL "DeskFull" es)] = some (.fz (.bool false)) := isO (by rfl)
theorem is_Refuted_TooMany {es : List (Str × PyData)} : gIsC [("InvalidSaying", false), ("InvalidIndex", false), ("DeskFull", false), ("TooMany", false), ("Refuted", true), ("InvalidText", false)] [.dict (objL "TooMany" es)] = some (.fz (.bool false)) := isO (by rfl)
theorem is_Refuted_Refuted {es : List (Str × PyData)} : gIsC [("InvalidSaying", false), ("InvalidIndex", false), ("DeskFull", false), ("TooMany", false), ("Refuted", true), ("InvalidText", false)] [.dict (objL "Refuted" es)] = some (.fz (.bool true)) := isO (by rfl)
theorem is_Refuted_InvalidText {es : List (Str × PyData)} : gIsC [("InvalidSaying", false), ("InvalidIndex", false), ("DeskFull", false), ("TooMany", false), ("Refuted", true), ("InvalidText", false)] [.dict (objL "InvalidText" es)] = some (.fz (.bool false)) := isO (by rfl)
theorem is_InvalidText_InvalidSaying {es : List (Str × PyData)} : gIsC [("InvalidSaying", false), ("InvalidIndex", false), ("DeskFull", false), ("TooMany", false), ("Refuted", false), ("InvalidText", true)] [.dict (objL "InvalidSaying" es)] = some (.fz (.bool false)) := isO (by rfl)
theorem is_InvalidText_InvalidIndex {es : List (Str × PyData)} : gIsC [("InvalidSaying", false), ("InvalidIndex", false), ("DeskFull", false), ("TooMany", false), ("Refuted", false), ("InvalidText", true)] [.dict (objL "InvalidIndex" es)] = some (.fz (.bool false)) := isO (by rfl)
theorem is_InvalidText_DeskFull {es : List (Str × PyData)} : gIsC [("InvalidSaying", false), ("InvalidIndex", false), ("DeskFull", false), ("TooMany", false), ("Refuted", false), ("InvalidText", true)] [.dict (objL "DeskFull" es)] = some (.fz (.bool false)) := isO (by rfl)
theorem is_InvalidText_TooMany {es : List (Str × PyData)} : gIsC [("InvalidSaying", false), ("InvalidIndex", false), ("DeskFull", false), ("TooMany", false), ("Refuted", false), ("InvalidText", true)] [.dict (objL "TooMany" es)] = some (.fz (.bool false)) := isO (by rfl)
theorem is_InvalidText_Refuted {es : List (Str × PyData)} : gIsC [("InvalidSaying", false), ("InvalidIndex", false), ("DeskFull", false), ("TooMany", false), ("Refuted", false), ("InvalidText", true)] [.dict (objL "Refuted" es)] = some (.fz (.bool false)) := isO (by rfl)
theorem is_InvalidText_InvalidText {es : List (Str × PyData)} : gIsC [("InvalidSaying", false), ("InvalidIndex", false), ("DeskFull", false), ("TooMany", false), ("Refuted", false), ("InvalidText", true)] [.dict (objL "InvalidText" es)] = some (.fz (.bool true)) := isO (by rfl)
theorem ne_0 : gNe [.list [.bool true, .bool false, .bool false, .bool false, .bool false, .bool false], .list [.bool true, .bool false, .bool false, .bool false, .bool false, .bool false]] = some (.fz (.bool false)) := by rfl
theorem ne_1 : gNe [.list [.bool false, .bool true, .bool false, .bool false, .bool false, .bool false], .list [.bool false, .bool true, .bool false, .bool false, .bool false, .bool false]] = some (.fz (.bool false)) := by rfl
theorem ne_2 : gNe [.list [.bool false, .bool false, .bool true, .bool false, .bool false, .bool false], .list [.bool false, .bool false, .bool true, .bool false, .bool false, .bool false]] = some (.fz (.bool false)) := by rfl
theorem ne_3 : gNe [.list [.bool false, .bool false, .bool false, .bool true, .bool false, .bool false], .list [.bool false, .bool false, .bool false, .bool true, .bool false, .bool false]] = some (.fz (.bool false)) := by rfl
theorem ne_4 : gNe [.list [.bool false, .bool false, .bool false, .bool false, .bool true, .bool false], .list [.bool false, .bool false, .bool false, .bool false, .bool true, .bool false]] = some (.fz (.bool false)) := by rfl
theorem ne_5 : gNe [.list [.bool false, .bool false, .bool false, .bool false, .bool false, .bool true], .list [.bool false, .bool false, .bool false, .bool false, .bool false, .bool true]] = some (.fz (.bool false)) := by rfl
end My

set_option Elab.async false
set_option linter.all false
set_option maxRecDepth 100000
set_option maxHeartbeats 8000000
/-! the law of errors made by hand -/
namespace My
open PySem L2 PyProof.Rows Vw

abbrev S15 : List PyData := [.none, .bool true, .bool false, .int 0, .int 1, .int (-1), .int 100000000000000000000000000000000000000000000000000, .str "", .str "a", .tuple [], .list [], .dict [], .tuple [.int 0], .list [.int 0], .tuple [.tuple [.int 0, .int 1], .str "<", .int 5]]
abbrev A6 : List PyData := [.int 0, .int 1, .int 7, .int 8, .int 18, .int 100000000000000000000]
abbrev B6 : List PyData := [.int 0, .int 1, .int 7, .int 8, .int 20, .int 100000000000000000000]
theorem p50 : gPow [.int 10, .int 50] = some (.fz (.int 100000000000000000000000000000000000000000000000000)) := by rfl
theorem p20 : gPow [.int 10, .int 20] = some (.fz (.int 100000000000000000000)) := by rfl
theorem vlS : ∀ d ∈ S15, Vl 500 5 d := by
  intro d hd
  simp only [S15, List.mem_cons, List.not_mem_nil, or_false] at hd
  rcases hd with rfl | rfl | rfl | rfl | rfl | rfl | rfl | rfl | rfl | rfl | rfl | rfl | rfl | rfl | rfl <;> (refine ⟨?_, ?_, ?_⟩ <;> decide +kernel)
theorem vlA : ∀ d ∈ A6, Vl 500 5 d := by
  intro d hd
  simp only [A6, List.mem_cons, List.not_mem_nil, or_false] at hd
  rcases hd with rfl | rfl | rfl | rfl | rfl | rfl <;> (refine ⟨?_, ?_, ?_⟩ <;> decide +kernel)
theorem vlB : ∀ d ∈ B6, Vl 500 5 d := by
  intro d hd
  simp only [B6, List.mem_cons, List.not_mem_nil, or_false] at hd
  rcases hd with rfl | rfl | rfl | rfl | rfl | rfl <;> (refine ⟨?_, ?_, ?_⟩ <;> decide +kernel)
noncomputable def bodyL : SM := sSeq (sSet 3 (eFn gLst' [(.val (eC .none)), (.val (eC (.bool true))), (.val (eC (.bool false))), (.val (eC (.int 0))), (.val (eC (.int 1))), (.val (eFn gNeg [(.val (eC (.int 1)))])), (.val (eFn gPow [(.val (eC (.int 10))), (.val (eC (.int 50)))])), (.val (eC (.str ""))), (.val (eC (.str "a"))), (.val (eFn gTup' [])), (.val (eFn gLst' [])), (.val (eDict0)), (.val (eFn gTup' [(.val (eC (.int 0)))])), (.val (eFn gLst' [(.val (eC (.int 0)))])), (.val (eFn gTup' [(.val (eFn gTup' [(.val (eC (.int 0))), (.val (eC (.int 1)))])), (.val (eC (.str "<"))), (.val (eC (.int 5)))]))])) (sSeq (sSet 4 (eFn gLst' [(.val (eCall f__law_one_of [(.bor 1), (.val (eName 3))])), (.val (eCall f__law_one_of [(.bor 1), (.val (eName 3))])), (.val (eCall f__law_one_of [(.bor 1), (.val (eFn gLst' [(.val (eC (.int 0))), (.val (eC (.int 1))), (.val (eC (.int 7))), (.val (eC (.int 8))), (.val (eC (.int 18))), (.val (eFn gPow [(.val (eC (.int 10))), (.val (eC (.int 20)))]))]))]))])) (sSeq (sSet 5 (eFn gLst' [(.val (eFn gTup' [(.val (eFn gTup' [(.val (eC (.int 0))), (.val (eC (.int 1)))])), (.val (eFn gTup' [(.val (eC (.str "under"))), (.val (eCall f__law_take [(.bor 1), (.val (eC (.int 9)))]))]))])), (.val (eFn gTup' [(.val (eFn gAdd [(.val (eCall f__law_take [(.bor 1), (.val (eC (.int 9)))])), (.val (eC (.int 1)))])), (.val (eFn gTup' [(.val (eC (.str "year"))), (.val (eC (.int 20)))]))]))])) (sSeq (sSet 4 (eFn gAdd [(.bor 4), (.val (eFn gLst' [(.val (eSl (.bor 5) none (some (eFn gAdd [(.val (eC (.int 1))), (.val (eCall f__law_take [(.bor 1), (.val (eC (.int 2)))]))])))), (.val (eCall f__law_one_of [(.bor 1), (.val (eFn gLst' [(.val (eC (.int 0))), (.val (eC (.int 1))), (.val (eC (.int 7))), (.val (eC (.int 8))), (.val (eC (.int 20))), (.val (eFn gPow [(.val (eC (.int 10))), (.val (eC (.int 20)))]))]))]))]))])) (sSeq (sSet 6 (eFn gRepr [(.bor 4)])) (sSeq (sSet 7 (eFn gLst' [(.val (eFn (gErr "InvalidSaying" ["saying"]) [(.val (eFn gIxA [(.bor 4), (.val (eC (.int 0)))]))])), (.val (eFn (gErr "InvalidIndex" ["index"]) [(.val (eFn gIxA [(.bor 4), (.val (eC (.int 1)))]))])), (.val (eFn (gErr "DeskFull" ["limit"]) [(.val (eFn gIxA [(.bor 4), (.val (eC (.int 2)))]))])), (.val (eFn (gErr "Refuted" ["refutation"]) [(.val (eFn gIxA [(.bor 4), (.val (eC (.int 3)))]))]))])) (sSeq (sSet 7 (eFn gAdd [(.bor 7), (.val (eFn gLst' [(.val (eFn (gErr "TooMany" ["limit"]) [(.val (eFn gIxA [(.bor 4), (.val (eC (.int 4)))]))])), (.val (eFn (gErr0 "InvalidText") [(.val (eC (.str "a text")))]))]))])) (sSeq (sFor (jArgs fEnumT [(.val (eName 7))]) (gT (gsCons (gN 9) (gsCons (gN 10) (gsNil)))) (sSeq (sIf (bOr (bNot (bOf (eFn (gIsC [("InvalidSaying", true), ("InvalidIndex", true), ("DeskFull", true), ("TooMany", true), ("Refuted", true), ("InvalidText", true)]) [(.bor 10)]))) (bNot (bOf (eFn (gIsC [("InvalidSaying", true), ("InvalidIndex", true), ("DeskFull", true), ("TooMany", true), ("Refuted", true), ("InvalidText", true)]) [(.bor 10)])))) (sRet (eC (.bool false))) (sNil)) (sSeq (sSet 11 (eFn gLst' [(.val (eFn (gIsC [("InvalidSaying", true), ("InvalidIndex", false), ("DeskFull", false), ("TooMany", false), ("Refuted", false), ("InvalidText", false)]) [(.bor 10)])), (.val (eFn (gIsC [("InvalidSaying", false), ("InvalidIndex", true), ("DeskFull", false), ("TooMany", false), ("Refuted", false), ("InvalidText", false)]) [(.bor 10)])), (.val (eFn (gIsC [("InvalidSaying", false), ("InvalidIndex", false), ("DeskFull", true), ("TooMany", false), ("Refuted", false), ("InvalidText", false)]) [(.bor 10)]))])) (sSeq (sSet 11 (eFn gAdd [(.bor 11), (.val (eFn gLst' [(.val (eFn (gIsC [("InvalidSaying", false), ("InvalidIndex", false), ("DeskFull", false), ("TooMany", false), ("Refuted", true), ("InvalidText", false)]) [(.bor 10)])), (.val (eFn (gIsC [("InvalidSaying", false), ("InvalidIndex", false), ("DeskFull", false), ("TooMany", true), ("Refuted", false), ("InvalidText", false)]) [(.bor 10)])), (.val (eFn (gIsC [("InvalidSaying", false), ("InvalidIndex", false), ("DeskFull", false), ("TooMany", false), ("Refuted", false), ("InvalidText", true)]) [(.bor 10)]))]))])) (sIf (bOf (eFn gNe [(.bor 11), (.val (eLc (jArgs fRng1 [(.val (eC (.int 6)))]) (gN 12) (bYes) (eFn gEq [(.bor 12), (.bor 9)]) [12]))])) (sRet (eC (.bool false))) (sNil)))))) (sSeq (sSet 8 (eFn gLst' [(.val (eFn (gFld "saying") [(.val (eFn gIxA [(.bor 7), (.val (eC (.int 0)))]))])), (.val (eFn (gFld "index") [(.val (eFn gIxA [(.bor 7), (.val (eC (.int 1)))]))])), (.val (eFn (gFld "limit") [(.val (eFn gIxA [(.bor 7), (.val (eC (.int 2)))]))])), (.val (eFn (gFld "refutation") [(.val (eFn gIxA [(.bor 7), (.val (eC (.int 3)))]))])), (.val (eFn (gFld "limit") [(.val (eFn gIxA [(.bor 7), (.val (eC (.int 4)))]))]))])) (sIf (bOr (bOf (eFn gNe [(.val (eFn gRepr [(.bor 8)])), (.bor 6)])) (bOf (eFn gNe [(.val (eFn gRepr [(.bor 4)])), (.bor 6)]))) (sRet (eC (.bool false))) (sNil))))))))))
theorem law_eq : m_law = sSeq (sFor (jArgs fRng1 [(.val (eC (.int 4)))]) (gN 2) (bodyL)) (sRet (eC (.bool true))) := rfl

theorem vl_small {y : Int} (h0 : 0 ≤ y) (h1 : y ≤ 100) : Vl 8 0 (.int y) := by
  have hl : y.natAbs.log2 < 7 := log_le (by omega) (by decide)
  refine ⟨by rw [niceD]; exact decide_eq_true (by omega), ?_, by simp [PyData.depth]⟩
  rw [PyData.weight]
  split <;> omega
theorem vl_str {z : Str} (h : Vl 20 0 (.str z)) : Vl 20 0 (.str z) := h
theorem line_vl {x y z : PyData} {w : Str} (hx : Vl 100 1 x) (hw : Vl 20 0 (.str w)) (hy : Vl 20 0 y) : Vl 400 5 (.tuple [x, .tuple [.str w, y]]) := by
  have h1 : Vl 42 1 (.tuple [.str w, y]) := Vl.mono (vl_tup (w := 20) (k := 0) (ds := [.str w, y]) fun d hd => by
    simp only [List.mem_cons, List.not_mem_nil, or_false] at hd
    rcases hd with rfl | rfl
    · exact hw
    · exact hy) (by simp) (by decide)
  exact Vl.mono (vl_tup (w := 100) (k := 1) (ds := [x, .tuple [.str w, y]]) fun d hd => by
    simp only [List.mem_cons, List.not_mem_nil, or_false] at hd
    rcases hd with rfl | rfl
    · exact hx
    · exact Vl.mono h1 (by decide) (by decide)) (by simp) (by decide)
theorem body_ok {b : Int} {p : PyData} (h : PenAt b p) (hb : b + 10000 ≤ 2147483648) {s0 s2 s3 s4 s5 s6 s7 s8 s9 s10 s11 : Sl} (q3 : Pw s3) (q4 : Pw s4) (q5 : Pw s5) (q6 : Pw s6) (q7 : Pw s7) (q8 : Pw s8) (q9 : Pw s9) (q10 : Pw s10) (q11 : Pw s11) :
    ∃ (p' d3 d4 d5 d6 d7 d8 d9 d10 d11 : PyData), PenAt (b + 5000) p' ∧ bodyL [s0, .ow p, s2, s3, s4, s5, s6, s7, s8, s9, s10, s11, .un] = some (.nx [s0, .ow p', s2, .fz d3, .ow d4, .ow d5, .fz d6, .fz d7, .ow d8, .fz d9, .fz d10, .ow d11, .un]) := by
  obtain ⟨p1, v0, e1, m0, h1⟩ := one_at h (by omega) S15 (by decide) (by decide)
  obtain ⟨p2, v1, e2, m1, h2⟩ := one_at h1 (by omega) S15 (by decide) (by decide)
  obtain ⟨p3, v2, e3, m2, h3⟩ := one_at h2 (by omega) A6 (by decide) (by decide)
  obtain ⟨p4, x, e4, x0, x1, h4⟩ := take_at h3 (by omega) 9 (by decide) (by decide)
  obtain ⟨p5, y, e5, y0, y1, h5⟩ := take_at h4 (by omega) 9 (by decide) (by decide)
  obtain ⟨p6, z, e6, z0, z1, h6⟩ := take_at h5 (by omega) 2 (by decide) (by decide)
  obtain ⟨p7, v4, e7, m4, h7⟩ := one_at h6 (by omega) B6 (by decide) (by decide)
  have V0 := vlS v0 m0
  have V1 := vlS v1 m1
  have V2 := vlA v2 m2
  have V4 := vlB v4 m4
  have l0 : Vl 400 5 (.tuple [.tuple [.int 0, .int 1], .tuple [.str "under", .int x]]) := line_vl (z := .none) (by refine ⟨?_, ?_, ?_⟩ <;> decide +kernel) (by refine ⟨?_, ?_, ?_⟩ <;> decide +kernel) (Vl.mono (vl_small x0 (by omega)) (by decide) (by decide))
  have l1 : Vl 400 5 (.tuple [.int (y + 1), .tuple [.str "year", .int 20]]) := line_vl (z := .none) (Vl.mono (vl_small (by omega) (by omega)) (by decide) (by decide)) (by refine ⟨?_, ?_, ?_⟩ <;> decide +kernel) (by refine ⟨?_, ?_, ?_⟩ <;> decide +kernel)
  have hc : gCut none (some (1 + z)) (.list [.tuple [.tuple [.int 0, .int 1], .tuple [.str "under", .int x]], .tuple [.int (y + 1), .tuple [.str "year", .int 20]]]) = some (.ow (.list (cutD [.tuple [.tuple [.int 0, .int 1], .tuple [.str "under", .int x]], .tuple [.int (y + 1), .tuple [.str "year", .int 20]]] none (some (1 + z))))) := gCut_l
  have VL : Vl 1000 6 (.list (cutD [.tuple [.tuple [.int 0, .int 1], .tuple [.str "under", .int x]], .tuple [.int (y + 1), .tuple [.str "year", .int 20]]] none (some (1 + z)))) := by
    have hm := vl_list (w := 400) (k := 5) (ds := cutD [.tuple [.tuple [.int 0, .int 1], .tuple [.str "under", .int x]], .tuple [.int (y + 1), .tuple [.str "year", .int 20]]] none (some (1 + z))) fun d hd => by
      have hd := cut_mem hd
      simp only [List.mem_cons, List.not_mem_nil, or_false] at hd
      rcases hd with rfl | rfl
      · exact l0
      · exact l1
    have hl := cut_len (α := PyData) [.tuple [.tuple [.int 0, .int 1], .tuple [.str "under", .int x]], .tuple [.int (y + 1), .tuple [.str "year", .int 20]]] none (some (1 + z))
    simp only [List.length_cons, List.length_nil] at hl
    exact Vl.mono hm (by omega) (by decide)
  generalize hL : PyData.list (cutD [.tuple [.tuple [.int 0, .int 1], .tuple [.str "under", .int x]], .tuple [.int (y + 1), .tuple [.str "year", .int 20]]] none (some (1 + z))) = L at hc VL
  have er : gRepr [.list [v0, v1, v2, L, v4]] = some (.fz (.str (PyData.list [v0, v1, v2, L, v4]).shown)) := Vl.repr (Vl.mono (vl_list (w := 1000) (k := 6) (ds := [v0, v1, v2, L, v4]) fun d hd => by
    simp only [List.mem_cons, List.not_mem_nil, or_false] at hd
    rcases hd with rfl | rfl | rfl | rfl | rfl
    · exact Vl.mono V0 (by decide) (by decide)
    · exact Vl.mono V1 (by decide) (by decide)
    · exact Vl.mono V2 (by decide) (by decide)
    · exact VL
    · exact Vl.mono V4 (by decide) (by decide)) (by simp) (by decide))
  generalize (PyData.list [v0, v1, v2, L, v4]).shown = sh at er
  have en : gNe [.str sh, .str sh] = some (.fz (.bool false)) := by rw [neS, beq_self_eq_true]; rfl
  refine ⟨p7, .list S15, .list [v0, v1, v2, L, v4], .list [.tuple [.tuple [.int 0, .int 1], .tuple [.str "under", .int x]], .tuple [.int (y + 1), .tuple [.str "year", .int 20]]], .str sh, .list [.dict (objL "InvalidSaying" [("saying", v0)]), .dict (objL "InvalidIndex" [("index", v1)]), .dict (objL "DeskFull" [("limit", v2)]), .dict (objL "Refuted" [("refutation", L)]), .dict (objL "TooMany" [("limit", v4)]), .dict (objL "InvalidText" [])], .list [v0, v1, v2, L, v4], .int 5, .dict (objL "InvalidText" []), .list [.bool false, .bool false, .bool false, .bool false, .bool false, .bool true], h7.mono (by omega), ?_⟩
  simp only [bodyL, Vw.eName_k, Vw.nameK_f, Vw.nameK_o, Vw.eMove_k, Vw.moveK_f, Vw.moveK_o, Vw.eC_k, Vw.pre_val, Vw.pvK_f, Vw.pvK_o, Vw.pre_bor, Vw.pbK_f, Vw.pbK_o, Vw.pbK_i, Vw.pres_n, Vw.pres_c, Vw.pcK_s, Vw.pcK2_s, Vw.fin_s, Vw.fin_b, Vw.fbK_o, Vw.fbK_i, Vw.fins_n, Vw.fins_c, Vw.fcK_s, Vw.eFn_k, Vw.fnK_s, Vw.fnK2_s, Vw.fnK3_s, Vw.apart_n, Vw.apart_v, Vw.apart_b, Vw.noSl_n, Vw.noSl_v, Vw.ioOk_n, Vw.ioOk_v, Vw.ioOk_b, Vw.outs_n, Vw.outs_v, Vw.outs_b, Vw.outK_o, Vw.outK_i, Vw.eCall_k, Vw.callK_s, Vw.callK2_s, Vw.callK3_s, Vw.callK4_s, Vw.bOf_k, Vw.bofK_s, Vw.bAnd_k, Vw.bandK_t, Vw.bandK_f, Vw.bOr_k, Vw.borK_t, Vw.borK_f, Vw.bNot_k, Vw.bnotK_s, Vw.bYes_k, Vw.bTru_k, Vw.btruK0_s, Vw.btruK_i, Vw.btruK_b, Vw.btruK_l, Vw.btruK_t, Vw.btruK_n, Vw.eAnd_k, Vw.eandK_t, Vw.eandK_f, Vw.eOr_k, Vw.eorK_t, Vw.eorK_f, Vw.eNot_k, Vw.enotK_s, Vw.eIf_k, Vw.eifK_t, Vw.eifK_f, Vw.sSeq_k, Vw.seqK_n, Vw.seqK_r, Vw.seqK_b, Vw.seqK_c, Vw.sIf_k, Vw.ifK_t, Vw.ifK_f, Vw.sNil_k, Vw.sBreak_k, Vw.sCont_k, Vw.sRetN_k, Vw.sRet_k, Vw.rtK_s, Vw.sDrop_k, Vw.drK_s, Vw.sSet_k, Vw.setK_s, Vw.setK2_s, Vw.put_k, Vw.putK_u, Vw.putK_f, Vw.putK_o, Vw.sPar_k, Vw.parK_s, Vw.parK2_s, Vw.parK3_s, Vw.sTup_k, Vw.tupK_f, Vw.tupK_o, Vw.gN_k, Vw.gT_k, Vw.gsCons_k, Vw.gsK_s, Vw.gsNil_k, Vw.sFor_k, Vw.forK_s, Vw.jVal_k, Vw.jvK_fl, Vw.jvK_ft, Vw.jvK_ol, Vw.jArgs_k, Vw.jaK_s, Vw.jaK2_s, Vw.jaK3_s, Vw.eLc_k, Vw.lcK_s, Vw.lcK2_s, Vw.partM_n, Vw.partM_s, Vw.pmK_s, Vw.eSl_k, Vw.slK_s, Vw.slK2_s, Vw.slK3_s, Vw.slK4_s, Vw.gCut_l, Vw.gCut_t, Vw.own_k, Vw.ownK_o, Vw.ownK_i, Vw.setOwn_k, Vw.soK_o, Vw.soK_i, Vw.eMut_k, Vw.mutK_s, Vw.mutK1_s, Vw.mutK2_s, Vw.mutK3_s, Vw.ioOut_n, Vw.ioOut_f, Vw.ioOut_t, Vw.ioK_s, Vw.fnM_k, Vw.fnMK_t, Vw.retK_r, Vw.retK_n, Vw.retK2_s, Vw.initR_n, Vw.initR_f, Vw.initR_t, Vw.pAll_n, Vw.pAll_c, Vw.paK_s, Vw.pName_k, Vw.pnK_f, Vw.pnK_o, Vw.pnK_i, Vw.pC_k, Vw.pFn_k, Vw.pfK_s, Vw.pfK2_f, Vw.pfK2_o, Vw.pCall_k, Vw.pcaK_s, Vw.pcaK2_f, Vw.pcaK2_o, Vw.ePure_k, Vw.epK_b, Vw.eDict0_k, Vw.eRng_k, Vw.plainS_n, Vw.plainS_c, Vw.plK_f, Vw.plK_u, Vw.wipeR_n, Vw.wipeR_c, Vw.backR_n, Vw.backR_c, Vw.lcM_n, Vw.lcM_c, Vw.lmK_s, Vw.lmK1_s, Vw.lmK2_t, Vw.lmK2_f, Vw.lmK3_f, Vw.lmK3_o, Vw.lmK4_s, Vw.forM_n, Vw.forM_c, Vw.fmK1_s, Vw.fmK2_n, Vw.fmK2_c, Vw.fmK2_b, Vw.fmK2_r, Vw.isa_tup_t, Vw.isa_tup_n, Vw.isa_tup_i, Vw.isa_tup_b, Vw.isa_tup_s, Vw.isa_tup_l, Vw.isa_tup_d, Vw.isa_int_t, Vw.isa_int_n, Vw.isa_int_i, Vw.isa_int_b, Vw.isa_int_s, Vw.isa_int_l, Vw.isa_int_d, Vw.isa_boo_t, Vw.isa_boo_n, Vw.isa_boo_i, Vw.isa_boo_b, Vw.isa_boo_s, Vw.isa_boo_l, Vw.isa_boo_d, Vw.isa_str_t, Vw.isa_str_n, Vw.isa_str_i, Vw.isa_str_b, Vw.isa_str_s, Vw.isa_str_l, Vw.isa_str_d, Vw.len_t, Vw.len_l, Vw.ix_t0, Vw.ix_t1, Vw.ix_t2, Vw.ix_l0, Vw.ix_l1, Vw.ix_l2, Vw.app_k, Vw.cast_k, Vw.sub_k, Vw.neg_k, Vw.ge_k, Vw.isN_k, Vw.notN_k, Vw.isNone_n, Vw.isNone_t, Vw.isNone_l, Vw.isNone_i, Vw.tuple_l, Vw.tuple_t, Vw.list_l, Vw.list_t, Vw.rev_l, Vw.rev_t, Vw.min_k, Vw.eqE_t, Vw.isB_k, Vw.ixA_l, Vw.ixA_t, Vw.ixA_s, Vw.ixA_d, Vw.inA_l, Vw.inA_t, Vw.inA_s, Vw.inA_d, Vw.notInA_l, Vw.notInA_t, Vw.notInA_s, Vw.notInA_d, Vw.listA_l, Vw.listA_t, Vw.sortedA_l, Vw.listA_d, Vw.items_d, Vw.dict0_k, Vw.plain_0, Vw.plain_i, Vw.plain_t, Vw.okK_i, Vw.okK_p, Vw.jValA_k, Vw.jvAK_fl, Vw.jvAK_ft, Vw.jvAK_ol, Vw.jvAK_fd, Vw.jvAK_od, Vw.eLc2_k, Vw.lc2K_s, Vw.lcK22_s, Vw.sSetAt_k, Vw.saK_f, Vw.saK_o, Vw.saK2_s, Vw.saK3_s, Vw.saK4_d, Vw.saK4_l, Vw.eMutD_k, Vw.mutDK_s, Vw.sPar3E_k, Vw.p3K_s, Vw.p3K1_s, Vw.p3K2_s, Vw.p3K3_s, Vw.sPar3_k, Vw.q3K_s, Vw.q3K2_s, Vw.eqI, Vw.neI, Vw.lt_ok, Vw.gt_ok, Vw.le_ok, Vw.add_ok, Vw.int_ok, Vw.max_ok, Vw.isi_ok, Vw.tup_ok, Vw.lst_ok, Vw.neS, List.getElem?_cons_zero, List.getElem?_cons_succ, List.set_cons_zero, List.set_cons_succ, List.cons_append, List.nil_append, List.replicate_succ, List.replicate_zero, List.length_cons, List.length_nil, List.getD_cons_zero, List.getD_cons_succ, Nat.reduceAdd, Nat.reduceSub, Nat.reduceLeDiff, Nat.reduceEqDiff, Nat.reduceBEq, beq_self_eq_true, Bool.not_true, Bool.not_false, Bool.and_true, Bool.true_and, Bool.false_and, Bool.and_false, Bool.or_false, Bool.false_or, Bool.true_or, Bool.or_true, bne_self_eq_false, decide_true, decide_false, Int.reduceEq, Int.reduceLT, Int.reduceLE, Int.reduceNeg, Int.reduceAdd, Int.reduceSub, Int.natCast_zero, Int.natCast_one, putK_w q3, putK_w q4, putK_w q5, putK_w q6, putK_w q7, putK_w q8, putK_w q9, putK_w q10, putK_w q11, e1, e2, e3, e4, e5, e6, e7, hc, er, en, p50, p20, err1, err0, fld1, add32, add42, add33, enum6, rng6, ix53, ix54, ix63, ix64, is_all_InvalidSaying, is_all_InvalidIndex, is_all_DeskFull, is_all_TooMany, is_all_Refuted, is_all_InvalidText, is_InvalidSaying_InvalidSaying, is_InvalidSaying_InvalidIndex, is_InvalidSaying_DeskFull, is_InvalidSaying_TooMany, is_InvalidSaying_Refuted, is_InvalidSaying_InvalidText, is_InvalidIndex_InvalidSaying, is_InvalidIndex_InvalidIndex, is_InvalidIndex_DeskFull, is_InvalidIndex_TooMany, is_InvalidIndex_Refuted, is_InvalidIndex_InvalidText, is_DeskFull_InvalidSaying, is_DeskFull_InvalidIndex, is_DeskFull_DeskFull, is_DeskFull_TooMany, is_DeskFull_Refuted, is_DeskFull_InvalidText, is_TooMany_InvalidSaying, is_TooMany_InvalidIndex, is_TooMany_DeskFull, is_TooMany_TooMany, is_TooMany_Refuted, is_TooMany_InvalidText, is_Refuted_InvalidSaying, is_Refuted_InvalidIndex, is_Refuted_DeskFull, is_Refuted_TooMany, is_Refuted_Refuted, is_Refuted_InvalidText, is_InvalidText_InvalidSaying, is_InvalidText_InvalidIndex, is_InvalidText_DeskFull, is_InvalidText_TooMany, is_InvalidText_Refuted, is_InvalidText_InvalidText, ne_0, ne_1, ne_2, ne_3, ne_4, ne_5]
end My

set_option Elab.async false
set_option linter.all false
set_option maxRecDepth 100000
set_option maxHeartbeats 4000000
namespace My
open PySem L2 PyProof.Rows Vw

theorem rng4 : fRng1 [.int 4] = some (rangeD 0 (4 : Int).toNat) := by rfl
theorem math : ∀ cs : List Int, cs.length ≤ 12 → ∃ ρ', m_law ((List.replicate 13 .un).set 1 (.ow (penD cs 0 0))) = some (.rt (.fz (.bool true)) ρ') := fun cs _ => by
  have h0 : PenAt 0 (penD cs 0 0) := ⟨cs, 0, 0, rfl, by decide, by decide⟩
  have pu : Pw .un := fun e z => by cases z
  have pf : ∀ {d : PyData}, Pw (.fz d) := fun e z => by cases z
  have po : ∀ {d : PyData}, Pw (.ow d) := fun e z => by cases z
  obtain ⟨ρ', e, p, s2, s3, s4, s5, s6, s7, s8, s9, s10, s11, hp, q2, q3, q4, q5, q6, q7, q8, q9, q10, q11, rfl⟩ := for_state (g := gN 2) (b := bodyL) 4
    (fun k ρ => ∃ p s2 s3 s4 s5 s6 s7 s8 s9 s10 s11, PenAt (5000 * (k : Nat)) p ∧ Pl s2 ∧ Pw s3 ∧ Pw s4 ∧ Pw s5 ∧ Pw s6 ∧ Pw s7 ∧ Pw s8 ∧ Pw s9 ∧ Pw s10 ∧ Pw s11 ∧ ρ = [.un, .ow p, s2, s3, s4, s5, s6, s7, s8, s9, s10, s11, .un]) (rangeD 0 (4 : Int).toNat) 0 [.un, .ow (penD cs 0 0), .un, .un, .un, .un, .un, .un, .un, .un, .un, .un, .un] (by simp [rangeD_length])
    ⟨_, .un, .un, .un, .un, .un, .un, .un, .un, .un, .un, h0.mono (by simp), Pl.un, pu, pu, pu, pu, pu, pu, pu, pu, pu, rfl⟩ fun d hd k ρ hk ⟨p, s2, s3, s4, s5, s6, s7, s8, s9, s10, s11, hp, q2, q3, q4, q5, q6, q7, q8, q9, q10, q11, e⟩ => by
      subst e
      obtain ⟨p', d3, d4, d5, d6, d7, d8, d9, d10, d11, hp', e⟩ := body_ok hp (by omega) (s0 := .un) (s2 := .fz d) q3 q4 q5 q6 q7 q8 q9 q10 q11
      exact ⟨_, _, gN_pl rfl q2, e, p', .fz d, _, _, _, _, _, _, _, _, _, hp'.mono (by omega), Pl.fz, pf, po, po, pf, pf, po, pf, pf, po, rfl⟩
  refine ⟨[.un, .ow p, s2, s3, s4, s5, s6, s7, s8, s9, s10, s11, .un], ?_⟩
  have ei : (List.replicate 13 Sl.un).set 1 (.ow (penD cs 0 0)) = [.un, .ow (penD cs 0 0), .un, .un, .un, .un, .un, .un, .un, .un, .un, .un, .un] := rfl
  rw [law_eq, ei]
  simp only [Vw.eName_k, Vw.nameK_f, Vw.nameK_o, Vw.eMove_k, Vw.moveK_f, Vw.moveK_o, Vw.eC_k, Vw.pre_val, Vw.pvK_f, Vw.pvK_o, Vw.pre_bor, Vw.pbK_f, Vw.pbK_o, Vw.pbK_i, Vw.pres_n, Vw.pres_c, Vw.pcK_s, Vw.pcK2_s, Vw.fin_s, Vw.fin_b, Vw.fbK_o, Vw.fbK_i, Vw.fins_n, Vw.fins_c, Vw.fcK_s, Vw.eFn_k, Vw.fnK_s, Vw.fnK2_s, Vw.fnK3_s, Vw.apart_n, Vw.apart_v, Vw.apart_b, Vw.noSl_n, Vw.noSl_v, Vw.ioOk_n, Vw.ioOk_v, Vw.ioOk_b, Vw.outs_n, Vw.outs_v, Vw.outs_b, Vw.outK_o, Vw.outK_i, Vw.eCall_k, Vw.callK_s, Vw.callK2_s, Vw.callK3_s, Vw.callK4_s, Vw.bOf_k, Vw.bofK_s, Vw.bAnd_k, Vw.bandK_t, Vw.bandK_f, Vw.bOr_k, Vw.borK_t, Vw.borK_f, Vw.bNot_k, Vw.bnotK_s, Vw.bYes_k, Vw.bTru_k, Vw.btruK0_s, Vw.btruK_i, Vw.btruK_b, Vw.btruK_l, Vw.btruK_t, Vw.btruK_n, Vw.eAnd_k, Vw.eandK_t, Vw.eandK_f, Vw.eOr_k, Vw.eorK_t, Vw.eorK_f, Vw.eNot_k, Vw.enotK_s, Vw.eIf_k, Vw.eifK_t, Vw.eifK_f, Vw.sSeq_k, Vw.seqK_n, Vw.seqK_r, Vw.seqK_b, Vw.seqK_c, Vw.sIf_k, Vw.ifK_t, Vw.ifK_f, Vw.sNil_k, Vw.sBreak_k, Vw.sCont_k, Vw.sRetN_k, Vw.sRet_k, Vw.rtK_s, Vw.sDrop_k, Vw.drK_s, Vw.sSet_k, Vw.setK_s, Vw.setK2_s, Vw.put_k, Vw.putK_u, Vw.putK_f, Vw.putK_o, Vw.sPar_k, Vw.parK_s, Vw.parK2_s, Vw.parK3_s, Vw.sTup_k, Vw.tupK_f, Vw.tupK_o, Vw.gN_k, Vw.gT_k, Vw.gsCons_k, Vw.gsK_s, Vw.gsNil_k, Vw.sFor_k, Vw.forK_s, Vw.jVal_k, Vw.jvK_fl, Vw.jvK_ft, Vw.jvK_ol, Vw.jArgs_k, Vw.jaK_s, Vw.jaK2_s, Vw.jaK3_s, Vw.eLc_k, Vw.lcK_s, Vw.lcK2_s, Vw.partM_n, Vw.partM_s, Vw.pmK_s, Vw.eSl_k, Vw.slK_s, Vw.slK2_s, Vw.slK3_s, Vw.slK4_s, Vw.gCut_l, Vw.gCut_t, Vw.own_k, Vw.ownK_o, Vw.ownK_i, Vw.setOwn_k, Vw.soK_o, Vw.soK_i, Vw.eMut_k, Vw.mutK_s, Vw.mutK1_s, Vw.mutK2_s, Vw.mutK3_s, Vw.ioOut_n, Vw.ioOut_f, Vw.ioOut_t, Vw.ioK_s, Vw.fnM_k, Vw.fnMK_t, Vw.retK_r, Vw.retK_n, Vw.retK2_s, Vw.initR_n, Vw.initR_f, Vw.initR_t, Vw.pAll_n, Vw.pAll_c, Vw.paK_s, Vw.pName_k, Vw.pnK_f, Vw.pnK_o, Vw.pnK_i, Vw.pC_k, Vw.pFn_k, Vw.pfK_s, Vw.pfK2_f, Vw.pfK2_o, Vw.pCall_k, Vw.pcaK_s, Vw.pcaK2_f, Vw.pcaK2_o, Vw.ePure_k, Vw.epK_b, Vw.eDict0_k, Vw.eRng_k, Vw.plainS_n, Vw.plainS_c, Vw.plK_f, Vw.plK_u, Vw.wipeR_n, Vw.wipeR_c, Vw.backR_n, Vw.backR_c, Vw.lcM_n, Vw.lmK_s, Vw.lmK1_s, Vw.lmK2_t, Vw.lmK2_f, Vw.lmK3_f, Vw.lmK3_o, Vw.lmK4_s, Vw.forM_n, Vw.fmK1_s, Vw.fmK2_n, Vw.fmK2_c, Vw.fmK2_b, Vw.fmK2_r, Vw.isa_tup_t, Vw.isa_tup_n, Vw.isa_tup_i, Vw.isa_tup_b, Vw.isa_tup_s, Vw.isa_tup_l, Vw.isa_tup_d, Vw.isa_int_t, Vw.isa_int_n, Vw.isa_int_i, Vw.isa_int_b, Vw.isa_int_s, Vw.isa_int_l, Vw.isa_int_d, Vw.isa_boo_t, Vw.isa_boo_n, Vw.isa_boo_i, Vw.isa_boo_b, Vw.isa_boo_s, Vw.isa_boo_l, Vw.isa_boo_d, Vw.isa_str_t, Vw.isa_str_n, Vw.isa_str_i, Vw.isa_str_b, Vw.isa_str_s, Vw.isa_str_l, Vw.isa_str_d, Vw.len_t, Vw.len_l, Vw.ix_t0, Vw.ix_t1, Vw.ix_t2, Vw.ix_l0, Vw.ix_l1, Vw.ix_l2, Vw.app_k, Vw.cast_k, Vw.sub_k, Vw.neg_k, Vw.ge_k, Vw.isN_k, Vw.notN_k, Vw.isNone_n, Vw.isNone_t, Vw.isNone_l, Vw.isNone_i, Vw.tuple_l, Vw.tuple_t, Vw.list_l, Vw.list_t, Vw.rev_l, Vw.rev_t, Vw.min_k, Vw.eqE_t, Vw.isB_k, Vw.ixA_l, Vw.ixA_t, Vw.ixA_s, Vw.ixA_d, Vw.inA_l, Vw.inA_t, Vw.inA_s, Vw.inA_d, Vw.notInA_l, Vw.notInA_t, Vw.notInA_s, Vw.notInA_d, Vw.listA_l, Vw.listA_t, Vw.sortedA_l, Vw.listA_d, Vw.items_d, Vw.dict0_k, Vw.plain_0, Vw.plain_i, Vw.plain_t, Vw.okK_i, Vw.okK_p, Vw.jValA_k, Vw.jvAK_fl, Vw.jvAK_ft, Vw.jvAK_ol, Vw.jvAK_fd, Vw.jvAK_od, Vw.eLc2_k, Vw.lc2K_s, Vw.lcK22_s, Vw.sSetAt_k, Vw.saK_f, Vw.saK_o, Vw.saK2_s, Vw.saK3_s, Vw.saK4_d, Vw.saK4_l, Vw.eMutD_k, Vw.mutDK_s, Vw.sPar3E_k, Vw.p3K_s, Vw.p3K1_s, Vw.p3K2_s, Vw.p3K3_s, Vw.sPar3_k, Vw.q3K_s, Vw.q3K2_s, Vw.eqI, Vw.neI, Vw.lt_ok, Vw.gt_ok, Vw.le_ok, Vw.add_ok, Vw.int_ok, Vw.max_ok, Vw.isi_ok, Vw.tup_ok, Vw.lst_ok, Vw.neS, List.getElem?_cons_zero, List.getElem?_cons_succ, List.set_cons_zero, List.set_cons_succ, List.cons_append, List.nil_append, List.replicate_succ, List.replicate_zero, List.length_cons, List.length_nil, List.getD_cons_zero, List.getD_cons_succ, Nat.reduceAdd, Nat.reduceSub, Nat.reduceLeDiff, Nat.reduceEqDiff, Nat.reduceBEq, beq_self_eq_true, Bool.not_true, Bool.not_false, Bool.and_true, Bool.true_and, Bool.false_and, Bool.and_false, Bool.or_false, Bool.false_or, Bool.true_or, Bool.or_true, bne_self_eq_false, decide_true, decide_false, Int.reduceEq, Int.reduceLT, Int.reduceLE, Int.reduceNeg, Int.reduceAdd, Int.reduceSub, Int.natCast_zero, Int.natCast_one, rng4, e]
end My

open PySem PySem.W PyProof.Rows
set_option maxRecDepth 100000 in
set_option maxHeartbeats 0 in
theorem PySem.Challenge.cw_forkyears_k03_errors_by_hand_holds : PySem.Challenge.rw_forkyears_k03_errors_by_hand.Holds := by
  w_on; o_law; k_head; (case hw => w_witness2)
  k_fill
  refine Vw.walk_law (l := PySem.Challenge.rw_forkyears_k03_errors_by_hand) (k := 4) rfl rfl ⟨rfl, by decide, by decide⟩ (fun w h Y => PySem.W.kIn_of Y) ?F
  case F =>
    intro w mg fa h KX G hmg
    refine' My.fin KX G hmg My.math ?a0 ?l0 ?c0 ?k0 ?a1 ?l1 ?c1 ?k1 ?a2 ?l2 ?c2 ?k2 ?a3 ?l3 ?c3 ?k3 ?a4 ?l4 ?c4 ?k4 ?z0 ?z1 ?z2 ?z3 ?z4 ?z5 ?z6 ?z7 ?xv_InvalidSaying ?xv_InvalidIndex ?xv_DeskFull ?xv_TooMany ?xv_Refuted ?xv_InvalidText ?xv_ForkyearsError ?xb1 ?xb2 ?xb3 ?xo2_InvalidSaying ?xo3_InvalidSaying ?xo4_InvalidSaying ?xo5_InvalidSaying ?xo6_InvalidSaying ?xo9_InvalidSaying ?xn0_InvalidSaying ?xn1_InvalidSaying ?xn2_InvalidSaying ?xn3_InvalidSaying ?xn4_InvalidSaying ?xn5_InvalidSaying ?xo7 ?xo8 ?xl_InvalidSaying ?xr_InvalidSaying ?xs_InvalidSaying ?xt_InvalidSaying ?xk_InvalidSaying ?xi_InvalidSaying ?xf_InvalidSaying ?xfl_InvalidSaying ?xfc_InvalidSaying ?xfk_InvalidSaying ?xg0_InvalidSaying ?xo2_InvalidIndex ?xo3_InvalidIndex ?xo4_InvalidIndex ?xo5_InvalidIndex ?xo6_InvalidIndex ?xo9_InvalidIndex ?xn0_InvalidIndex ?xn1_InvalidIndex ?xn2_InvalidIndex ?xn3_InvalidIndex ?xn4_InvalidIndex ?xn5_InvalidIndex ?xl_InvalidIndex ?xr_InvalidIndex ?xs_InvalidIndex ?xt_InvalidIndex ?xk_InvalidIndex ?xi_InvalidIndex ?xf_InvalidIndex ?xfl_InvalidIndex ?xfc_InvalidIndex ?xfk_InvalidIndex ?xg0_InvalidIndex ?xo2_DeskFull ?xo3_DeskFull ?xo4_DeskFull ?xo5_DeskFull ?xo6_DeskFull ?xo9_DeskFull ?xn0_DeskFull ?xn1_DeskFull ?xn2_DeskFull ?xn3_DeskFull ?xn4_DeskFull ?xn5_DeskFull ?xl_DeskFull ?xr_DeskFull ?xs_DeskFull ?xt_DeskFull ?xk_DeskFull ?xi_DeskFull ?xf_DeskFull ?xfl_DeskFull ?xfc_DeskFull ?xfk_DeskFull ?xg0_DeskFull ?xo2_TooMany ?xo3_TooMany ?xo4_TooMany ?xo5_TooMany ?xo6_TooMany ?xo9_TooMany ?xn0_TooMany ?xn1_TooMany ?xn2_TooMany ?xn3_TooMany ?xn4_TooMany ?xn5_TooMany ?xl_TooMany ?xr_TooMany ?xs_TooMany ?xt_TooMany ?xk_TooMany ?xi_TooMany ?xf_TooMany ?xfl_TooMany ?xfc_TooMany ?xfk_TooMany ?xg0_TooMany ?xo2_Refuted ?xo3_Refuted ?xo4_Refuted ?xo5_Refuted ?xo6_Refuted ?xo9_Refuted ?xn0_Refuted ?xn1_Refuted ?xn2_Refuted ?xn3_Refuted ?xn4_Refuted ?xn5_Refuted ?xl_Refuted ?xr_Refuted ?xs_Refuted ?xt_Refuted ?xk_Refuted ?xi_Refuted ?xf_Refuted ?xfl_Refuted ?xfc_Refuted ?xfk_Refuted ?xg0_Refuted ?xo2_InvalidText ?xo3_InvalidText ?xo4_InvalidText ?xo5_InvalidText ?xo6_InvalidText ?xo9_InvalidText ?xn0_InvalidText ?xn1_InvalidText ?xn2_InvalidText ?xn3_InvalidText ?xn4_InvalidText ?xn5_InvalidText ?xk_InvalidText ?xe_InvalidText ?xu_InvalidSaying_ForkyearsError ?xu_InvalidIndex_ForkyearsError ?xu_DeskFull_ForkyearsError ?xu_TooMany_ForkyearsError ?xu_Refuted_ForkyearsError ?xu_InvalidText_ForkyearsError ?xu_InvalidSaying_ValueError ?xu_InvalidIndex_ValueError ?xu_DeskFull_ValueError ?xu_TooMany_ValueError ?xu_Refuted_ValueError ?xu_InvalidText_ValueError ?xu_InvalidSaying_InvalidSaying ?xu_InvalidIndex_InvalidSaying ?xu_DeskFull_InvalidSaying ?xu_TooMany_InvalidSaying ?xu_Refuted_InvalidSaying ?xu_InvalidText_InvalidSaying ?xu_InvalidSaying_InvalidIndex ?xu_InvalidIndex_InvalidIndex ?xu_DeskFull_InvalidIndex ?xu_TooMany_InvalidIndex ?xu_Refuted_InvalidIndex ?xu_InvalidText_InvalidIndex ?xu_InvalidSaying_DeskFull ?xu_InvalidIndex_DeskFull ?xu_DeskFull_DeskFull ?xu_TooMany_DeskFull ?xu_Refuted_DeskFull ?xu_InvalidText_DeskFull ?xu_InvalidSaying_Refuted ?xu_InvalidIndex_Refuted ?xu_DeskFull_Refuted ?xu_TooMany_Refuted ?xu_Refuted_Refuted ?xu_InvalidText_Refuted ?xu_InvalidSaying_TooMany ?xu_InvalidIndex_TooMany ?xu_DeskFull_TooMany ?xu_TooMany_TooMany ?xu_Refuted_TooMany ?xu_InvalidText_TooMany ?xu_InvalidSaying_InvalidText ?xu_InvalidIndex_InvalidText ?xu_DeskFull_InvalidText ?xu_TooMany_InvalidText ?xu_Refuted_InvalidText ?xu_InvalidText_InvalidText
    (case a0 => k_is)
    (case l0 => k_is)
    (case c0 => k_is)
    (case k0 => k_is)
    (case a1 => k_is)
    (case l1 => k_is)
    (case c1 => k_is)
    (case k1 => k_is)
    (case a2 => k_is)
    (case l2 => k_is)
    (case c2 => k_is)
    (case k2 => k_is)
    (case a3 => k_is)
    (case l3 => k_is)
    (case c3 => k_is)
    (case k3 => k_is)
    (case a4 => k_is)
    (case l4 => k_is)
    (case c4 => k_is)
    (case k4 => k_is)
    (case z0 => k_is)
    (case z1 => k_is)
    (case z2 => k_is)
    (case z3 => k_is)
    (case z4 => k_is)
    (case z5 => k_is)
    (case z6 => k_is)
    (case z7 => k_is)
    (case xv_InvalidSaying => k_is)
    (case xv_InvalidIndex => k_is)
    (case xv_DeskFull => k_is)
    (case xv_TooMany => k_is)
    (case xv_Refuted => k_is)
    (case xv_InvalidText => k_is)
    (case xv_ForkyearsError => k_is)
    (case xb1 => k_is)
    (case xb2 => k_is)
    (case xb3 => k_is)
    (case xo2_InvalidSaying => k_is)
    (case xo3_InvalidSaying => k_is)
    (case xo4_InvalidSaying => k_is)
    (case xo5_InvalidSaying => k_is)
    (case xo6_InvalidSaying => k_is)
    (case xo9_InvalidSaying => k_is)
    (case xn0_InvalidSaying => kit_is)
    (case xn1_InvalidSaying => kit_is)
    (case xn2_InvalidSaying => kit_is)
    (case xn3_InvalidSaying => kit_is)
    (case xn4_InvalidSaying => kit_is)
    (case xn5_InvalidSaying => kit_is)
    (case xo7 => k_is)
    (case xo8 => k_is)
    (case xl_InvalidSaying => k_is)
    (case xr_InvalidSaying => decide +kernel)
    (case xs_InvalidSaying => k_is)
    (case xt_InvalidSaying => k_is)
    (case xk_InvalidSaying => k_is)
    (case xi_InvalidSaying => k_is)
    (case xf_InvalidSaying => k_is)
    (case xfl_InvalidSaying => k_is)
    (case xfc_InvalidSaying => k_is)
    (case xfk_InvalidSaying => k_is)
    (case xg0_InvalidSaying => k_is)
    (case xo2_InvalidIndex => k_is)
    (case xo3_InvalidIndex => k_is)
    (case xo4_InvalidIndex => k_is)
    (case xo5_InvalidIndex => k_is)
    (case xo6_InvalidIndex => k_is)
    (case xo9_InvalidIndex => k_is)
    (case xn0_InvalidIndex => kit_is)
    (case xn1_InvalidIndex => kit_is)
    (case xn2_InvalidIndex => kit_is)
    (case xn3_InvalidIndex => kit_is)
    (case xn4_InvalidIndex => kit_is)
    (case xn5_InvalidIndex => kit_is)
    (case xl_InvalidIndex => k_is)
    (case xr_InvalidIndex => decide +kernel)
    (case xs_InvalidIndex => k_is)
    (case xt_InvalidIndex => k_is)
    (case xk_InvalidIndex => k_is)
    (case xi_InvalidIndex => k_is)
    (case xf_InvalidIndex => k_is)
    (case xfl_InvalidIndex => k_is)
    (case xfc_InvalidIndex => k_is)
    (case xfk_InvalidIndex => k_is)
    (case xg0_InvalidIndex => k_is)
    (case xo2_DeskFull => k_is)
    (case xo3_DeskFull => k_is)
    (case xo4_DeskFull => k_is)
    (case xo5_DeskFull => k_is)
    (case xo6_DeskFull => k_is)
    (case xo9_DeskFull => k_is)
    (case xn0_DeskFull => kit_is)
    (case xn1_DeskFull => kit_is)
    (case xn2_DeskFull => kit_is)
    (case xn3_DeskFull => kit_is)
    (case xn4_DeskFull => kit_is)
    (case xn5_DeskFull => kit_is)
    (case xl_DeskFull => k_is)
    (case xr_DeskFull => decide +kernel)
    (case xs_DeskFull => k_is)
    (case xt_DeskFull => k_is)
    (case xk_DeskFull => k_is)
    (case xi_DeskFull => k_is)
    (case xf_DeskFull => k_is)
    (case xfl_DeskFull => k_is)
    (case xfc_DeskFull => k_is)
    (case xfk_DeskFull => k_is)
    (case xg0_DeskFull => k_is)
    (case xo2_TooMany => k_is)
    (case xo3_TooMany => k_is)
    (case xo4_TooMany => k_is)
    (case xo5_TooMany => k_is)
    (case xo6_TooMany => k_is)
    (case xo9_TooMany => k_is)
    (case xn0_TooMany => kit_is)
    (case xn1_TooMany => kit_is)
    (case xn2_TooMany => kit_is)
    (case xn3_TooMany => kit_is)
    (case xn4_TooMany => kit_is)
    (case xn5_TooMany => kit_is)
    (case xl_TooMany => k_is)
    (case xr_TooMany => decide +kernel)
    (case xs_TooMany => k_is)
    (case xt_TooMany => k_is)
    (case xk_TooMany => k_is)
    (case xi_TooMany => k_is)
    (case xf_TooMany => k_is)
    (case xfl_TooMany => k_is)
    (case xfc_TooMany => k_is)
    (case xfk_TooMany => k_is)
    (case xg0_TooMany => k_is)
    (case xo2_Refuted => k_is)
    (case xo3_Refuted => k_is)
    (case xo4_Refuted => k_is)
    (case xo5_Refuted => k_is)
    (case xo6_Refuted => k_is)
    (case xo9_Refuted => k_is)
    (case xn0_Refuted => kit_is)
    (case xn1_Refuted => kit_is)
    (case xn2_Refuted => kit_is)
    (case xn3_Refuted => kit_is)
    (case xn4_Refuted => kit_is)
    (case xn5_Refuted => kit_is)
    (case xl_Refuted => k_is)
    (case xr_Refuted => decide +kernel)
    (case xs_Refuted => k_is)
    (case xt_Refuted => k_is)
    (case xk_Refuted => k_is)
    (case xi_Refuted => k_is)
    (case xf_Refuted => k_is)
    (case xfl_Refuted => k_is)
    (case xfc_Refuted => k_is)
    (case xfk_Refuted => k_is)
    (case xg0_Refuted => k_is)
    (case xo2_InvalidText => k_is)
    (case xo3_InvalidText => k_is)
    (case xo4_InvalidText => k_is)
    (case xo5_InvalidText => k_is)
    (case xo6_InvalidText => k_is)
    (case xo9_InvalidText => k_is)
    (case xn0_InvalidText => kit_is)
    (case xn1_InvalidText => kit_is)
    (case xn2_InvalidText => kit_is)
    (case xn3_InvalidText => kit_is)
    (case xn4_InvalidText => kit_is)
    (case xn5_InvalidText => kit_is)
    (case xk_InvalidText => k_is)
    (case xe_InvalidText => k_exc)
    (case xu_InvalidSaying_ForkyearsError => kit_is)
    (case xu_InvalidIndex_ForkyearsError => kit_is)
    (case xu_DeskFull_ForkyearsError => kit_is)
    (case xu_TooMany_ForkyearsError => kit_is)
    (case xu_Refuted_ForkyearsError => kit_is)
    (case xu_InvalidText_ForkyearsError => kit_is)
    (case xu_InvalidSaying_ValueError => kit_is)
    (case xu_InvalidIndex_ValueError => kit_is)
    (case xu_DeskFull_ValueError => kit_is)
    (case xu_TooMany_ValueError => kit_is)
    (case xu_Refuted_ValueError => kit_is)
    (case xu_InvalidText_ValueError => kit_is)
    (case xu_InvalidSaying_InvalidSaying => kit_is)
    (case xu_InvalidIndex_InvalidSaying => kit_is)
    (case xu_DeskFull_InvalidSaying => kit_is)
    (case xu_TooMany_InvalidSaying => kit_is)
    (case xu_Refuted_InvalidSaying => kit_is)
    (case xu_InvalidText_InvalidSaying => kit_is)
    (case xu_InvalidSaying_InvalidIndex => kit_is)
    (case xu_InvalidIndex_InvalidIndex => kit_is)
    (case xu_DeskFull_InvalidIndex => kit_is)
    (case xu_TooMany_InvalidIndex => kit_is)
    (case xu_Refuted_InvalidIndex => kit_is)
    (case xu_InvalidText_InvalidIndex => kit_is)
    (case xu_InvalidSaying_DeskFull => kit_is)
    (case xu_InvalidIndex_DeskFull => kit_is)
    (case xu_DeskFull_DeskFull => kit_is)
    (case xu_TooMany_DeskFull => kit_is)
    (case xu_Refuted_DeskFull => kit_is)
    (case xu_InvalidText_DeskFull => kit_is)
    (case xu_InvalidSaying_Refuted => kit_is)
    (case xu_InvalidIndex_Refuted => kit_is)
    (case xu_DeskFull_Refuted => kit_is)
    (case xu_TooMany_Refuted => kit_is)
    (case xu_Refuted_Refuted => kit_is)
    (case xu_InvalidText_Refuted => kit_is)
    (case xu_InvalidSaying_TooMany => kit_is)
    (case xu_InvalidIndex_TooMany => kit_is)
    (case xu_DeskFull_TooMany => kit_is)
    (case xu_TooMany_TooMany => kit_is)
    (case xu_Refuted_TooMany => kit_is)
    (case xu_InvalidText_TooMany => kit_is)
    (case xu_InvalidSaying_InvalidText => kit_is)
    (case xu_InvalidIndex_InvalidText => kit_is)
    (case xu_DeskFull_InvalidText => kit_is)
    (case xu_TooMany_InvalidText => kit_is)
    (case xu_Refuted_InvalidText => kit_is)
    (case xu_InvalidText_InvalidText => kit_is)

