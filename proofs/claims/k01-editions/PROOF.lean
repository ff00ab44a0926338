import PyProof.Rows.All
import Wide.All
import OpenK.AllK
import Wide.FinOn
import KE.KeyNested
import KE.KDictKeyed
import HandS.Base
import HandS.Call
import HandS.List
import HandS.More
import HandS.Slots
import HandS.Exc
import PyProof.NeKinds
import KE.KEqNest
import HandS.Text
import PyProof.DictTruth
import KE.KDictCopyH
import HandS.ExcOwn
import HandS.Comp
import HandS.Words
import HandS.Flow
import HandS.Iter
import HandS.Zip
import HandS.DictComp
import HandS.Defaults
import HandS.MakeKwOnly
import HandS.WordsExc
import HandS.ExcInit
import HandS.ExcField
import HandS.ExcIs
import HandS.TryOnly
import HandS.TryMany
import HandS.IsInst
import HandS.Style
import HandS.TupAny
import HandS.SlotsOwn
import HandS.AnyAll
import HandS.ListItems
import HandS.Conv
import HandS.SortInts
import PyProof.Rows.SortStr
import PyProof.Rows.StrMeet
import HandS.Dict
import KE.KDictItemsList
import HandS.Strs
import KE.KStateDown
import HandS.Ends
import HandS.Head0
import HandS.Head1
import HandS.Head2
import HandS.HeadEnd
import HandS.HeadHook1
import HandS.HeadHook2
import PySem.Challenge.RW_lackedfields_k01_editions_refused
set_option Elab.async false
set_option linter.all false
set_option maxRecDepth 100000
set_option maxHeartbeats 4000000
/-! dicts whose keys are any nested data: the raw rules -/
namespace Z
open PySem PySem.Spec PyProof.Rows
abbrev NK := NestedKey
/-- the value v is the key k -/
def KIs (h : Heap) (k : NK) (v : Value) : Prop := NestedIs h k v ∧ k.depth ≤ 8
abbrev Ent := NK × Value × Value
def entN (w : World) (x : Ent) : DictEntry := ⟨x.1.hash w, x.2.1, x.2.2⟩
/-- the dict at d, its entries -/
def DObj (w : World) (h : Heap) (d : Addr) (xs : List Ent) : Prop :=
  ∃ o es ep, h.get? d = some o ∧ o.ExactDict ∧ o.data = .dict es ep ∧ es.toList = xs.map (entN w)
def KsOk (h : Heap) (xs : List Ent) : Prop := (∀ x ∈ xs, KIs h x.1 x.2.1) ∧ (xs.map (·.1)).Nodup
def fnd (xs : List Ent) (k : NK) : Option Nat := xs.findIdx? fun x => decide (x.1 = k)

theorem DObj.typeIs {w : World} {s : Shared} {d : Addr} {xs : List Ent} (hm : DObj w s.heap d xs) : s.TypeIs (.ref d) "dict" :=
  let ⟨o, _, _, ho, hc, _⟩ := hm; ⟨o, ho, hc.1⟩
theorem ent_at {w : World} {es : Array DictEntry} {xs : List Ent} (he : es.toList = xs.map (entN w)) (j : Nat) : es[j]? = (xs[j]?).map (entN w) := by
  rw [← Array.getElem?_toList, he, List.getElem?_map]
theorem ent_size {w : World} {es : Array DictEntry} {xs : List Ent} (he : es.toList = xs.map (entN w)) : es.size = xs.length := by
  rw [← Array.length_toList, he, List.length_map]
theorem key_unique {xs : List Ent} (hn : (xs.map (·.1)).Nodup) {i j : Nat} {k : NK} {p q : Value × Value} (hi : xs[i]? = some (k, p)) (hj : xs[j]? = some (k, q)) : i = j := by
  have hi' : (xs.map (·.1))[i]? = some k := by rw [List.getElem?_map, hi]; rfl
  have hj' : (xs.map (·.1))[j]? = some k := by rw [List.getElem?_map, hj]; rfl
  exact (List.getElem?_inj (List.getElem?_eq_some_iff.mp hi').1 hn).mp (hi'.trans hj'.symm)
theorem fnd_some {xs : List Ent} (hn : (xs.map (·.1)).Nodup) {j : Nat} {k : NK} {p : Value × Value} (hj : xs[j]? = some (k, p)) : fnd xs k = some j := by
  unfold fnd
  obtain ⟨hlt, e⟩ := List.getElem?_eq_some_iff.mp hj
  rw [List.findIdx?_eq_some_iff_getElem]
  refine ⟨hlt, by rw [e]; simp, fun i hi => ?_⟩
  simp only [decide_eq_true_eq]
  intro hk
  have : xs[i]? = some (k, (xs[i]'(by omega)).2) := by rw [List.getElem?_eq_getElem (by omega)]; rw [← hk]
  have := key_unique hn this hj
  omega
theorem fnd_none {xs : List Ent} {k : NK} (h : ∀ (j : Nat) (p : Value × Value), xs[j]? ≠ some (k, p)) : fnd xs k = none := by
  unfold fnd
  rw [List.findIdx?_eq_none_iff]
  intro x hx
  simp only [decide_eq_false_iff_not]
  intro e
  obtain ⟨j, hj⟩ := List.mem_iff_getElem?.mp hx
  exact h j x.2 (by rw [hj, ← e])

section
variable {prog : Program} {w : World} {A : Around} {E : Value → Shared → Prop} {s : Shared}
theorem KIs.inj {h : Heap} {x y : NK} {v : Value} (a : KIs h x v) (b : KIs h y v) : x = y := NestedIs.inj _ _ _ a.1 b.1
theorem key_eq {x y : NK} {a b : Value} {Q : Bool → Shared → Prop} (hu : A.units + 8 < cLine) (hx : KIs s.heap x a) (hy : KIs s.heap y b) (h : Q (decide (x = y)) s) :
    wpAny (model prog w) A (eqBool a b) Q E s :=
  eqAt_key x y A s _ _ hx.1 hy.1 (by have := hx.2; omega) _ _ _ _ (by rw [← NestedKey.decide_eq]; exact h)
theorem key_hash {k : NK} {v : Value} {Q : Int → Shared → Prop} (hu : A.units + 8 < cLine) (hk : KIs s.heap k v) (h : Q (k.hash w) { s with toks := s.toks + k.draws }) : wpAny (model prog w) A (pyHash v) Q E s :=
  pyHash_key _ _ _ _ _ hk.1 (by have := hk.2; omega) h
theorem key_quiet {k : NK} {v : Value} {Q : Bool → Shared → Prop} (hk : KIs s.heap k v) (h : Q true s) : wpAny (model prog w) A (eqIsQuiet 8 v) Q E s := quiet_key k v 8 s hk.1 hk.2 A E Q h

theorem tells_not {k : NK} {v : Value} {stored : List Value} {Q : Bool → Shared → Prop} (hkey : KIs s.heap k v)
    (hst : ∀ v ∈ stored, ∃ k', KIs s.heap k' v) (h : Q false s) : wpAny (model prog w) A (tableMayTell v stored) Q E s := by
  unfold tableMayTell
  split
  · exact wpAny_pure h
  · refine wpAny_bind (key_quiet hkey ?_)
    simp only [Bool.not_true, Bool.false_eq_true, if_false]
    refine wpAny_bind ?_
    refine wpAny_forIn_list _ (fun rest r s' => s' = s ∧ r = (none, ()) ∧ ∀ v ∈ rest, ∃ k', KIs s.heap k' v) _ ?_ ?_ _ _ ⟨rfl, rfl, hst⟩
    · rintro x rest r s' ⟨rfl, rfl, hr⟩
      obtain ⟨k', hb⟩ := hr x List.mem_cons_self
      refine wpAny_bind (key_quiet hb ?_)
      simp only [Bool.not_true, Bool.false_eq_true, if_false]
      exact wpAny_pure ⟨rfl, rfl, fun v hv => hr v (List.mem_cons_of_mem _ hv)⟩
    · rintro r s' ⟨rfl, rfl, _⟩
      exact wpAny_pure h

section
variable {d : Addr} {o : Obj} {es : Array DictEntry} {ep : Nat} {xs : List Ent} {k : NK} {key : Value}
/-- the plain walk -/
theorem walk_plain {Q : Option Nat → Shared → Prop} (hu : A.units + 8 < cLine) (hkey : KIs s.heap k key) (ho : s.heap.get? d = some o) (hd : o.data = .dict es ep) (he : es.toList = xs.map (entN w)) (his : KsOk s.heap xs)
    (h : Q (fnd xs k) s) : wpAny (model prog w) A (dictWalkPlain d key (k.hash w) es (placesWithHash es.size (fun i => es[i]?.map (·.hash)) (k.hash w))) Q E s := by
  have hsz : es.size = xs.length := ent_size he
  have haskey : ∀ (j : Nat) (p : Value × Value), xs[j]? = some (k, p) → ((es[j]?.map (·.hash)) == some (k.hash w)) = true := by
    intro j p hj
    rw [ent_at he j, hj]
    simp [entN]
  refine wpAny_bind ?_
  refine wpAny_forIn_list _
    (fun rest b s' => s' = s ∧ b = (none, ()) ∧ ∃ i, rest = (List.range' i (es.size - i)).filter (fun i => (es[i]?.map (·.hash)) == some (k.hash w)) ∧ i ≤ es.size ∧
      ∀ j p, j < i → xs[j]? ≠ some (k, p)) _ ?_ ?_ _ _
    ⟨rfl, rfl, 0, by rw [placesWithHash, List.range_eq_range', Nat.sub_zero], Nat.zero_le _, fun _ _ h => absurd h (Nat.not_lt_zero _)⟩
  · rintro x rest b s' ⟨rfl, rfl, i, hr, hi, hno⟩
    obtain ⟨hix, hxn, hpx, hskip, hrest⟩ := filter_range'_cons _ _ _ _ _ hr.symm
    have hlt : x < es.size := by omega
    have hrest' : rest = (List.range' (x + 1) (es.size - (x + 1))).filter (fun i => (es[i]?.map (·.hash)) == some (k.hash w)) := by rw [hrest]; congr 2; omega
    obtain ⟨⟨k', b, v'⟩, hkv⟩ : ∃ y, xs[x]? = some y := ⟨xs[x]'(by rw [← hsz]; exact hlt), List.getElem?_eq_getElem _⟩
    have hib : KIs s'.heap k' b := his.1 _ (List.mem_of_getElem? hkv)
    have hex : es[x]? = some ⟨k'.hash w, b, v'⟩ := by rw [ent_at he x, hkv]; rfl
    have hnext : ¬ k' = k → ∃ i, rest = (List.range' i (es.size - i)).filter (fun i => (es[i]?.map (·.hash)) == some (k.hash w)) ∧ i ≤ es.size ∧
        ∀ j p, j < i → xs[j]? ≠ some (k, p) := fun hne =>
      ⟨x + 1, hrest', hlt, fun j p hji hj => by
        rcases Nat.lt_or_ge j i with h | h
        · exact hno j p h hj
        · rcases Nat.lt_or_ge j x with h' | h'
          · have := hskip j h h'
            rw [haskey j p hj] at this
            exact absurd this (by decide)
          · have : j = x := by omega
            subst this
            rw [hkv] at hj
            injection hj with hj
            injection hj with hj
            exact hne hj⟩
    rw [hex]
    dsimp only
    by_cases hh : (k'.hash w == k.hash w) = true
    · rw [if_pos hh]
      refine wpAny_bind (wpAny_dictEpoch ho hd (wpAny_bind (key_eq hu hib hkey (wpAny_bind (wpAny_dictEpoch ho hd ?_)))))
      show wpAny _ _ (if (ep != ep) = true then _ else _) _ E _
      rw [if_neg (by simp)]
      by_cases hkk : k' = k
      · rw [decide_eq_true hkk]
        subst hkk
        rw [fnd_some his.2 hkv] at h
        exact wpAny_bind (wpAny_rule (wpAny_pure (wpAny_pure h)))
      · rw [decide_eq_false hkk]
        exact wpAny_bind (wpAny_rule (wpAny_pure ⟨rfl, rfl, hnext hkk⟩))
    · rw [if_neg hh]
      refine wpAny_pure ⟨rfl, rfl, hnext ?_⟩
      intro hkk
      rw [hkk] at hh; simp at hh
  · rintro b s' ⟨rfl, rfl, i, hr, hi, hno⟩
    have hall : ∀ j, i ≤ j → j < es.size → ((es[j]?.map (·.hash)) == some (k.hash w)) = false := by
      intro j h1 h2
      have := List.filter_eq_nil_iff.mp hr.symm j (List.mem_range'_1.mpr ⟨h1, by omega⟩)
      simpa using this
    have hn : fnd xs k = none := fnd_none fun j p hj => by
      rcases Nat.lt_or_ge j i with h | h
      · exact hno j p h hj
      · have hjl : j < es.size := by
          rw [hsz]
          rcases Nat.lt_or_ge j xs.length with h' | h'
          · exact h'
          · rw [List.getElem?_eq_none h'] at hj; exact nomatch hj
        have := hall j h hjl
        rw [haskey j p hj] at this
        exact absurd this (by decide)
    rw [hn] at h
    exact wpAny_pure h

theorem find_cong {α : Type} {p q : α → Bool} : ∀ {l : List α}, (∀ x ∈ l, p x = q x) → l.findIdx? p = l.findIdx? q
  | [], _ => rfl
  | x :: l, h => by
    rw [List.findIdx?_cons, List.findIdx?_cons, h x List.mem_cons_self, find_cong fun y hy => h y (List.mem_cons_of_mem _ hy)]
theorem isStr_key {h : Heap} {w : World} {x : Str} {y : Ent} (hy : KIs h y.1 y.2.1) : ((fun e : DictEntry => e.key.isStr x) ∘ entN w) y = decide (y.1 = .text x) := by
  obtain ⟨k, v, u⟩ := y
  show v.isStr x = decide (k = .text x)
  have h1 : NestedIs h k v := hy.1
  cases h1 with
  | text z t =>
    show (z == x) = _
    by_cases e : z = x
    · subst e; simp
    · rw [decide_eq_false (fun q => e (by injection q))]
      exact beq_eq_false_iff_ne.mpr e
  | none => exact (decide_eq_false (fun q => by cases q)).symm
  | bool _ => exact (decide_eq_false (fun q => by cases q)).symm
  | int _ _ => exact (decide_eq_false (fun q => by cases q)).symm
  | tup _ _ _ _ => exact (decide_eq_false (fun q => by cases q)).symm
/-- where a key stands -/
theorem find_N {Q : Option Nat → Shared → Prop} (hu : A.units + 8 < cLine) (hkey : KIs s.heap k key) (ho : s.heap.get? d = some o) (hd : o.data = .dict es ep) (he : es.toList = xs.map (entN w)) (his : KsOk s.heap xs)
    (h : Q (fnd xs k) s) : wpAny (model prog w) A (dictFind d key (k.hash w)) Q E s := by
  have hsz : es.size = xs.length := ent_size he
  have haskey : ∀ (j : Nat) (p : Value × Value), xs[j]? = some (k, p) → ((es[j]?.map (·.hash)) == some (k.hash w)) = true := by
    intro j p hj
    rw [ent_at he j, hj]
    simp [entN]
  have hmem : ∀ e ∈ es, ∃ x ∈ xs, e = entN w x := by
    intro e hin
    have : e ∈ xs.map (entN w) := he ▸ Array.mem_toList_iff.mpr hin
    obtain ⟨x, hx, rfl⟩ := List.mem_map.mp this
    exact ⟨x, hx, rfl⟩
  have hany : ¬ (es.any fun e => e.key == key && e.hash != k.hash w) = true := by
    rw [← Array.any_toList, List.any_eq_true]
    rintro ⟨e, hin, hc⟩
    obtain ⟨x, hx, rfl⟩ := hmem e (Array.mem_toList_iff.mp hin)
    simp only [entN, Bool.and_eq_true, beq_iff_eq, bne_iff_ne, ne_eq] at hc
    obtain ⟨hxa, hne⟩ := hc
    have := his.1 x hx
    rw [hxa] at this
    exact hne (by rw [KIs.inj this hkey])
  have hst : ∀ v ∈ (placesWithHash es.size (fun i => es[i]?.map (·.hash)) (k.hash w)).filterMap (fun i => es[i]?.map (·.key)), ∃ k', KIs s.heap k' v := by
    intro v hv
    obtain ⟨i, _, hi⟩ := List.mem_filterMap.mp hv
    cases hei : es[i]? with
    | none => rw [hei] at hi; cases hi
    | some e =>
      rw [hei] at hi
      obtain rfl : e.key = v := by simpa using hi
      obtain ⟨x, hx, rfl⟩ := hmem e (Array.mem_of_getElem? hei)
      exact ⟨x.1, his.1 x hx⟩
  unfold dictFind
  try with_reducible refine wpAny_holding ?_
  refine wpAny_bind (wpAny_dictEntries ho hd ?_)
  dsimp only
  -- the general walk
  have gen : wpAny (model prog w) A (do
      let tells ← if ((placesWithHash es.size (fun i => es[i]?.map (·.hash)) (k.hash w)).filterMap fun i => es[i]?.map (·.key)) == [key] then pure false else tableMayTell key ((placesWithHash es.size (fun i => es[i]?.map (·.hash)) (k.hash w)).filterMap fun i => es[i]?.map (·.key))
      if tells && ((placesWithHash es.size (fun i => es[i]?.map (·.hash)) (k.hash w)).filterMap fun i => es[i]?.map (·.key)).length ≥ 2 then unsupported "dict.find:order-among-keys-of-one-hash"
      let mut hit : Option Nat := none
      for i in (placesWithHash es.size (fun i => es[i]?.map (·.hash)) (k.hash w)) do
        if let some e := es[i]? then
          if e.hash == (k.hash w) then
            let before ← dictEpoch d (keyPart key)
            let same ← eqBool e.key key
            if (← dictEpoch d (keyPart key)) != before then unsupported "dict.changed-during-lookup"
            if same then
              if hit.isSome then unsupported "dict.find:order-among-keys-of-one-hash"
              rule "dict.find.hit"
              if ((placesWithHash es.size (fun i => es[i]?.map (·.hash)) (k.hash w)).filterMap fun i => es[i]?.map (·.key)).length < 2 then return some i
              hit := some i
            else
              rule "dict.find.same-hash-other-key"
              if tells && !(0 ≤ (k.hash w) && (k.hash w) < 32) then unsupported "dict.find:asked-again-or-not-hangs-on-the-table"
      return hit) Q E s := by
    by_cases hone : (((placesWithHash es.size (fun i => es[i]?.map (·.hash)) (k.hash w)).filterMap (fun i => es[i]?.map (·.key))) == [key]) = true <;>
    (first | rw [if_pos hone] | rw [if_neg hone]) <;> (first | refine wpAny_bind (wpAny_pure ?_) | refine wpAny_bind (tells_not hkey hst ?_)) <;> (
      dsimp only
      rw [if_neg (by simp)]
      refine wpAny_bind ?_
      refine wpAny_forIn_list _
        (fun rest b s' => s' = s ∧ ∃ i hit, b = (none, hit) ∧ rest = (List.range' i (es.size - i)).filter (fun i => (es[i]?.map (·.hash)) == some (k.hash w)) ∧ i ≤ es.size ∧
          ((hit = none ∧ ∀ j p, j < i → xs[j]? ≠ some (k, p)) ∨ ∃ j p, hit = some j ∧ j < i ∧ xs[j]? = some (k, p))) _ ?_ ?_ _ _
        ⟨rfl, 0, none, rfl, by rw [placesWithHash, List.range_eq_range', Nat.sub_zero], Nat.zero_le _, .inl ⟨rfl, fun _ _ h => absurd h (Nat.not_lt_zero _)⟩⟩
      · rintro x rest b s' ⟨rfl, i, hit, rfl, hr, hi, hH⟩
        obtain ⟨hix, hxn, hpx, hskip, hrest⟩ := filter_range'_cons _ _ _ _ _ hr.symm
        have hlt : x < es.size := by omega
        have hrest' : rest = (List.range' (x + 1) (es.size - (x + 1))).filter (fun i => (es[i]?.map (·.hash)) == some (k.hash w)) := by rw [hrest]; congr 2; omega
        obtain ⟨⟨k', b, v'⟩, hkv⟩ : ∃ y, xs[x]? = some y := ⟨xs[x]'(by rw [← hsz]; exact hlt), List.getElem?_eq_getElem _⟩
        have hib : KIs s'.heap k' b := his.1 _ (List.mem_of_getElem? hkv)
        have hex : es[x]? = some ⟨k'.hash w, b, v'⟩ := by rw [ent_at he x, hkv]; rfl
        have hHx : (hit = none ∧ ∀ j p, j < x → xs[j]? ≠ some (k, p)) ∨ ∃ j p, hit = some j ∧ j < x ∧ xs[j]? = some (k, p) := by
          rcases hH with ⟨h0, hno⟩ | ⟨j, p, h1, hji, hj⟩
          · refine .inl ⟨h0, fun j p hjx hj => ?_⟩
            rcases Nat.lt_or_ge j i with h | h
            · exact hno j p h hj
            · have := hskip j h hjx
              rw [haskey j p hj] at this
              exact absurd this (by decide)
          · exact .inr ⟨j, p, h1, by omega, hj⟩
        have hstay : ¬ k' = k → ((hit = none ∧ ∀ j p, j < x + 1 → xs[j]? ≠ some (k, p)) ∨ ∃ j p, hit = some j ∧ j < x + 1 ∧ xs[j]? = some (k, p)) := by
          intro hne
          rcases hHx with ⟨h0, hno⟩ | ⟨j, p, h1, hjx, hj⟩
          · refine .inl ⟨h0, fun j p hjx hj => ?_⟩
            rcases Nat.lt_or_ge j x with h | h
            · exact hno j p h hj
            · have hjx' : j = x := by omega
              subst hjx'
              rw [hkv] at hj
              injection hj with hj
              injection hj with hj
              exact hne hj
          · exact .inr ⟨j, p, h1, by omega, hj⟩
        rw [hex]
        dsimp only
        by_cases hh : (k'.hash w == k.hash w) = true
        · rw [if_pos hh]
          refine wpAny_bind (wpAny_dictEpoch ho hd (wpAny_bind (key_eq hu hib hkey (wpAny_bind (wpAny_dictEpoch ho hd ?_)))))
          show wpAny _ _ (if (ep != ep) = true then _ else _) _ E _
          rw [if_neg (by simp)]
          by_cases hkk : k' = k
          · rw [decide_eq_true hkk]
            subst hkk
            rcases hHx with ⟨rfl, _⟩ | ⟨j, p, _, hjx, hj⟩
            · first | rw [if_pos rfl] | skip
              simp only [Option.isSome_none, Bool.false_eq_true, if_false]
              first | refine wpAny_bind (wpAny_pure ?_) | skip
              refine wpAny_bind (wpAny_rule ?_)
              split
              · rw [fnd_some his.2 hkv] at h
                exact wpAny_pure (wpAny_pure h)
              · exact wpAny_pure ⟨rfl, x + 1, some x, rfl, hrest', hlt, .inr ⟨x, _, rfl, Nat.lt_succ_self x, hkv⟩⟩
            · exact absurd (key_unique his.2 hj hkv) (by omega)
          · rw [decide_eq_false hkk]
            simp only [Bool.false_eq_true, if_false]
            refine wpAny_bind (wpAny_rule ?_)
            first | rw [if_neg (by simp)] | skip
            first
              | exact wpAny_pure ⟨rfl, x + 1, hit, rfl, hrest', hlt, hstay hkk⟩
              | exact wpAny_bind (wpAny_pure (wpAny_pure ⟨rfl, x + 1, hit, rfl, hrest', hlt, hstay hkk⟩))
        · rw [if_neg hh]
          refine wpAny_pure ⟨rfl, x + 1, hit, rfl, hrest', hlt, hstay ?_⟩
          intro hkk
          rw [hkk] at hh; simp at hh
      · rintro b s' ⟨rfl, i, hit, rfl, hr, hi, hH⟩
        have hall : ∀ j, i ≤ j → j < es.size → ((es[j]?.map (·.hash)) == some (k.hash w)) = false := by
          intro j h1 h2
          have := List.filter_eq_nil_iff.mp hr.symm j (List.mem_range'_1.mpr ⟨h1, by omega⟩)
          simpa using this
        rcases hH with ⟨rfl, hno⟩ | ⟨j, p, rfl, _, hj⟩
        · have hn : fnd xs k = none := fnd_none fun j p hj => by
            rcases Nat.lt_or_ge j i with h | h
            · exact hno j p h hj
            · have hjl : j < es.size := by
                rw [hsz]
                rcases Nat.lt_or_ge j xs.length with h' | h'
                · exact h'
                · rw [List.getElem?_eq_none h'] at hj; exact nomatch hj
              have := hall j h hjl
              rw [haskey j p hj] at this
              exact absurd this (by decide)
          rw [hn] at h
          exact wpAny_pure h
        · rw [fnd_some his.2 hj] at h
          exact wpAny_pure h)
  have plain := walk_plain (prog := prog) (E := E) hu hkey ho hd he his h
  by_cases hall : ((key :: (placesWithHash es.size (fun i => es[i]?.map (·.hash)) (k.hash w)).filterMap fun i => es[i]?.map (·.key)).all carriedByValue) = true
  all_goals (cases key with
    | ref a =>
      first
      | (exfalso; simp [carriedByValue] at hall; done)
      | (show wpAny _ _ (if _ then _ else _) _ _ _
         rw [if_neg hall, if_neg hany]
         exact gen)
    | str x t =>
      have hk : k = .text x := by cases hkey.1; rfl
      show wpAny _ _ (if (es.all fun e => isExactStrKey e.key) = true then _ else _) _ _ _
      by_cases hstrs : (es.all fun e => isExactStrKey e.key) = true
      · rw [if_pos hstrs]
        unfold foundByValue
        have hf : es.findIdx? (fun e => e.key.isStr x) = fnd xs k := by
          rw [hk, show es.findIdx? (fun e => e.key.isStr x) = es.toList.findIdx? (fun e => e.key.isStr x) from (by cases es; simp), he, List.findIdx?_map]
          unfold fnd
          refine find_cong fun y hy => ?_
          exact isStr_key (his.1 y hy)
        rw [hf]
        cases hi : fnd xs k with
        | none =>
          rw [hi] at h
          exact wpAny_pure h
        | some i =>
          rw [hi] at h
          obtain ⟨hlt, hp, _⟩ := List.findIdx?_eq_some_iff_getElem.mp hi
          have hkk : xs[i].1 = k := of_decide_eq_true hp
          have hex : es[i]? = some (entN w xs[i]) := by rw [ent_at he i, List.getElem?_eq_getElem hlt]; rfl
          simp only [hex]
          refine wpAny_bind (wpAny_dictEpoch ho hd (wpAny_bind (key_eq hu (his.1 _ (List.getElem_mem hlt)) hkey (wpAny_bind (wpAny_dictEpoch ho hd ?_)))))
          show wpAny _ _ (if (ep != ep) = true then _ else _) _ E _
          rw [if_neg (by simp), decide_eq_true hkk]
          exact wpAny_bind (wpAny_rule (wpAny_pure h))
      · rw [if_neg hstrs]
        show wpAny _ _ (if _ then _ else _) _ _ _
        first
        | (rw [if_pos hall]; exact plain)
        | (rw [if_neg hall]; exact gen)
    | _ =>
      show wpAny _ _ (if _ then _ else _) _ _ _
      first
      | (rw [if_pos hall]; exact plain)
      | (rw [if_neg hall]; exact gen))
end

/-! ### the operations -/
/-- the value at a key -/
def atN (xs : List Ent) (k : NK) : Option Value := (fnd xs k).bind fun i => (xs[i]?).map (·.2.2)
/-- d[k] = v -/
def putN (xs : List Ent) (k : NK) (kv v : Value) : List Ent := match fnd xs k with
  | some i => xs.modify i fun e => (e.1, e.2.1, v)
  | none => xs ++ [(k, kv, v)]
/-- del d[k] -/
def delN (xs : List Ent) (k : NK) : List Ent := match fnd xs k with
  | some i => xs.eraseIdx i
  | none => xs
section
variable {d : Addr} {xs : List Ent} {k : NK} {key v : Value}
theorem get_N {Q : Option Value → Shared → Prop} (hu : A.units + 8 < cLine) (hkey : KIs s.heap k key) (hm : DObj w s.heap d xs) (his : KsOk s.heap xs)
    (h : Q (atN xs k) { s with toks := s.toks + k.draws }) : wpAny (model prog w) A (dictGet d key) Q E s := by
  obtain ⟨o, es, ep, ho, _, hd, he⟩ := hm
  unfold dictGet
  try with_reducible refine wpAny_holding ?_
  refine wpAny_bind (key_hash hu hkey (wpAny_bind (find_N (s := { s with toks := s.toks + k.draws }) hu hkey ho hd he his ?_)))
  unfold atN at h
  cases hf : fnd xs k with
  | none =>
    rw [hf] at h
    exact wpAny_pure h
  | some i =>
    rw [hf] at h
    refine wpAny_bind (wpAny_dictEntries (s := { s with toks := s.toks + k.draws }) ho hd ?_)
    rw [ent_at he i]
    refine wpAny_pure ?_
    rw [Option.map_map]
    exact h
theorem modify_map {α β : Type} (f : α → β) (g : β → β) (g' : α → α) (h : ∀ x, g (f x) = f (g' x)) : ∀ (l : List α) (i : Nat), (l.map f).modify i g = (l.modify i g').map f
  | [], _ => by simp
  | x :: l, 0 => by simp [h]
  | x :: l, i + 1 => by simp [modify_map f g g' h l i]
theorem put_N {Q : Unit → Shared → Prop} (hu : A.units + 8 < cLine) (hkey : KIs s.heap k key) (hm : DObj w s.heap d xs) (his : KsOk s.heap xs) (hz : xs.length ≤ sizeLine)
    (hQ : ∀ h', DObj w h' d (putN xs k key v) → Heap.SameBut d s.heap h' → Q () { s with heap := h', toks := s.toks + k.draws }) :
    wpAny (model prog w) A (dictSet d key v) Q E s := by
  obtain ⟨o, es, ep, ho, hc, hd, he⟩ := hm
  unfold dictSet
  try with_reducible refine wpAny_holding ?_
  refine wpAny_bind (key_hash hu hkey ?_)
  unfold dictSetHashed
  try with_reducible refine wpAny_holding ?_
  refine wpAny_bind (find_N (s := { s with toks := s.toks + k.draws }) hu hkey ho hd he his ?_)
  cases hf : fnd xs k with
  | none =>
    have e0 : putN xs k key v = xs ++ [(k, key, v)] := by unfold putN; rw [hf]
    rw [e0] at hQ
    refine wpAny_bind (wpAny_rule (wpAny_updateDictKeys (hz := by have e := ent_size he; omega) (s := { s with toks := s.toks + k.draws }) ho hd (hQ _ ⟨_, _, ep + 1, Heap.get?_update_self _ ho (Obj.isFreed_of_dict (Obj.data_mapDictKeys hd _)),
      hc.mapDictKeys _, Obj.data_mapDictKeys hd _, ?_⟩ (Heap.SameBut.update ..))))
    simp [he, entN]
  | some i =>
    have e0 : putN xs k key v = xs.modify i (fun e => (e.1, e.2.1, v)) := by unfold putN; rw [hf]
    rw [e0] at hQ
    refine wpAny_bind (wpAny_rule (wpAny_bind (wpAny_updateDict (s := { s with toks := s.toks + k.draws }) ho hd (wpAny_point (hQ _ ⟨_, _, ep, Heap.get?_update_self _ ho (Obj.isFreed_of_dict (Obj.data_mapDict hd _)),
      hc.mapDict _, Obj.data_mapDict hd _, ?_⟩ (Heap.SameBut.update ..))))))
    rw [Array.toList_modify, he, modify_map (entN w) _ (fun e => (e.1, e.2.1, v)) (fun _ => rfl)]
theorem putN_keys (xs : List Ent) (k : NK) (kv v : Value) : (putN xs k kv v).map (·.1) = if (fnd xs k).isSome then xs.map (·.1) else xs.map (·.1) ++ [k] := by
  unfold putN
  cases fnd xs k with
  | none => simp
  | some i =>
    simp only [Option.isSome_some, if_true]
    apply List.ext_getElem?
    intro j
    simp only [List.getElem?_map, List.getElem?_modify]
    cases xs[j]? with
    | none => simp
    | some e => by_cases h : i = j <;> simp [h]
theorem fnd_isNone {xs : List Ent} {k : NK} (h : fnd xs k = none) : k ∉ xs.map (·.1) := by
  intro hm
  obtain ⟨x, hx, rfl⟩ := List.mem_map.mp hm
  have := (List.findIdx?_eq_none_iff.mp h) x hx
  simp at this
theorem putN_nodup {xs : List Ent} {k : NK} {kv v : Value} (hn : (xs.map (·.1)).Nodup) : ((putN xs k kv v).map (·.1)).Nodup := by
  rw [putN_keys]
  cases hf : fnd xs k with
  | none =>
    simp only [Option.isSome_none, Bool.false_eq_true, if_false]
    rw [List.nodup_append]
    refine ⟨hn, by simp, fun x hx y hy => ?_⟩
    simp only [List.mem_singleton] at hy
    subst hy
    exact fun e => fnd_isNone hf (e ▸ hx)
  | some i => simpa using hn
theorem putN_length (xs : List Ent) (k : NK) (kv v : Value) : (putN xs k kv v).length ≤ xs.length + 1 := by
  unfold putN
  cases fnd xs k with
  | none => simp
  | some i => simp
end
end
end Z

/-! data by value, and how it lies in the heap -/
namespace Z
open PySem PySem.Spec PyProof.Rows L2 SlX

/-! ### data -/
inductive D where
  | non | bl (b : Bool) | int (i : Int) | str (x : Str)
  | tup (ds : List D) | lst (ds : List D) | set (ds : List D)
  | dct (ks vs : List D)
  | ins (c : Str) (ds : List D)
  | hd (i : Nat)
instance : Inhabited D := ⟨.non⟩

mutual
/-- no handle within -/
def D.cl : D → Bool
  | .non => true | .bl _ => true | .int _ => true | .str _ => true
  | .tup ds => D.cls ds | .lst ds => D.cls ds | .set ds => D.cls ds
  | .dct ks vs => D.cls ks && D.cls vs
  | .ins _ ds => D.cls ds
  | .hd _ => false
def D.cls : List D → Bool
  | [] => true
  | d :: ds => D.cl d && D.cls ds
end
mutual
/-- as a key -/
def D.key : D → Option NK
  | .non => some .none
  | .bl b => some (.num (if b then 1 else 0))
  | .int i => some (.num i)
  | .str x => some (.text x)
  | .tup ds => (D.keys ds).map .tup
  | .lst _ => none | .set _ => none | .dct _ _ => none | .ins _ _ => none | .hd _ => none
def D.keys : List D → Option (List NK)
  | [] => some []
  | d :: ds => match D.key d, D.keys ds with
    | some k, some ks => some (k :: ks)
    | _, _ => none
end
/-- what stands in the store -/
inductive Node where
  | lst (ds : List D)
  | dct (ks vs : List D)
  | ins (c : Str) (fs : List (Str × D))
abbrev Sto := List (Option Node)

/-- a class: its fields in the order of their first store; whether it has slots -/
structure CI where
  order : List Str
  slots : Bool
  exc : Bool := false
  deriving Inhabited
/-- a class whose instances have n fields -/
def CI.fit (ci : CI) (n : Nat) : Prop := ci.exc = false ∧ n = ci.order.length

/-- what stays through a law: the program, the world, the written part, the module's names, the classes -/
structure Gx where
  P : Program
  w : World
  K : PySem.W.Frag
  mg : Str → Option Value
  cls : Str → Option CI

/-! ### dicts in the abstract heap -/
abbrev EntV := NK × V × V
def EV (p : EntV) (q : Ent) : Prop := p.1 = q.1 ∧ RelV p.2.1 q.2.1 ∧ RelV p.2.2 q.2.2
def DicO (w : World) (a : Addr) (es : List EntV) : HO := .ext fun h => es.length ≤ sizeLine ∧ (a == sysModules) = false ∧ ∃ xs : List Ent, DObj w h a xs ∧ Paired EV es xs
theorem DObj.stay {w : World} {h1 h2 : Heap} {a : Addr} {xs : List Ent} (x : DObj w h1 a xs) (k : ∀ o, h1.get? a = some o → h2.get? a = some o) : DObj w h2 a xs := by
  obtain ⟨o, es, ep, e, r⟩ := x
  exact ⟨o, es, ep, k o e, r⟩
theorem dicO_ok {P : Program} {w : World} {H : Hp} {h : Heap} {a : Addr} {es : List EntV} (hz : es.length ≤ sizeLine) (ha : (a == sysModules) = false) {xs : List Ent} (hx : DObj w h a xs) (r : Paired EV es xs) : ObjOk P w H h a (DicO w a es) := by
  refine ⟨⟨hz, ha, xs, hx, r⟩, ?_, fun h1 h2 ⟨z, y, xs, q, r⟩ k => ⟨z, y, xs, q.stay k, r⟩⟩
  obtain ⟨o, _, _, e, _⟩ := hx
  exact ⟨o, e⟩
theorem DicO.inj {w : World} {a : Addr} {es es' : List EntV} {h : Heap} (x : ∃ xs, DObj w h a xs ∧ Paired EV es xs) (y : ∃ xs, DObj w h a xs ∧ Paired EV es' xs) : es.map (·.2) = es'.map (·.2) := by
  obtain ⟨xs, ⟨o, ds, ep, e, _, d, l⟩, r⟩ := x
  obtain ⟨ys, ⟨o', ds', ep', e', _, d', l'⟩, r'⟩ := y
  rw [e] at e'; cases e'
  rw [d] at d'; cases d'
  rw [l] at l'
  clear e d l
  induction r generalizing es' ys with
  | nil =>
    cases ys with
    | nil => cases r'; rfl
    | cons _ _ => cases l'
  | cons p t ih =>
    cases ys with
    | nil => cases l'
    | cons y ys =>
      cases r' with
      | cons p' t' =>
        simp only [List.map_cons, List.cons.injEq] at l'
        obtain ⟨l1, l2⟩ := l'
        rw [List.map_cons, List.map_cons, ih ys t' l2]
        unfold entN at l1
        injection l1 with _ q1 q2
        congr 1
        refine Prod.ext ?_ ?_
        · have := p.2.1; rw [q1] at this; exact this.inj p'.2.1
        · have := p.2.2; rw [q2] at this; exact this.inj p'.2.2

/-! ### instances in the abstract heap -/
/-- the values vs of the fields of the instance at a of the class named c -/
def InsAt (G : Gx) (F : Hp) (a : Addr) (c : Str) (vs : List V) : Prop :=
  ∃ ci C, G.cls c = some ci ∧ G.mg c = some (.ref C) ∧ ci.fit vs.length ∧
    if ci.slots = true then ∃ dx svs, Slt F a C dx svs ∧ ∀ (j : Nat) (f : Str) (v : V), ci.order[j]? = some f → vs[j]? = some v → ∃ p i, Slot1 G.K C f p i ∧ svs[i]? = some (some v)
    else ∃ dx, F a = some (.ins C dx (ci.order.zip vs))

/-! ### how data lies -/
/-! F: the part of the heap that is not changed any more; A: where the handles' things stand -/
/-- a dict that is not changed any more: its record is fixed -/
def FzD (w : World) (F : Hp) (a : Addr) (es : List EntV) : Prop := ∃ o, F a = some (.frz o (DicO w a es))
theorem FzD.rd {w : World} {F : Hp} {a : Addr} {es : List EntV} (h : FzD w F a es) : Rd F a (DicO w a es) := .inr h
mutual
def Rep (G : Gx) (A : List (Addr × Addr)) (F : Hp) : V → D → Prop
  | v, .non => v = .non
  | v, .bl b => v = .bl b
  | v, .int i => v = .int i
  | v, .str x => v = .str x
  | v, .tup ds => ∃ a vs, v = .ref a ∧ SqT G.K F a vs ∧ Reps G A F vs ds
  | v, .lst ds => ∃ a vs, v = .ref a ∧ SqL G.K F a vs ∧ Reps G A F vs ds
  | _, .set _ => False
  | v, .dct ks vs => ∃ a es, v = .ref a ∧ FzD G.w F a es ∧ Reps G A F (es.map (·.2.1)) ks ∧ Reps G A F (es.map (·.2.2)) vs ∧ D.keys ks = some (es.map (·.1)) ∧ (es.map (·.1)).Nodup ∧ ∀ e ∈ es, e.1.depth ≤ 8
  | v, .ins c ds => ∃ a vs, v = .ref a ∧ InsAt G F a c vs ∧ Reps G A F vs ds
  | v, .hd i => ∃ p, A[i]? = some p ∧ v = .ref p.1
def Reps (G : Gx) (A : List (Addr × Addr)) (F : Hp) : List V → List D → Prop
  | vs, [] => vs = []
  | vs, d :: ds => ∃ v r, vs = v :: r ∧ Rep G A F v d ∧ Reps G A F r ds
end

def Sub (F F' : Hp) : Prop := ∀ a o, F a = some o → F' a = some o
theorem Sub.refl (F : Hp) : Sub F F := fun _ _ h => h
theorem Sub.trans {F F1 F2 : Hp} (a : Sub F F1) (b : Sub F1 F2) : Sub F F2 := fun x o h => b x o (a x o h)
theorem Sub.rd {F F' : Hp} {a : Addr} {u : HO} (e : Sub F F') (h : Rd F a u) : Rd F' a u := by
  rcases h with h | ⟨o, h⟩
  · exact .inl (e a _ h)
  · exact .inr ⟨o, e a _ h⟩
theorem Sub.sql {K : PySem.W.Frag} {F F' : Hp} {a : Addr} {xs : List V} (e : Sub F F') (h : SqL K F a xs) : SqL K F' a xs := h.imp e.rd id
theorem Sub.sqt {K : PySem.W.Frag} {F F' : Hp} {a : Addr} {xs : List V} (e : Sub F F') (h : SqT K F a xs) : SqT K F' a xs := h.imp e.rd id
theorem Sub.slt {F F' : Hp} {a C dx : Addr} {vs : List (Option V)} (e : Sub F F') (h : Slt F a C dx vs) : Slt F' a C dx vs := by
  rcases h with ⟨h1, h2⟩ | ⟨h1, h2⟩
  · exact .inl ⟨e a _ h1, h2⟩
  · exact .inr ⟨e a _ h1, e dx _ h2⟩
theorem InsAt.mono {G : Gx} {F F' : Hp} {a : Addr} {c : Str} {vs : List V} (e : Sub F F') (h : InsAt G F a c vs) : InsAt G F' a c vs := by
  obtain ⟨ci, C, h1, h2, h3, h4⟩ := h
  refine ⟨ci, C, h1, h2, h3, ?_⟩
  by_cases hs : ci.slots = true
  · rw [if_pos hs] at h4 ⊢
    obtain ⟨dx, svs, h5, h6⟩ := h4
    exact ⟨dx, svs, e.slt h5, h6⟩
  · rw [if_neg hs] at h4 ⊢
    obtain ⟨dx, h5⟩ := h4
    exact ⟨dx, e _ _ h5⟩
/-- the handles stay where they are -/
def Pre (A A' : List (Addr × Addr)) : Prop := ∀ (i : Nat) p, A[i]? = some p → A'[i]? = some p
theorem Pre.refl (A : List (Addr × Addr)) : Pre A A := fun _ _ h => h
theorem Pre.trans {A A1 A2 : List (Addr × Addr)} (a : Pre A A1) (b : Pre A1 A2) : Pre A A2 := fun i p h => b i p (a i p h)
mutual
theorem Rep.mono {G : Gx} {A A' : List (Addr × Addr)} {F F' : Hp} (hA : Pre A A') (e : Sub F F') : ∀ (d : D) (v : V), Rep G A F v d → Rep G A' F' v d
  | .non, _, h => h
  | .bl _, _, h => h
  | .int _, _, h => h
  | .str _, _, h => h
  | .tup ds, _, h => by
    obtain ⟨a, vs, h1, h2, h3⟩ := h
    exact ⟨a, vs, h1, e.sqt h2, Reps.mono hA e ds vs h3⟩
  | .lst ds, _, h => by
    obtain ⟨a, vs, h1, h2, h3⟩ := h
    exact ⟨a, vs, h1, e.sql h2, Reps.mono hA e ds vs h3⟩
  | .set _, _, h => h
  | .dct ks vs, _, h => by
    obtain ⟨a, es, h1, h2, h3, h4, h5⟩ := h
    exact ⟨a, es, h1, h2.imp fun _ z => e _ _ z, Reps.mono hA e ks _ h3, Reps.mono hA e vs _ h4, h5⟩
  | .ins c ds, _, h => by
    obtain ⟨a, vs, h1, h2, h3⟩ := h
    exact ⟨a, vs, h1, h2.mono e, Reps.mono hA e ds vs h3⟩
  | .hd i, _, h => by
    obtain ⟨p, h1, h2⟩ := h
    exact ⟨p, hA i p h1, h2⟩
theorem Reps.mono {G : Gx} {A A' : List (Addr × Addr)} {F F' : Hp} (hA : Pre A A') (e : Sub F F') : ∀ (ds : List D) (vs : List V), Reps G A F vs ds → Reps G A' F' vs ds
  | [], _, h => h
  | d :: ds, _, h => by
    obtain ⟨v, r, h1, h2, h3⟩ := h
    exact ⟨v, r, h1, Rep.mono hA e d v h2, Reps.mono hA e ds r h3⟩
end
mutual
/-- closed data does not hang on the handles -/
theorem Rep.any {G : Gx} {A A' : List (Addr × Addr)} {F : Hp} : ∀ (d : D) (v : V), d.cl = true → Rep G A F v d → Rep G A' F v d
  | .non, _, _, h => h
  | .bl _, _, _, h => h
  | .int _, _, _, h => h
  | .str _, _, _, h => h
  | .tup ds, _, hc, h => by
    obtain ⟨a, vs, h1, h2, h3⟩ := h
    exact ⟨a, vs, h1, h2, Reps.any ds vs hc h3⟩
  | .lst ds, _, hc, h => by
    obtain ⟨a, vs, h1, h2, h3⟩ := h
    exact ⟨a, vs, h1, h2, Reps.any ds vs hc h3⟩
  | .set _, _, _, h => h
  | .dct ks vs, _, hc, h => by
    obtain ⟨a, es, h1, h2, h3, h4, h5⟩ := h
    simp only [D.cl, Bool.and_eq_true] at hc
    exact ⟨a, es, h1, h2, Reps.any ks _ hc.1 h3, Reps.any vs _ hc.2 h4, h5⟩
  | .ins c ds, _, hc, h => by
    obtain ⟨a, vs, h1, h2, h3⟩ := h
    exact ⟨a, vs, h1, h2, Reps.any ds vs hc h3⟩
  | .hd i, _, hc, _ => by cases hc
theorem Reps.any {G : Gx} {A A' : List (Addr × Addr)} {F : Hp} : ∀ (ds : List D) (vs : List V), D.cls ds = true → Reps G A F vs ds → Reps G A' F vs ds
  | [], _, _, h => h
  | d :: ds, _, hc, h => by
    obtain ⟨v, r, h1, h2, h3⟩ := h
    simp only [D.cls, Bool.and_eq_true] at hc
    exact ⟨v, r, h1, Rep.any d v hc.1 h2, Reps.any ds r hc.2 h3⟩
end
section
variable {G : Gx} {A : List (Addr × Addr)} {F : Hp}
theorem Reps.length : ∀ {ds : List D} {vs : List V}, Reps G A F vs ds → vs.length = ds.length
  | [], _, h => by have : _ = [] := h; rw [this]; rfl
  | d :: ds, _, h => by
    obtain ⟨v, r, h1, h2, h3⟩ := h
    rw [h1, List.length_cons, List.length_cons, h3.length]
theorem Reps.nil : Reps G A F [] [] := rfl
theorem Reps.cons {v : V} {d : D} {vs : List V} {ds : List D} (h : Rep G A F v d) (t : Reps G A F vs ds) : Reps G A F (v :: vs) (d :: ds) := ⟨v, vs, rfl, h, t⟩
theorem Reps.get : ∀ {ds : List D} {vs : List V} {i : Nat} {d : D}, Reps G A F vs ds → ds[i]? = some d → ∃ v, vs[i]? = some v ∧ Rep G A F v d
  | [], _, _, _, _, e => by simp at e
  | d :: ds, _, 0, x, h, e => by
    obtain ⟨v, r, h1, h2, h3⟩ := h
    simp at e; subst e
    exact ⟨v, by rw [h1]; rfl, h2⟩
  | d :: ds, _, i + 1, x, h, e => by
    obtain ⟨v, r, h1, h2, h3⟩ := h
    obtain ⟨u, q1, q2⟩ := Reps.get (i := i) h3 (by simpa using e)
    exact ⟨u, by rw [h1]; simpa using q1, q2⟩
theorem Reps.getV {ds : List D} {vs : List V} {i : Nat} {v : V} (h : Reps G A F vs ds) (e : vs[i]? = some v) : ∃ d, ds[i]? = some d ∧ Rep G A F v d := by
  have hl := h.length
  have hi : i < ds.length := by rw [← hl]; exact (List.getElem?_eq_some_iff.mp e).1
  obtain ⟨u, q1, q2⟩ := h.get (List.getElem?_eq_getElem hi)
  rw [e] at q1; cases q1
  exact ⟨_, List.getElem?_eq_getElem hi, q2⟩
theorem Reps.of : ∀ {ds : List D} {vs : List V}, vs.length = ds.length → (∀ (i : Nat) v d, vs[i]? = some v → ds[i]? = some d → Rep G A F v d) → Reps G A F vs ds
  | [], [], _, _ => rfl
  | d :: ds, v :: vs, hl, h => ⟨v, vs, rfl, h 0 v d rfl rfl, Reps.of (by simpa using hl) fun i v d h1 h2 => h (i + 1) v d (by simpa using h1) (by simpa using h2)⟩
  | [], _ :: _, hl, _ => by simp at hl
  | _ :: _, [], hl, _ => by simp at hl
theorem Reps.append : ∀ {ds es : List D} {vs us : List V}, Reps G A F vs ds → Reps G A F us es → Reps G A F (vs ++ us) (ds ++ es)
  | [], _, _, _, h, t => by have : _ = [] := h; rw [this]; exact t
  | d :: ds, _, _, _, h, t => by
    obtain ⟨v, r, h1, h2, h3⟩ := h
    rw [h1]
    exact ⟨v, _, rfl, h2, Reps.append h3 t⟩
theorem Reps.set {ds : List D} {vs : List V} {v : V} {d : D} (i : Nat) (h : Reps G A F vs ds) (r : Rep G A F v d) : Reps G A F (vs.set i v) (ds.set i d) := by
  refine Reps.of (by simpa using h.length) fun j u e h1 h2 => ?_
  by_cases hj : j = i
  · subst hj
    have hi : j < vs.length := by have := (List.getElem?_eq_some_iff.mp h1).1; simpa using this
    have hi' : j < ds.length := by rw [← h.length]; exact hi
    rw [List.getElem?_set_self hi] at h1
    rw [List.getElem?_set_self hi'] at h2
    cases h1; cases h2; exact r
  · rw [List.getElem?_set_ne (Ne.symm hj)] at h1 h2
    obtain ⟨u', q1, q2⟩ := h.get h2
    rw [h1] at q1; cases q1
    exact q2
theorem Reps.map {ds : List D} {vs : List V} (f : List V → List V) (g : List D → List D) (hl : (f vs).length = (g ds).length)
    (ix : ∀ (i : Nat), ∃ j : Nat, (f vs)[i]? = vs[j]? ∧ (g ds)[i]? = ds[j]?) (h : Reps G A F vs ds) : Reps G A F (f vs) (g ds) := by
  refine Reps.of hl fun i v d h1 h2 => ?_
  obtain ⟨j, e1, e2⟩ := ix i
  rw [e1] at h1; rw [e2] at h2
  obtain ⟨u', q1, q2⟩ := h.get h2
  rw [h1] at q1; cases q1
  exact q2
theorem Reps.drop {ds : List D} {vs : List V} (n : Nat) (h : Reps G A F vs ds) : Reps G A F (vs.drop n) (ds.drop n) :=
  h.map (·.drop n) (·.drop n) (by simp [h.length]) fun i => ⟨n + i, List.getElem?_drop, List.getElem?_drop⟩
theorem Reps.take {ds : List D} {vs : List V} (n : Nat) (h : Reps G A F vs ds) : Reps G A F (vs.take n) (ds.take n) := by
  refine Reps.of (by simp [h.length]) fun i v d h1 h2 => ?_
  rw [List.getElem?_take] at h1 h2
  split at h1
  · rename_i hi
    rw [if_pos hi] at h2
    obtain ⟨u', q1, q2⟩ := h.get h2
    rw [h1] at q1; cases q1
    exact q2
  · cases h1
theorem Reps.reverse {ds : List D} {vs : List V} (h : Reps G A F vs ds) : Reps G A F vs.reverse ds.reverse := by
  refine Reps.of (by simp [h.length]) fun i v d h1 h2 => ?_
  have hi : i < vs.length := by have := (List.getElem?_eq_some_iff.mp h1).1; simpa using this
  rw [List.getElem?_reverse hi] at h1
  rw [List.getElem?_reverse (by rw [← h.length]; exact hi), ← h.length] at h2
  obtain ⟨u', q1, q2⟩ := h.get h2
  rw [h1] at q1; cases q1
  exact q2
theorem Reps.erase {ds : List D} {vs : List V} (n : Nat) (h : Reps G A F vs ds) : Reps G A F (vs.eraseIdx n) (ds.eraseIdx n) := by
  rw [List.eraseIdx_eq_take_drop_succ, List.eraseIdx_eq_take_drop_succ]
  exact (h.take n).append (h.drop (n + 1))
end

/-! ### keys -/
section
variable {X : Cx} {pins : List (Addr × Obj)} {σ : L2.St} {H F : Hp} {s : Shared} {G : Gx} {A : List (Addr × Addr)}
mutual
theorem Rep.nested (I : Inv X pins σ H s) (hK : G.K = X.K) (hF : Sub F H) : ∀ (d : D) (v : V) (u : Value) (k : NK), Rep G A F v d → RelV v u → d.key = some k → NestedIs s.heap k u
  | .non, _, _, _, h, r, e => by
    have h : _ = V.non := h
    subst h; cases r; cases e; exact .none
  | .bl b, _, _, _, h, r, e => by
    have h : _ = V.bl b := h
    subst h; cases r; cases e; exact .bool (by cases b <;> rfl)
  | .int i, _, _, _, h, r, e => by
    have h : _ = V.int i := h
    subst h; obtain ⟨t, rfl⟩ := r; cases e; exact .int i t
  | .str x, _, _, _, h, r, e => by
    have h : _ = V.str x := h
    subst h; obtain ⟨t, rfl⟩ := r; cases e; exact .text x t
  | .tup ds, _, _, _, h, r, e => by
    obtain ⟨a, vs, rfl, h2, h3⟩ := h
    cases r
    simp only [D.key, Option.map_eq_some_iff] at e
    obtain ⟨ks, hk, rfl⟩ := e
    rw [hK] at h2
    obtain ⟨its, rv, ⟨o, ho, hc, n, hd⟩, _⟩ := I.tuple (hF.sqt h2)
    exact .tup ho hc hd (by simpa using Reps.nested I hK hF ds vs its ks h3 rv hk)
  | .lst _, _, _, _, _, _, e => by cases e
  | .set _, _, _, _, _, _, e => by cases e
  | .dct _ _, _, _, _, _, _, e => by cases e
  | .ins _ _, _, _, _, _, _, e => by cases e
  | .hd _, _, _, _, _, _, e => by cases e
theorem Reps.nested (I : Inv X pins σ H s) (hK : G.K = X.K) (hF : Sub F H) : ∀ (ds : List D) (vs : List V) (us : List Value) (ks : List NK), Reps G A F vs ds → Vals vs us → D.keys ds = some ks → NestedAll s.heap ks us
  | [], _, _, _, h, r, e => by
    have h : _ = [] := h
    subst h; cases r; cases e; exact .nil
  | d :: ds, _, _, _, h, r, e => by
    obtain ⟨v, vs, rfl, h2, h3⟩ := h
    cases r with
    | cons r1 r2 =>
      simp only [D.keys] at e
      cases hk : D.key d with
      | none => rw [hk] at e; cases e
      | some k =>
        cases hks : D.keys ds with
        | none => rw [hk, hks] at e; cases e
        | some ks =>
          rw [hk, hks] at e; cases e
          exact .cons (Rep.nested I hK hF d v _ k h2 r1 hk) (Reps.nested I hK hF ds vs _ ks h3 r2 hks)
end
theorem keys_get : ∀ {ds : List D} {ks : List NK} {i : Nat} {d : D}, D.keys ds = some ks → ds[i]? = some d → ∃ k, ks[i]? = some k ∧ d.key = some k
  | [], _, _, _, _, h => by simp at h
  | d :: ds, _, i, x, e, h => by
    simp only [D.keys] at e
    cases hk : D.key d with
    | none => rw [hk] at e; cases e
    | some k =>
      cases hks : D.keys ds with
      | none => rw [hk, hks] at e; cases e
      | some ks =>
        rw [hk, hks] at e; cases e
        cases i with
        | zero => simp at h; subst h; exact ⟨k, rfl, hk⟩
        | succ i => simpa using keys_get hks (by simpa using h)
theorem keys_length : ∀ {ds : List D} {ks : List NK}, D.keys ds = some ks → ks.length = ds.length
  | [], _, e => by cases e; rfl
  | d :: ds, _, e => by
    simp only [D.keys] at e
    cases hk : D.key d with
    | none => rw [hk] at e; cases e
    | some k =>
      cases hks : D.keys ds with
      | none => rw [hk, hks] at e; cases e
      | some ks =>
        rw [hk, hks] at e; cases e
        simp [keys_length hks]
theorem pairedEV_get {es : List EntV} {xs : List Ent} : Paired EV es xs → ∀ {i : Nat} {q : Ent}, xs[i]? = some q → ∃ p, es[i]? = some p ∧ EV p q := by
  intro r
  induction r with
  | nil => intro i q h; simp at h
  | cons p t ih =>
    intro i q h
    cases i with
    | zero => simp at h; subst h; exact ⟨_, rfl, p⟩
    | succ i => simpa using ih (by simpa using h)
/-- the keys of a dict, as they stand -/
theorem ksOk_of (I : Inv X pins σ H s) (hK : G.K = X.K) (hF : Sub F H) {es : List EntV} {xs : List Ent} {ks : List D} (r : Paired EV es xs) (hk : Reps G A F (es.map (·.2.1)) ks) (hks : D.keys ks = some (es.map (·.1))) (nd : (es.map (·.1)).Nodup) (hd : ∀ e ∈ es, e.1.depth ≤ 8) : KsOk s.heap xs := by
  have em : es.map (·.1) = xs.map (·.1) := by
    clear hk hks nd hd
    induction r with
    | nil => rfl
    | cons p t ih => rw [List.map_cons, List.map_cons, ih, p.1]
  refine ⟨fun x hx => ?_, by rw [← em]; exact nd⟩
  obtain ⟨i, hi⟩ := List.mem_iff_getElem?.mp hx
  obtain ⟨p, hp, e1, e2, e3⟩ := pairedEV_get r hi
  obtain ⟨d, h1, h2⟩ := hk.getV (i := i) (v := p.2.1) (by rw [List.getElem?_map, hp]; rfl)
  obtain ⟨k, h3, h4⟩ := keys_get hks h1
  rw [List.getElem?_map, hp] at h3
  have h3 : p.1 = k := Option.some.inj h3
  refine ⟨?_, by rw [← e1]; exact hd p (List.mem_of_getElem? hp)⟩
  rw [← e1, h3]
  exact Rep.nested I hK hF d _ _ k h2 e2 h4
end
end Z

/-! the store of handles, what an evaluation is, what a reading by value is -/
namespace Z
open PySem PySem.Spec PyProof.Rows L2 SlX

abbrev Al := List (Addr × Addr)
/-- the places of the handles that are still changed -/
def fpH (A : Al) (μ : Sto) (b : Addr) : Prop := ∃ (i : Nat) (p : Addr × Addr) (n : Node), A[i]? = some p ∧ μ[i]? = some (some n) ∧ (b = p.1 ∨ b = p.2)
open Classical in
/-- the part of the heap that is not changed any more -/
noncomputable def hide (B : Addr → Prop) (H : Hp) (A : Al) (μ : Sto) : Hp := fun b => if B b ∨ fpH A μ b then none else H b
theorem hide_sub {B : Addr → Prop} {H : Hp} {A : Al} {μ : Sto} : Sub (hide B H A μ) H := fun a o h => by
  unfold hide at h
  split at h
  · cases h
  · exact h
theorem hide_eq {B : Addr → Prop} {H : Hp} {A : Al} {μ : Sto} {b : Addr} (h1 : ¬ B b) (h2 : ¬ fpH A μ b) : hide B H A μ b = H b := by
  unfold hide
  rw [if_neg (fun h => h.elim h1 h2)]
theorem of_hide {B : Addr → Prop} {H : Hp} {A : Al} {μ : Sto} {b : Addr} {o : HO} (h : hide B H A μ b = some o) : H b = some o ∧ ¬ B b ∧ ¬ fpH A μ b := by
  unfold hide at h
  split at h
  · cases h
  · rename_i hn
    exact ⟨h, fun z => hn (.inl z), fun z => hn (.inr z)⟩

def NodeAt (G : Gx) (A : Al) (F H : Hp) (p : Addr × Addr) : Node → Prop
  | .lst ds => p.2 = p.1 ∧ ∃ vs, H p.1 = some (.lst vs) ∧ Reps G A F vs ds
  | .dct ks vs => p.2 = p.1 ∧ ∃ es, H p.1 = some (DicO G.w p.1 es) ∧ Reps G A F (es.map (·.2.1)) ks ∧ Reps G A F (es.map (·.2.2)) vs ∧ D.keys ks = some (es.map (·.1)) ∧ (es.map (·.1)).Nodup ∧ ∀ e ∈ es, e.1.depth ≤ 8
  | .ins c fs => p.2 ≠ p.1 ∧ (∃ o, H p.2 = some o) ∧ ∃ ci C, G.cls c = some ci ∧ (ci.exc = false ∧ G.mg c = some (.ref C)) ∧
      if ci.slots = true then ∃ svs, Slt H p.1 C p.2 svs ∧ ∀ f d, fs.lookup f = some d → ∃ q i v, Slot1 G.K C f q i ∧ svs[i]? = some (some v) ∧ Rep G A F v d
      else ∃ vs, H p.1 = some (.ins C p.2 ((fs.map (·.1)).zip vs)) ∧ Reps G A F vs (fs.map (·.2))

structure RelS (G : Gx) (B : Addr → Prop) (A : Al) (H : Hp) (μ : Sto) : Prop where
  len : A.length = μ.length
  inj : ∀ (i j : Nat) p q n m, A[i]? = some p → A[j]? = some q → μ[i]? = some (some n) → μ[j]? = some (some m) → (p.1 = q.1 ∨ p.1 = q.2 ∨ p.2 = q.1 ∨ p.2 = q.2) → i = j
  out : ∀ (i : Nat) p n, A[i]? = some p → μ[i]? = some (some n) → ¬ B p.1 ∧ ¬ B p.2
  bex : ∀ b, B b → ∃ o, H b = some o
  node : ∀ (i : Nat) p n, A[i]? = some p → μ[i]? = some (some n) → NodeAt G A (hide B H A μ) H p n
abbrev Env' := List (Option D)
def RelE (G : Gx) (A : Al) (F : Hp) (σ : L2.St) (ρ : Env') : Prop := ρ.length = σ.length ∧ ∀ (i : Nat) d, ρ[i]? = some (some d) → ∃ v, σ[i]? = some (some v) ∧ Rep G A F v d
structure Step (B : Addr → Prop) (A : Al) (H : Hp) (μ : Sto) (A' : Al) (H' : Hp) (μ' : Sto) : Prop where
  pre : Pre A A'
  sub : Sub (hide B H A μ) (hide B H' A' μ')
  keep : ∀ b o, B b → H b = some o → H' b = some o
theorem Step.refl (B : Addr → Prop) (A : Al) (H : Hp) (μ : Sto) : Step B A H μ A H μ := ⟨Pre.refl A, Sub.refl _, fun _ _ _ h => h⟩
theorem Step.trans {B : Addr → Prop} {A A1 A2 : Al} {H H1 H2 : Hp} {μ μ1 μ2 : Sto} (a : Step B A H μ A1 H1 μ1) (b : Step B A1 H1 μ1 A2 H2 μ2) : Step B A H μ A2 H2 μ2 :=
  ⟨a.pre.trans b.pre, a.sub.trans b.sub, fun x o h1 h2 => b.keep x o h1 (a.keep x o h1 h2)⟩
theorem RelE.mono {G : Gx} {B : Addr → Prop} {A A' : Al} {H H' : Hp} {μ μ' : Sto} {σ : L2.St} {ρ : Env'} (h : RelE G A (hide B H A μ) σ ρ) (s : Step B A H μ A' H' μ') : RelE G A' (hide B H' A' μ') σ ρ :=
  ⟨h.1, fun i d e => let ⟨v, e1, r⟩ := h.2 i d e; ⟨v, e1, r.mono s.pre s.sub⟩⟩

/-! ### what an evaluation gives -/
inductive Res (α : Type) where
  | ok (a : α) (μ : Sto)
  | exc (c : Str) (ds : List D) (μ : Sto)
  | bad
def Res.bind {α β : Type} (r : Res α) (k : α → Sto → Res β) : Res β := match r with
  | .ok a μ => k a μ
  | .exc c ds μ => .exc c ds μ
  | .bad => .bad
abbrev Ev (α : Type) := Env' → Sto → Res α

/-- an exception that is in the air: its class, its own dict -/
def ExcAt (G : Gx) (A : Al) (F : Hp) (c : Str) (ds : List D) (cls : Value) (o : Option Addr) : Prop :=
  ∃ ci C, G.cls c = some ci ∧ G.mg c = some (.ref C) ∧ cls = .ref C ∧ match ci.order with
    | [] => ds = []
    | _ => ∃ d vs, o = some d ∧ F d = some (.xd (ci.order.zip vs)) ∧ vs.length = ci.order.length ∧ Reps G A F vs ds

section
variable {α β : Type}
/-- what is wanted of an evaluation's end; R: how its value lies -/
def Want (G : Gx) (W : WX) (R : Al → Hp → β → α → Prop) (B : Addr → Prop) (A : Al) (H : Hp) (μ : Sto) (σ : L2.St) (r : Res α) (Q : β → Hp → Prop) : Prop := match r with
  | .ok d μ' => ∀ v A' H', RelS G B A' H' μ' → R A' (hide B H' A' μ') v d → Step B A H μ A' H' μ' → Q v H'
  | .exc c ds μ' => ∀ cls o A' H', RelS G B A' H' μ' → ExcAt G A' (hide B H' A' μ') c ds cls o → Step B A H μ A' H' μ' → W cls o σ H'
  | .bad => False
theorem Want.ok {G : Gx} {W : WX} {R : Al → Hp → β → α → Prop} {B : Addr → Prop} {A A1 : Al} {H H1 : Hp} {μ μ1 : Sto} {σ : L2.St} {d : α} {v : β} {Q : β → Hp → Prop}
    (w : Want G W R B A H μ σ (.ok d μ1) Q) (rel : RelS G B A1 H1 μ1) (r : R A1 (hide B H1 A1 μ1) v d) (s : Step B A H μ A1 H1 μ1) : Q v H1 := w v A1 H1 rel r s
theorem Want.step {G : Gx} {W : WX} {R : Al → Hp → β → α → Prop} {B : Addr → Prop} {A A1 : Al} {H H1 : Hp} {μ μ1 : Sto} {σ : L2.St} {r : Res α} {Q : β → Hp → Prop}
    (w : Want G W R B A H μ σ r Q) (s : Step B A H μ A1 H1 μ1) : Want G W R B A1 H1 μ1 σ r Q := by
  cases r with
  | ok d μ' => exact fun v A' H' h1 h2 h3 => w v A' H' h1 h2 (s.trans h3)
  | exc c ds μ' => exact fun cls o A' H' h1 h2 h3 => w cls o A' H' h1 h2 (s.trans h3)
  | bad => exact w
theorem Want.mono {G : Gx} {W : WX} {R : Al → Hp → β → α → Prop} {B : Addr → Prop} {A : Al} {H : Hp} {μ : Sto} {σ : L2.St} {r : Res α} {Q Q' : β → Hp → Prop}
    (w : Want G W R B A H μ σ r Q) (h : ∀ v H', Q v H' → Q' v H') : Want G W R B A H μ σ r Q' := by
  cases r with
  | ok d μ' => exact fun v A' H' h1 h2 h3 => h _ _ (w v A' H' h1 h2 h3)
  | exc c ds μ' => exact w
  | bad => exact w
end
/-- a reading by value -/
def tV {α β : Type} (G : Gx) (W : WX) (R : Al → Hp → β → α → Prop) (f : Ev α) : L2.St → Hp → (β → Hp → Prop) → Prop := fun σ H Q =>
  ∃ (B : Addr → Prop) (A : Al) (ρ : Env') (μ : Sto), RelS G B A H μ ∧ RelE G A (hide B H A μ) σ ρ ∧ Want G W R B A H μ σ (f ρ μ) Q
abbrev tX (G : Gx) (W : WX) (f : Ev D) : TE := tV G W (fun A F v d => Rep G A F v d) f
abbrev tT (G : Gx) (W : WX) (f : Ev Bool) : TT := tV G W (fun _ _ v d => v = d) f
abbrev tL (G : Gx) (W : WX) (f : Ev (List D)) : TA := tV G W (fun A F v d => Reps G A F v d) f

/-- one part is evaluated, the rest follows -/
theorem tV_step {α β α' β' : Type} {G : Gx} {W : WX} {R : Al → Hp → β → α → Prop} {R' : Al → Hp → β' → α' → Prop} {B : Addr → Prop} {A : Al} {H : Hp} {σ : L2.St} {ρ : Env'} {μ : Sto} {f : Ev α} {k : α → Sto → Res α'} {Q : β' → Hp → Prop} {Q1 : β → Hp → Prop}
    (rel : RelS G B A H μ) (re : RelE G A (hide B H A μ) σ ρ) (w : Want G W R' B A H μ σ ((f ρ μ).bind k) Q)
    (h : ∀ v d A1 H1 μ1, f ρ μ = .ok d μ1 → RelS G B A1 H1 μ1 → RelE G A1 (hide B H1 A1 μ1) σ ρ → R A1 (hide B H1 A1 μ1) v d → Step B A H μ A1 H1 μ1 → Want G W R' B A1 H1 μ1 σ (k d μ1) Q → Q1 v H1) : tV G W R f σ H Q1 := by
  refine ⟨B, A, ρ, μ, rel, re, ?_⟩
  cases e : f ρ μ with
  | ok d μ1 =>
    rw [e] at w
    exact fun v A1 H1 r1 p1 s1 => h v d A1 H1 μ1 e r1 (re.mono s1) p1 s1 (Want.step w s1)
  | exc c ds μ1 =>
    rw [e] at w
    exact w
  | bad =>
    rw [e] at w
    exact w
theorem PE.of {X : Cx} {e : Expr} {t t' : TE} (h : PE X e t) (w : ∀ σ H Q, t' σ H Q → t σ H Q) : PE X e t' := ⟨fun pins s σ H Q I q => h.run pins s σ H Q I (w σ H Q q)⟩
theorem PT.of {X : Cx} {e : Expr} {t t' : TT} (h : PT X e t) (w : ∀ σ H Q, t' σ H Q → t σ H Q) : PT X e t' := ⟨fun pins s σ H Q I q => h.run pins s σ H Q I (w σ H Q q)⟩
theorem PA.of {X : Cx} {e : List Expr} {t t' : TA} (h : PA X e t) (w : ∀ σ H Q, t' σ H Q → t σ H Q) : PA X e t' := ⟨fun pos pins s σ H Q I q => h.run pos pins s σ H Q I (w σ H Q q)⟩
theorem PS.of {X : Cx} {e : Stmt} {t t' : TS} (h : PS X e t) (w : ∀ D σ H, t' D σ H → t D σ H) : PS X e t' := ⟨fun pins s σ H D I q => h.run pins s σ H D I (w D σ H q)⟩
theorem PSs.of {X : Cx} {e : List Stmt} {t t' : TS} (h : PSs X e t) (w : ∀ D σ H, t' D σ H → t D σ H) : PSs X e t' := ⟨fun pins s σ H D I q => h.run pins s σ H D I (w D σ H q)⟩
/-- a reading that may look at the invariant -/
theorem PE.ofI {X : Cx} {e : Expr} {t t' : TE} (h : PE X e t) (w : ∀ pins s σ H Q, Inv X pins σ H s → t' σ H Q → t σ H Q) : PE X e t' := ⟨fun pins s σ H Q I q => h.run pins s σ H Q I (w pins s σ H Q I q)⟩

abbrev gx (X : Cx) (cls : Str → Option CI) : Gx := ⟨X.prog, X.w, X.K, X.mg, cls⟩

/-! ### new things -/
section
variable {G : Gx} {B : Addr → Prop} {A A' : Al} {F F' H H' : Hp} {μ : Sto} {p q : Addr × Addr} {n : Node}
theorem NodeAt.mono (hA : Pre A A') (hF : Sub F F') (h1 : H' p.1 = H p.1) (h2 : H' p.2 = H p.2) (h : NodeAt G A F H p n) : NodeAt G A' F' H' p n := by
  cases n with
  | lst ds =>
    obtain ⟨e, vs, h, r⟩ := h
    exact ⟨e, vs, h1.trans h, r.mono hA hF⟩
  | dct ks vs =>
    obtain ⟨e, es, h, r1, r2, r3⟩ := h
    exact ⟨e, es, h1.trans h, r1.mono hA hF, r2.mono hA hF, r3⟩
  | ins c fs =>
    obtain ⟨e, ⟨o, ho⟩, ci, C, h3, h4, h⟩ := h
    refine ⟨e, ⟨o, h2.trans ho⟩, ci, C, h3, h4, ?_⟩
    by_cases hs : ci.slots = true
    · rw [if_pos hs] at h ⊢
      obtain ⟨svs, h, r⟩ := h
      refine ⟨svs, ?_, fun f d hf => ?_⟩
      · rcases h with ⟨z1, z2⟩ | ⟨z1, z2⟩
        · exact .inl ⟨h1.trans z1, z2⟩
        · exact .inr ⟨h1.trans z1, h2.trans z2⟩
      · obtain ⟨q, i, v, z1, z2, z3⟩ := r f d hf
        exact ⟨q, i, v, z1, z2, z3.mono hA hF⟩
    · rw [if_neg hs] at h ⊢
      obtain ⟨vs, h, r⟩ := h
      exact ⟨vs, h1.trans h, r.mono hA hF⟩
theorem NodeAt.there (h : NodeAt G A F H p n) : (∃ o, H p.1 = some o) ∧ ∃ o, H p.2 = some o := by
  cases n with
  | lst ds =>
    obtain ⟨e, vs, h, _⟩ := h
    exact ⟨⟨_, h⟩, by rw [e]; exact ⟨_, h⟩⟩
  | dct ks vs =>
    obtain ⟨e, es, h, _⟩ := h
    exact ⟨⟨_, h⟩, by rw [e]; exact ⟨_, h⟩⟩
  | ins c fs =>
    obtain ⟨_, h2, ci, C, _, _, h⟩ := h
    refine ⟨?_, h2⟩
    split at h
    · obtain ⟨svs, h, _⟩ := h
      rcases h with ⟨h, _⟩ | ⟨h, _⟩
      · exact ⟨_, h⟩
      · exact ⟨_, h⟩
    · obtain ⟨vs, h, _⟩ := h
      exact ⟨_, h⟩
end
section
variable {G : Gx} {B : Addr → Prop} {A : Al} {H : Hp} {μ : Sto} {p : Addr} {o : HO}
theorem RelS.fresh (rel : RelS G B A H μ) (hp : H p = none) : ¬ B p ∧ ¬ fpH A μ p := by
  refine ⟨fun h => ?_, fun ⟨i, q, n, h1, h2, h3⟩ => ?_⟩
  · obtain ⟨o, e⟩ := rel.bex p h
    rw [hp] at e; cases e
  · obtain ⟨⟨o1, e1⟩, o2, e2⟩ := (rel.node i q n h1 h2).there
    rcases h3 with e | e
    · rw [← e, hp] at e1; cases e1
    · rw [← e, hp] at e2; cases e2
theorem hide_upd_sub (hp : H p = none) : Sub (hide B H A μ) (hide B (upd H p o) A μ) := fun b u h => by
  obtain ⟨h1, h2, h3⟩ := of_hide h
  rw [hide_eq h2 h3, upd_ne (ne_of_none h1 hp)]
  exact h1
/-- a new thing that nobody changes any more -/
theorem RelS.frozen (rel : RelS G B A H μ) (hp : H p = none) : RelS G B A (upd H p o) μ ∧ Step B A H μ A (upd H p o) μ ∧ hide B (upd H p o) A μ p = some o := by
  obtain ⟨f1, f2⟩ := rel.fresh hp
  refine ⟨⟨rel.len, rel.inj, rel.out, fun b hb => ?_, fun i q n h1 h2 => ?_⟩, ⟨Pre.refl A, hide_upd_sub hp, fun b u _ h => ?_⟩, ?_⟩
  · obtain ⟨u, e⟩ := rel.bex b hb
    exact ⟨u, by rw [upd_ne (ne_of_none e hp)]; exact e⟩
  · have nd := rel.node i q n h1 h2
    obtain ⟨⟨o1, e1⟩, o2, e2⟩ := nd.there
    exact nd.mono (Pre.refl A) (hide_upd_sub hp) (upd_ne (ne_of_none e1 hp)) (upd_ne (ne_of_none e2 hp))
  · rw [upd_ne (ne_of_none h hp)]; exact h
  · rw [hide_eq f1 f2, upd_same]
theorem pre_push (A : Al) (q : Addr × Addr) : Pre A (A ++ [q]) := fun i p h => by
  rw [List.getElem?_append_left (List.getElem?_eq_some_iff.mp h).1]; exact h
theorem fpH_push {A : Al} {μ : Sto} (hl : A.length = μ.length) {q : Addr × Addr} {n : Node} {b : Addr} : fpH (A ++ [q]) (μ ++ [some n]) b ↔ fpH A μ b ∨ b = q.1 ∨ b = q.2 := by
  constructor
  · rintro ⟨i, p, m, h1, h2, h3⟩
    by_cases hi : i < A.length
    · rw [List.getElem?_append_left hi] at h1
      rw [List.getElem?_append_left (by rw [← hl]; exact hi)] at h2
      exact .inl ⟨i, p, m, h1, h2, h3⟩
    · rw [List.getElem?_append_right (by omega)] at h1
      have : i - A.length = 0 := by
        by_cases z : i - A.length = 0
        · exact z
        · rw [List.getElem?_eq_none (by simp; omega)] at h1; cases h1
      rw [this] at h1
      have h1 : q = p := by simpa using h1
      subst h1
      exact .inr h3
  · rintro (⟨i, p, m, h1, h2, h3⟩ | h)
    · refine ⟨i, p, m, ?_, ?_, h3⟩
      · rw [List.getElem?_append_left (List.getElem?_eq_some_iff.mp h1).1]; exact h1
      · rw [List.getElem?_append_left (List.getElem?_eq_some_iff.mp h2).1]; exact h2
    · exact ⟨A.length, q, n, by simp, by rw [hl]; simp, h⟩
/-- a new thing that is changed further on: a new handle. q: its places, H': the heap with it -/
theorem RelS.handle {H' : Hp} {q : Addr × Addr} {n : Node} (rel : RelS G B A H μ) (h1 : H q.1 = none) (h2 : H q.2 = none) (ho : ∀ b, b ≠ q.1 → b ≠ q.2 → H' b = H b)
    (nd : NodeAt G (A ++ [q]) (hide B H A μ) H' q n) : RelS G B (A ++ [q]) H' (μ ++ [some n]) ∧ Step B A H μ (A ++ [q]) H' (μ ++ [some n]) := by
  obtain ⟨f1, f2⟩ := rel.fresh h1
  obtain ⟨f3, f4⟩ := rel.fresh h2
  have kp : ∀ b u, H b = some u → H' b = some u := fun b u e => by
    rw [ho b (fun z => by rw [z, h1] at e; cases e) (fun z => by rw [z, h2] at e; cases e)]; exact e
  have hs : Sub (hide B H A μ) (hide B H' (A ++ [q]) (μ ++ [some n])) := fun b u e => by
    obtain ⟨z1, z2, z3⟩ := of_hide e
    have nf : ¬ fpH (A ++ [q]) (μ ++ [some n]) b := fun z => by
      rcases (fpH_push rel.len).mp z with z | z | z
      · exact z3 z
      · rw [z, h1] at z1; cases z1
      · rw [z, h2] at z1; cases z1
    rw [hide_eq z2 nf]
    exact kp b u z1
  have get : ∀ {i : Nat} {p : Addr × Addr} {m : Node}, (A ++ [q])[i]? = some p → (μ ++ [some n])[i]? = some (some m) → (A[i]? = some p ∧ μ[i]? = some (some m)) ∨ (i = A.length ∧ p = q ∧ m = n) := fun {i p m} e1 e2 => by
    by_cases hi : i < A.length
    · rw [List.getElem?_append_left hi] at e1
      rw [List.getElem?_append_left (by rw [← rel.len]; exact hi)] at e2
      exact .inl ⟨e1, e2⟩
    · have hi' : i < A.length + 1 := by have := (List.getElem?_eq_some_iff.mp e1).1; simpa using this
      have : i = A.length := by omega
      subst this
      have e1 : q = p := by simpa using e1
      rw [rel.len] at e2
      have e2 : n = m := by simpa using e2
      exact .inr ⟨rfl, e1.symm, e2.symm⟩
  have fin : ∀ {i : Nat} {p : Addr × Addr} {m : Node}, A[i]? = some p → μ[i]? = some (some m) → p.1 ≠ q.1 ∧ p.1 ≠ q.2 ∧ p.2 ≠ q.1 ∧ p.2 ≠ q.2 := fun {i p m} e1 e2 => by
    obtain ⟨⟨o1, z1⟩, o2, z2⟩ := (rel.node i p m e1 e2).there
    exact ⟨fun z => (by rw [z, h1] at z1; cases z1), fun z => (by rw [z, h2] at z1; cases z1), fun z => (by rw [z, h1] at z2; cases z2), fun z => (by rw [z, h2] at z2; cases z2)⟩
  refine ⟨⟨by simp [rel.len], fun i j p r m k e1 e2 e3 e4 e5 => ?_, fun i p m e1 e2 => ?_, fun b hb => ?_, fun i p m e1 e2 => ?_⟩, ⟨pre_push A q, hs, fun b u _ e => kp b u e⟩⟩
  · rcases get e1 e3 with ⟨y1, y2⟩ | ⟨y1, y2, y3⟩
    · rcases get e2 e4 with ⟨x1, x2⟩ | ⟨x1, x2, x3⟩
      · exact rel.inj i j p r m k y1 x1 y2 x2 e5
      · obtain ⟨w1, w2, w3, w4⟩ := fin y1 y2
        rw [x2] at e5
        rcases e5 with z | z | z | z
        · exact absurd z w1
        · exact absurd z w2
        · exact absurd z w3
        · exact absurd z w4
    · rcases get e2 e4 with ⟨x1, x2⟩ | ⟨x1, x2, x3⟩
      · obtain ⟨w1, w2, w3, w4⟩ := fin x1 x2
        rw [y2] at e5
        rcases e5 with z | z | z | z
        · exact absurd z.symm w1
        · exact absurd z.symm w3
        · exact absurd z.symm w2
        · exact absurd z.symm w4
      · rw [y1, x1]
  · rcases get e1 e2 with ⟨y1, y2⟩ | ⟨y1, y2, y3⟩
    · exact rel.out i p m y1 y2
    · rw [y2]; exact ⟨f1, f3⟩
  · obtain ⟨u, e⟩ := rel.bex b hb
    exact ⟨u, kp b u e⟩
  · rcases get e1 e2 with ⟨y1, y2⟩ | ⟨y1, y2, y3⟩
    · obtain ⟨w1, w2, w3, w4⟩ := fin y1 y2
      exact (rel.node i p m y1 y2).mono (pre_push A q) hs (ho _ w1 w2) (ho _ w3 w4)
    · rw [y2, y3]
      exact nd.mono (Pre.refl _) hs rfl rfl
theorem fpH_set {A : Al} {μ : Sto} {i : Nat} {n n' : Node} (h : μ[i]? = some (some n)) {b : Addr} : fpH A (μ.set i (some n')) b ↔ fpH A μ b := by
  have hi : i < μ.length := (List.getElem?_eq_some_iff.mp h).1
  constructor
  · rintro ⟨j, p, m, h1, h2, h3⟩
    by_cases e : j = i
    · subst e; exact ⟨j, p, n, h1, h, h3⟩
    · rw [List.getElem?_set_ne (Ne.symm e)] at h2; exact ⟨j, p, m, h1, h2, h3⟩
  · rintro ⟨j, p, m, h1, h2, h3⟩
    by_cases e : j = i
    · subst e; exact ⟨j, p, n', h1, List.getElem?_set_self hi, h3⟩
    · exact ⟨j, p, m, h1, by rw [List.getElem?_set_ne (Ne.symm e)]; exact h2, h3⟩
/-- a handle's thing is changed -/
theorem RelS.change {H' : Hp} {i : Nat} {q : Addr × Addr} {n n' : Node} (rel : RelS G B A H μ) (hq : A[i]? = some q) (hn : μ[i]? = some (some n)) (ho : ∀ b, b ≠ q.1 → b ≠ q.2 → H' b = H b)
    (nd : NodeAt G A (hide B H A μ) H' q n') : RelS G B A H' (μ.set i (some n')) ∧ Step B A H μ A H' (μ.set i (some n')) := by
  have hi : i < μ.length := (List.getElem?_eq_some_iff.mp hn).1
  obtain ⟨b1, b2⟩ := rel.out i q n hq hn
  have hs : hide B H' A (μ.set i (some n')) = hide B H A μ := by
    funext b
    by_cases hb : B b ∨ fpH A μ b
    · unfold hide
      rw [if_pos hb, if_pos (hb.imp id (fpH_set hn).mpr)]
    · have n1 : ¬ B b := fun z => hb (.inl z)
      have n2 : ¬ fpH A μ b := fun z => hb (.inr z)
      rw [hide_eq n1 n2, hide_eq n1 (fun z => n2 ((fpH_set hn).mp z))]
      exact ho b (fun z => n2 ⟨i, q, n, hq, hn, .inl z⟩) (fun z => n2 ⟨i, q, n, hq, hn, .inr z⟩)
  have get : ∀ {j : Nat} {m : Node}, (μ.set i (some n'))[j]? = some (some m) → (j = i ∧ m = n') ∨ (j ≠ i ∧ μ[j]? = some (some m)) := fun {j m} e => by
    by_cases z : j = i
    · subst z
      rw [List.getElem?_set_self hi] at e
      cases e
      exact .inl ⟨rfl, rfl⟩
    · rw [List.getElem?_set_ne (Ne.symm z)] at e
      exact .inr ⟨z, e⟩
  have alive : ∀ {j : Nat} {m : Node}, (μ.set i (some n'))[j]? = some (some m) → ∃ m', μ[j]? = some (some m') := fun {j m} e => by
    rcases get e with ⟨z, _⟩ | ⟨_, z⟩
    · rw [z]; exact ⟨n, hn⟩
    · exact ⟨m, z⟩
  refine ⟨⟨by simpa using rel.len, fun j k p r m l e1 e2 e3 e4 e5 => ?_, fun j p m e1 e2 => ?_, fun b hb => ?_, fun j p m e1 e2 => ?_⟩, ⟨Pre.refl A, by rw [hs]; exact Sub.refl _, fun b u hb e => ?_⟩⟩
  · obtain ⟨m', z1⟩ := alive e3
    obtain ⟨l', z2⟩ := alive e4
    exact rel.inj j k p r m' l' e1 e2 z1 z2 e5
  · obtain ⟨m', z1⟩ := alive e2
    exact rel.out j p m' e1 z1
  · obtain ⟨u, e⟩ := rel.bex b hb
    exact ⟨u, by rw [ho b (fun z => b1 (z ▸ hb)) (fun z => b2 (z ▸ hb))]; exact e⟩
  · rw [hs]
    rcases get e2 with ⟨z1, z2⟩ | ⟨z1, z2⟩
    · subst z1
      rw [hq] at e1; cases e1
      rw [z2]; exact nd
    · have ne : ∀ a b, (a = p.1 ∨ a = p.2) → (b = q.1 ∨ b = q.2) → a ≠ b := fun a b ha hb z => z1 (rel.inj j i p q m n e1 hq z2 hn (by
        rcases ha with ha | ha <;> rcases hb with hb | hb <;> (subst ha; subst hb; simp [z])))
      exact (rel.node j p m e1 z2).mono (Pre.refl A) (Sub.refl _) (ho _ (ne _ _ (.inl rfl) (.inl rfl)) (ne _ _ (.inl rfl) (.inr rfl))) (ho _ (ne _ _ (.inr rfl) (.inl rfl)) (ne _ _ (.inr rfl) (.inr rfl)))
  · rw [ho b (fun z => b1 (z ▸ hb)) (fun z => b2 (z ▸ hb))]; exact e
theorem fpH_kill {A : Al} {μ : Sto} {i : Nat} {b : Addr} (h : fpH A (μ.set i none) b) : fpH A μ b := by
  obtain ⟨j, p, m, h1, h2, h3⟩ := h
  by_cases e : j = i
  · subst e
    by_cases hi : j < μ.length
    · rw [List.getElem?_set_self hi] at h2; cases h2
    · rw [List.getElem?_eq_none (by simpa using hi)] at h2; cases h2
  · rw [List.getElem?_set_ne (Ne.symm e)] at h2
    exact ⟨j, p, m, h1, h2, h3⟩
/-- a handle's thing is not changed any more -/
theorem RelS.freeze {i : Nat} {q : Addr × Addr} {n : Node} (rel : RelS G B A H μ) (hq : A[i]? = some q) (hn : μ[i]? = some (some n)) :
    RelS G B A H (μ.set i none) ∧ Step B A H μ A H (μ.set i none) ∧ hide B H A (μ.set i none) q.1 = H q.1 ∧ hide B H A (μ.set i none) q.2 = H q.2 := by
  have hs : Sub (hide B H A μ) (hide B H A (μ.set i none)) := fun b u e => by
    obtain ⟨z1, z2, z3⟩ := of_hide e
    rw [hide_eq z2 (fun z => z3 (fpH_kill z))]
    exact z1
  obtain ⟨b1, b2⟩ := rel.out i q n hq hn
  have get : ∀ {j : Nat} {m : Node}, (μ.set i none)[j]? = some (some m) → j ≠ i ∧ μ[j]? = some (some m) := fun {j m} e => by
    by_cases z : j = i
    · subst z
      rw [List.getElem?_set_self (List.getElem?_eq_some_iff.mp hn).1] at e
      cases e
    · rw [List.getElem?_set_ne (Ne.symm z)] at e
      exact ⟨z, e⟩
  have nf : ∀ b, (b = q.1 ∨ b = q.2) → ¬ fpH A (μ.set i none) b := fun b hb ⟨j, p, m, h1, h2, h3⟩ => by
    obtain ⟨z1, z2⟩ := get h2
    refine z1 (rel.inj j i p q m n h1 hq z2 hn ?_)
    rcases hb with hb | hb <;> rcases h3 with h3 | h3 <;> (rw [hb] at h3; simp [h3])
  refine ⟨⟨by simpa using rel.len, fun j k p r m l e1 e2 e3 e4 e5 => rel.inj j k p r m l e1 e2 (get e3).2 (get e4).2 e5, fun j p m e1 e2 => rel.out j p m e1 (get e2).2, rel.bex, fun j p m e1 e2 => ?_⟩, ⟨Pre.refl A, hs, fun b u _ e => e⟩, hide_eq b1 (nf _ (.inl rfl)), hide_eq b2 (nf _ (.inr rfl))⟩
  exact (rel.node j p m e1 (get e2).2).mono (Pre.refl A) hs rfl rfl
end
end Z

set_option maxHeartbeats 4000000
/-! == and != of data by value -/
namespace Z
open PySem PySem.Spec PyProof.Rows L2 SlX
open PySem.SeqAt (EqIn EqAt RcAt RcNeAt rcIn_lists rcIn_tuples)

/-- the place of a key -/
def D.ixOf (ks : List D) (k : NK) : Option Nat := ks.findIdx? fun d => decide (d.key = some k)
def D.look (ks vs : List D) (k : NK) : Option D := (D.ixOf ks k).bind fun i => vs[i]?
def and2 : Option Bool → Option Bool → Option Bool
  | some a, some b => some (a && b)
  | _, _ => none
mutual
/-- d == e; none: not told here -/
def eqD : D → D → Option Bool
  | .non, e => match e with
    | .non => some true | .bl _ => some false | .int _ => some false | .str _ => some false | .tup _ => some false | .lst _ => some false | _ => none
  | .bl a, e => match e with
    | .bl b => some (a == b) | .int j => some ((if a then 1 else 0) == j) | .non => some false | .str _ => some false | .tup _ => some false | .lst _ => some false | _ => none
  | .int i, e => match e with
    | .bl b => some (i == (if b then 1 else 0)) | .int j => some (i == j) | .non => some false | .str _ => some false | .tup _ => some false | .lst _ => some false | _ => none
  | .str x, e => match e with
    | .str y => some (x == y) | .non => some false | .bl _ => some false | .int _ => some false | .tup _ => some false | .lst _ => some false | _ => none
  | .tup a, e => match e with
    | .tup b => (eqDs a b).map (· && a.length == b.length) | .non => some false | .bl _ => some false | .int _ => some false | .str _ => some false | .lst _ => some false | _ => none
  | .lst a, e => match e with
    | .lst b => if a.length = b.length then eqDs a b else some false
    | .non => some false | .bl _ => some false | .int _ => some false | .str _ => some false | .tup _ => some false | _ => none
  | .dct ks vs, e => match e with
    | .dct kb vb => if ks.length = kb.length then eqKV ks vs kb vb else some false
    | _ => none
  | .set _, _ => none
  | .ins _ _, _ => none
  | .hd _, _ => none
/-- item by item, up to the shorter one's end -/
def eqDs : List D → List D → Option Bool
  | [], _ => some true
  | d :: ds, es => match es with
    | [] => some true
    | e :: es => and2 (eqD d e) (eqDs ds es)
def eqKV : List D → List D → List D → List D → Option Bool
  | _, [], _, _ => some true
  | ks, v :: vs, kb, vb => match ks with
    | [] => some true
    | k :: ks => match (k.key).bind (D.look kb vb) with
      | none => some false
      | some y => and2 (eqD v y) (eqKV ks vs kb vb)
end
mutual
def D.depth : D → Nat
  | .non => 0 | .bl _ => 0 | .int _ => 0 | .str _ => 0
  | .tup ds => D.depths ds + 1 | .lst ds => D.depths ds + 1 | .set ds => D.depths ds + 1
  | .dct ks vs => max (D.depths ks) (D.depths vs) + 1
  | .ins _ ds => D.depths ds + 1
  | .hd _ => 0
def D.depths : List D → Nat
  | [] => 0
  | d :: ds => max (D.depth d) (D.depths ds)
end
theorem eqDs_all : ∀ {a b : List D} {r : Bool}, eqDs a b = some r → (List.range (min a.length b.length)).all (fun j => (eqD (a.getD j .non) (b.getD j .non)).getD false) = r ∧
    ∀ j, j < a.length → j < b.length → ∃ t, eqD (a.getD j .non) (b.getD j .non) = some t
  | [], b, r, h => by
    simp only [eqDs] at h
    injection h with h
    exact ⟨by simp [h], fun j hj => by simp at hj⟩
  | x :: a, [], r, h => by
    simp only [eqDs] at h
    injection h with h
    exact ⟨by simp [h], fun j _ hj => by simp at hj⟩
  | x :: a, y :: b, r, h => by
    simp only [eqDs] at h
    cases e1 : eqD x y with
    | none => rw [e1] at h; cases h
    | some t =>
      cases e2 : eqDs a b with
      | none => rw [e1, e2] at h; cases h
      | some q =>
        rw [e1, e2] at h
        simp only [and2] at h
        injection h with h
        obtain ⟨i1, i2⟩ := eqDs_all e2
        refine ⟨?_, fun j hj hj' => ?_⟩
        · have em : min (x :: a).length (y :: b).length = min a.length b.length + 1 := by simp only [List.length_cons]; omega
          rw [em, List.range_succ_eq_map, List.all_cons, List.all_map]
          simp only [List.getD_cons_zero, e1, Option.getD_some]
          rw [← h, ← i1]
          rfl
        · cases j with
          | zero => exact ⟨t, by simpa using e1⟩
          | succ j => simpa using i2 j (by simpa using hj) (by simpa using hj')

/-! ### two dicts -/
section
variable {P : Program} {w : World} {A : Around} {s : Shared}
/-- what the walk over the first dict's pairs finds -/
inductive Hits (P : Program) (w : World) (A : Around) (s : Shared) (kb : List Ent) : List Ent → Bool → Prop
  | nil : Hits P w A s kb [] true
  | miss {x : Ent} {r : List Ent} : atN kb x.1 = none → Hits P w A s kb (x :: r) false
  | hit {x : Ent} {y : Value} {r : List Ent} {e b : Bool} : atN kb x.1 = some y → EqIn P w A s x.2.2 y e → Hits P w A s kb r b → Hits P w A s kb (x :: r) (e && b)
theorem Hits.inv {kb : List Ent} {x : Ent} {r : List Ent} {b : Bool} (h : Hits P w A s kb (x :: r) b) :
    (atN kb x.1 = none ∧ b = false) ∨ ∃ y e b', atN kb x.1 = some y ∧ EqIn P w A s x.2.2 y e ∧ Hits P w A s kb r b' ∧ b = (e && b') := by
  cases h with
  | miss hn => exact .inl ⟨hn, rfl⟩
  | hit hy he hr => exact .inr ⟨_, _, _, hy, he, hr, rfl⟩
theorem samePairs_N {E : Value → Shared → Prop} {nm : String} {a b : Addr} {ka kb : List Ent} {r : Bool} {Q : Bool → Shared → Prop} (ha : (a == sysModules) = false) (hb : (b == sysModules) = false)
    (da : DObj w s.heap a ka) (db : DObj w s.heap b kb) (ia : KsOk s.heap ka) (ib : KsOk s.heap kb) (hu : A.units + 8 < cLine) (hits : ka.length = kb.length → Hits P w A s kb ka r) (h : Q (ka.length == kb.length && r) s) :
    wpAny (model P w) A (Builtin.Dict.samePairs nm a b) Q E s := by
  obtain ⟨oa, es, ep, hoa, _, hda, hka⟩ := da
  obtain ⟨ob, es', ep', hob, _, hdb, hkb⟩ := db
  have hla : ka.length = es.size := (ent_size hka).symm
  have hlb : kb.length = es'.size := (ent_size hkb).symm
  rw [hla, hlb] at h
  unfold Builtin.Dict.samePairs Builtin.Dict.showsAll
  rw [if_neg (show ¬ (a == sysModules) = true by rw [ha]; exact Bool.false_ne_true), if_neg (show ¬ (b == sysModules) = true by rw [hb]; exact Bool.false_ne_true)]
  refine wpAny_bind (wpAny_pure (wpAny_bind (wpAny_pure ?_)))
  refine wpAny_bind (wpAny_dictEntries hoa hda ?_)
  dsimp only
  refine wpAny_bind (wpAny_dictEntries hob hdb ?_)
  by_cases hsz : es.size = es'.size
  case neg =>
    rw [if_pos (by simpa using hsz)]
    have hbf : (es.size == es'.size) = false := by simpa using hsz
    rw [hbf, Bool.false_and] at h
    exact wpAny_bind (wpAny_rule (wpAny_pure h))
  case pos =>
    have h' : Q r s := by simpa [hsz] using h
    have hits' := hits (by rw [hla, hlb]; exact hsz)
    rw [if_neg (by rw [hsz]; simp)]
    refine wpAny_bind (wpAny_dictEpoch hoa hda ?_)
    refine wpAny_bind ?_
    rw [Std.Legacy.Range.forIn_eq_forIn_range']
    simp only [Std.Legacy.Range.size, Nat.sub_zero, Nat.add_sub_cancel, Nat.div_one]
    refine wpAny_forIn_list _
      (fun rest q s' => s' = s ∧ q = (none, ()) ∧ ∃ i, rest = List.range' i (es.size - i) ∧ i ≤ es.size ∧ Hits P w A s kb (ka.drop i) r)
      _ ?_ ?_ _ _ ⟨rfl, rfl, 0, by simp, Nat.zero_le _, hits'⟩
    · rintro x rest q s' ⟨rfl, rfl, i, hr, hi, hpre⟩
      have hlt : i < es.size := by
        rcases Nat.lt_or_ge i es.size with h | h
        · exact h
        · rw [Nat.sub_eq_zero_of_le h] at hr; simp at hr
      obtain ⟨rfl, hrest⟩ : x = i ∧ rest = List.range' (i + 1) (es.size - (i + 1)) := by
        have e : es.size - i = (es.size - (i + 1)) + 1 := by omega
        rw [e, List.range'_succ] at hr
        injection hr with h1 h2
        exact ⟨h1, h2⟩
      refine wpAny_bind (wpAny_dictEntries hoa hda ?_)
      have hlt' : x < ka.length := by rw [hla]; exact hlt
      obtain ⟨⟨k, kv, v⟩, hkv⟩ : ∃ y, ka[x]? = some y := ⟨ka[x], List.getElem?_eq_getElem hlt'⟩
      have hdrop : ka.drop x = (k, kv, v) :: ka.drop (x + 1) := by
        have := List.drop_eq_getElem_cons hlt'
        rw [this]
        congr 1
        rw [List.getElem?_eq_getElem hlt'] at hkv
        exact Option.some.inj hkv
      have hex : es[x]? = some ⟨k.hash w, kv, v⟩ := by rw [ent_at hka x, hkv]; rfl
      have hkey : KIs s'.heap k kv := ia.1 _ (List.mem_of_getElem? hkv)
      rw [hex]
      rw [hdrop] at hpre
      show wpAny _ _ (holding [kv, v] _ >>= _) _ _ _
      refine wpAny_bind (wpAny_holding (wpAny_bind (find_N hu hkey hob hdb hkb ib ?_)))
      cases hj : fnd kb k with
      | none =>
        have hn : atN kb k = none := by unfold atN; rw [hj]; rfl
        rcases hpre.inv with ⟨_, er⟩ | ⟨y, _, _, hy, _⟩
        · rw [er] at h'
          refine wpAny_pure ?_
          show wpAny _ _ (if (!false) = true then _ else _) _ _ _
          rw [if_pos (by decide)]
          exact wpAny_pure (wpAny_pure h')
        · rw [hn] at hy; exact nomatch hy
      | some j =>
        obtain ⟨hjlt, _, _⟩ := List.findIdx?_eq_some_iff_getElem.mp hj
        have hv' : atN kb k = some kb[j].2.2 := by unfold atN; rw [hj]; simp [List.getElem?_eq_getElem hjlt]
        refine wpAny_bind (wpAny_dictEntries hob hdb ?_)
        rw [ent_at hkb j, List.getElem?_eq_getElem hjlt]
        rcases hpre.inv with ⟨hn, _⟩ | ⟨y, e, b', hy, he, hrr, er⟩
        · rw [hv'] at hn; exact nomatch hn
        · have ey : kb[j].2.2 = y := Option.some.inj (hv'.symm.trans hy)
          rw [← ey] at he
          refine wpAny_holding (he _ _ ?_)
          cases e with
          | false =>
            rw [er, Bool.false_and] at h'
            show wpAny _ _ (if (!false) = true then _ else _) _ _ _
            rw [if_pos (by decide)]
            exact wpAny_pure (wpAny_pure h')
          | true =>
            rw [Bool.true_and] at er
            rw [← er] at hrr
            show wpAny _ _ (if (!true) = true then _ else _) _ _ _
            rw [if_neg (by decide)]
            refine wpAny_bind (wpAny_dictEpoch hoa hda ?_)
            rw [if_neg (by simp)]
            exact wpAny_pure ⟨rfl, rfl, x + 1, hrest, hlt, hrr⟩
    · rintro q s' ⟨rfl, rfl, i, hr, hi, hpre⟩
      have hin : i = es.size := by
        rcases Nat.lt_or_ge i es.size with h | h
        · have e : es.size - i = (es.size - (i + 1)) + 1 := by omega
          rw [e, List.range'_succ] at hr; exact nomatch hr
        · exact Nat.le_antisymm hi h
      refine wpAny_pure ?_
      rw [hin, ← hla, List.drop_length] at hpre
      cases hpre
      exact h'
theorem rc_dicts {E : Value → Shared → Prop} {a b : Addr} {ka kb : List Ent} {r : Bool} {Q : Value → Shared → Prop} (ha : (a == sysModules) = false) (hb : (b == sysModules) = false)
    (da : DObj w s.heap a ka) (db : DObj w s.heap b kb) (ia : KsOk s.heap ka) (ib : KsOk s.heap kb) (hu : A.units + 9 < cLine) (hits : ka.length = kb.length → Hits P w A.in1 s kb ka r) (h : Q (.bool (ka.length == kb.length && r)) s) :
    wpAny (model P w) A (richCompare .Eq (.ref a) (.ref b)) Q E s := by
  refine wpAny_richCompare_same_room (op := .Eq) da.typeIs db.typeIs PySem.F.slot_dict_eq (wpAny_call_entry PySem.F.slot_dict_eq da.typeIs PySem.F.entry_dict_eq ?_ (PySem.F.args_dict_eq_2 _ _)) (by omega)
  show wpAny _ _ (Builtin.Dict.dictSlotArgs "__eq__" ⟨[.ref a, .ref b], []⟩ >>= _) _ _ s
  refine wpAny_bind ?_
  unfold Builtin.Dict.dictSlotArgs
  refine wpAny_bind (wpAny_notOrdered_dict da.typeIs ?_)
  show wpAny _ _ (pure (Value.ref a, Value.ref b)) _ _ s
  refine wpAny_pure ?_
  refine wpAny_bind (wpAny_isInstance (T := "dict") db.typeIs PySem.F.sub_dict_dict ?_)
  simp only [Bool.not_true, Bool.false_eq_true, if_false]
  refine wpAny_bind (wpAny_pure (wpAny_bind (wpAny_pure ?_)))
  refine wpAny_bind (samePairs_N ha hb da db ia ib (by show A.units + 1 + 8 < _; omega) hits ?_)
  refine wpAny_pure ⟨_, rfl, ?_, ?_⟩
  · exact fun x => nomatch x
  · simpa using h
theorem rn_dicts {E : Value → Shared → Prop} {a b : Addr} {ka kb : List Ent} {r : Bool} {Q : Value → Shared → Prop} (ha : (a == sysModules) = false) (hb : (b == sysModules) = false)
    (da : DObj w s.heap a ka) (db : DObj w s.heap b kb) (ia : KsOk s.heap ka) (ib : KsOk s.heap kb) (hu : A.units + 9 < cLine) (hits : ka.length = kb.length → Hits P w A.in1 s kb ka r) (h : Q (.bool (!(ka.length == kb.length && r))) s) :
    wpAny (model P w) A (richCompare .NotEq (.ref a) (.ref b)) Q E s := by
  refine wpAny_richCompare_same_room (op := .NotEq) da.typeIs db.typeIs PySem.F.slot_dict_ne (wpAny_call_entry PySem.F.slot_dict_ne da.typeIs PySem.F.entry_dict_ne ?_ (PySem.F.args_dict_ne_2 _ _)) (by omega)
  show wpAny _ _ (Builtin.Dict.dictSlotArgs "__ne__" ⟨[.ref a, .ref b], []⟩ >>= _) _ _ s
  refine wpAny_bind ?_
  unfold Builtin.Dict.dictSlotArgs
  refine wpAny_bind (wpAny_notOrdered_dict da.typeIs ?_)
  show wpAny _ _ (pure (Value.ref a, Value.ref b)) _ _ s
  refine wpAny_pure ?_
  refine wpAny_bind (wpAny_isInstance (T := "dict") db.typeIs PySem.F.sub_dict_dict ?_)
  simp only [Bool.not_true, Bool.false_eq_true, if_false]
  refine wpAny_bind (wpAny_pure (wpAny_bind (wpAny_pure ?_)))
  refine wpAny_bind (samePairs_N ha hb da db ia ib (by show A.units + 1 + 8 < _; omega) hits ?_)
  refine wpAny_pure ⟨_, rfl, ?_, ?_⟩
  · exact fun x => nomatch x
  · cases hq : (ka.length == kb.length && r) <;> (rw [hq] at h; simpa using h)
end
end Z

set_option maxHeartbeats 4000000
/-! == and != of data by value: what the machine answers -/
namespace Z
open PySem PySem.Spec PyProof.Rows L2 SlX
open PySem.SeqAt (EqIn EqAt RcAt RcNeAt rcIn_lists rcIn_tuples)

theorem paired_len {α β : Type} {R : α → β → Prop} {l : List α} {m : List β} (r : Paired R l m) : l.length = m.length := Paired.length r
theorem pairedEV_fst {es : List EntV} {xs : List Ent} (r : Paired EV es xs) : es.map (·.1) = xs.map (·.1) := by
  induction r with
  | nil => rfl
  | cons p t ih => rw [List.map_cons, List.map_cons, ih, p.1]
theorem pairedEV_val {es : List EntV} {xs : List Ent} (r : Paired EV es xs) : Vals (es.map (·.2.2)) (xs.map (·.2.2)) := by
  induction r with
  | nil => exact .nil
  | cons p t ih => exact .cons p.2.2 ih
theorem pairedEV_key {es : List EntV} {xs : List Ent} (r : Paired EV es xs) : Vals (es.map (·.2.1)) (xs.map (·.2.1)) := by
  induction r with
  | nil => exact .nil
  | cons p t ih => exact .cons p.2.1 ih
theorem find_map_idx {ks : List D} {ns : List NK} (h : D.keys ks = some ns) (k : NK) : D.ixOf ks k = ns.findIdx? fun n => decide (n = k) := by
  unfold D.ixOf
  induction ks generalizing ns with
  | nil => simp only [D.keys] at h; injection h with h; subst h; rfl
  | cons d ds ih =>
    simp only [D.keys] at h
    cases hk : D.key d with
    | none => rw [hk] at h; cases h
    | some n =>
      cases hks : D.keys ds with
      | none => rw [hk, hks] at h; cases h
      | some ns' =>
        rw [hk, hks] at h; cases h
        rw [List.findIdx?_cons, List.findIdx?_cons, ih hks, hk]
        have : decide (some n = some k) = decide (n = k) := by simp
        rw [this]
theorem fnd_ix {es : List EntV} {xs : List Ent} {ks : List D} (r : Paired EV es xs) (h : D.keys ks = some (es.map (·.1))) (k : NK) : fnd xs k = D.ixOf ks k := by
  rw [find_map_idx h, pairedEV_fst r, List.findIdx?_map]
  rfl

section
variable {X : Cx} {cls : Str → Option CI} {pins : List (Addr × Obj)} {σ : L2.St} {H F : Hp} {s : Shared} {A : Al}
/-- what a tracked dict's object is -/
theorem dic_at (I : Inv X pins σ H s) {a : Addr} {es : List EntV} (h : Rd H a (DicO X.w a es)) : es.length ≤ sizeLine ∧ (a == sysModules) = false ∧ ∃ xs : List Ent, DObj X.w s.heap a xs ∧ Paired EV es xs :=
  (h.ok I.hok).1

theorem same_ent {w : World} {h : Heap} {a : Addr} {xs ys : List Ent} (x : DObj w h a xs) (y : DObj w h a ys) (kx : KsOk h xs) (ky : KsOk h ys) : xs = ys := by
  obtain ⟨o, es, ep, e, _, d, l⟩ := x
  obtain ⟨o', es', ep', e', _, d', l'⟩ := y
  rw [e] at e'; cases e'
  rw [d] at d'; cases d'
  rw [l] at l'
  have hl : xs.length = ys.length := by simpa using congrArg List.length l'
  apply List.ext_getElem hl
  intro i h1 h2
  have q : entN w xs[i] = entN w ys[i] := by
    have := congrArg (fun l : List DictEntry => l[i]?) l'
    simp only [List.getElem?_map, List.getElem?_eq_getElem h1, List.getElem?_eq_getElem h2, Option.map_some] at this
    exact Option.some.inj this
  have k1 := kx.1 _ (List.getElem_mem h1)
  have k2 := ky.1 _ (List.getElem_mem h2)
  unfold entN at q
  injection q with _ q1 q2
  rw [q1] at k1
  exact Prod.ext (k1.inj k2) (Prod.ext q1 q2)
theorem vals_same : ∀ {xs ys : List V} {us : List Value}, Vals xs us → Vals ys us → xs = ys := Vals.inj

theorem look_self {ks vs : List D} {ns : List NK} (hk : D.keys ks = some ns) (nd : ns.Nodup) {i : Nat} {k v : D} (h1 : ks[i]? = some k) (h2 : vs[i]? = some v) : ∃ n, k.key = some n ∧ D.look ks vs n = some v := by
  obtain ⟨n, e1, e2⟩ := keys_get hk h1
  refine ⟨n, e2, ?_⟩
  unfold D.look
  rw [find_map_idx hk]
  have : ns.findIdx? (fun m => decide (m = n)) = some i := by
    obtain ⟨hlt, e⟩ := List.getElem?_eq_some_iff.mp e1
    rw [List.findIdx?_eq_some_iff_getElem]
    refine ⟨hlt, by rw [e]; simp, fun j hj => ?_⟩
    simp only [decide_eq_true_eq]
    intro hq
    have : ns[j]? = some n := by rw [List.getElem?_eq_getElem (by omega), hq]
    have := (List.getElem?_inj (by omega) nd).mp (this.trans e1.symm)
    omega
  rw [this]
  exact h2
mutual
/-- one object is equal to itself -/
theorem sameD (I : Inv X pins σ H s) (hF : Sub F H) : ∀ (d e : D) (v : V) (b : Bool), Rep (gx X cls) A F v d → Rep (gx X cls) A F v e → eqD d e = some b → b = true
  | .non, e, v, b, h1, h2, h => by
    have h1 : v = V.non := h1
    subst h1
    cases e <;> simp only [eqD] at h <;> first | (injection h with h; exact h.symm) | (cases h; done) | (exfalso; first | (obtain ⟨_, _, z, _⟩ := h2; cases z; done) | (cases h2; done))
  | .bl a, e, v, b, h1, h2, h => by
    have h1 : v = V.bl a := h1
    subst h1
    cases e with
    | bl c =>
      have h2 : V.bl a = V.bl c := h2
      injection h2 with h2; subst h2
      simp only [eqD] at h; injection h with h; rw [← h]; exact beq_self_eq_true a
    | int j => exact absurd (show V.bl a = V.int j from h2) (by intro z; cases z)
    | _ => simp only [eqD] at h <;> first | (cases h; done) | (exfalso; first | (obtain ⟨_, _, z, _⟩ := h2; cases z; done) | (cases h2; done))
  | .int a, e, v, b, h1, h2, h => by
    have h1 : v = V.int a := h1
    subst h1
    cases e with
    | int c =>
      have h2 : V.int a = V.int c := h2
      injection h2 with h2; subst h2
      simp only [eqD] at h; injection h with h; rw [← h]; exact beq_self_eq_true a
    | bl j => exact absurd (show V.int a = V.bl j from h2) (by intro z; cases z)
    | _ => simp only [eqD] at h <;> first | (cases h; done) | (exfalso; first | (obtain ⟨_, _, z, _⟩ := h2; cases z; done) | (cases h2; done))
  | .str a, e, v, b, h1, h2, h => by
    have h1 : v = V.str a := h1
    subst h1
    cases e with
    | str c =>
      have h2 : V.str a = V.str c := h2
      injection h2 with h2; subst h2
      simp only [eqD] at h; injection h with h; rw [← h]; exact beq_self_eq_true a
    | _ => simp only [eqD] at h <;> first | (cases h; done) | (exfalso; first | (obtain ⟨_, _, z, _⟩ := h2; cases z; done) | (cases h2; done))
  | .tup ds, e, v, b, h1, h2, h => by
    obtain ⟨a, vs, rfl, q1, r1⟩ := h1
    cases e with
    | tup es =>
      obtain ⟨a', vs', z, q2, r2⟩ := h2
      injection z with z; subst z
      have := I.tuple_inj (hF.sqt q1) (hF.sqt q2)
      subst this
      simp only [eqD] at h
      cases hq : eqDs ds es with
      | none => rw [hq] at h; cases h
      | some t =>
        rw [hq] at h
        simp only [Option.map_some, Option.some.injEq] at h
        have := sameDs I hF ds es vs t r1 r2 hq
        have hl : ds.length = es.length := r1.length.symm.trans r2.length
        rw [← h, this, hl]; simp
    | lst es =>
      obtain ⟨a', vs', z, q2, r2⟩ := h2
      injection z with z; subst z
      obtain ⟨_, _, ⟨o, e1, c1, _⟩, _⟩ := I.tuple (hF.sqt q1)
      obtain ⟨_, _, p, _⟩ := I.list (hF.sql q2)
      obtain ⟨o', n, e2, c2, _⟩ := p
      rw [e1] at e2; cases e2; exact absurd (c1.symm.trans c2) (by decide)
    | _ => simp only [eqD] at h <;> first | (cases h; done) | (exfalso; cases h2; done)
  | .lst ds, e, v, b, h1, h2, h => by
    obtain ⟨a, vs, rfl, q1, r1⟩ := h1
    cases e with
    | lst es =>
      obtain ⟨a', vs', z, q2, r2⟩ := h2
      injection z with z; subst z
      have := I.list_inj (hF.sql q1) (hF.sql q2)
      subst this
      have hl : ds.length = es.length := r1.length.symm.trans r2.length
      simp only [eqD, if_pos hl] at h
      exact sameDs I hF ds es vs b r1 r2 h
    | tup es =>
      obtain ⟨a', vs', z, q2, r2⟩ := h2
      injection z with z; subst z
      obtain ⟨_, _, ⟨o, e1, c1, _⟩, _⟩ := I.tuple (hF.sqt q2)
      obtain ⟨_, _, p, _⟩ := I.list (hF.sql q1)
      obtain ⟨o', n, e2, c2, _⟩ := p
      rw [e1] at e2; cases e2; exact absurd (c1.symm.trans c2) (by decide)
    | _ => simp only [eqD] at h <;> first | (cases h; done) | (exfalso; cases h2; done)
  | .set _, _, _, _, h1, _, _ => by cases h1
  | .dct ks vs, e, v, b, h1, h2, h => by
    obtain ⟨a, es, rfl, q1, r1, p1, k1, n1, d1⟩ := h1
    cases e with
    | dct kb vb =>
      obtain ⟨a', es', z, q2, r2, p2, k2, n2, d2⟩ := h2
      injection z with z; subst z
      obtain ⟨_, _, xs, o1, e1⟩ := dic_at I (hF.rd q1.rd)
      obtain ⟨_, _, ys, o2, e2⟩ := dic_at I (hF.rd q2.rd)
      have kx := ksOk_of I (G := gx X cls) rfl hF e1 r1 k1 n1 d1
      have ky := ksOk_of I (G := gx X cls) rfl hF e2 r2 k2 n2 d2
      have := same_ent o1 o2 kx ky
      subst this
      have f1 : es.map (·.1) = es'.map (·.1) := (pairedEV_fst e1).trans (pairedEV_fst e2).symm
      have f2 : es.map (·.2.2) = es'.map (·.2.2) := (pairedEV_val e1).inj (pairedEV_val e2)
      rw [f1] at k1
      rw [f2] at p1
      have hl : ks.length = kb.length := by rw [← keys_length k1, ← keys_length k2]
      simp only [eqD, if_pos hl] at h
      exact sameKV I hF ks vs kb vb [] [] kb vb (es'.map (fun x => x.2.2)) b (show Reps (gx X cls) A F ((es'.map (fun x => x.2.2)).drop 0) vs from p1) p2 (by simp) (by simp) (by rw [k1, k2]) n2 k2 rfl hl h
    | _ => simp only [eqD] at h <;> first | (cases h; done) | (exfalso; cases h2; done)
  | .ins _ _, _, _, _, _, _, h => by simp only [eqD] at h; cases h
  | .hd _, _, _, _, _, _, h => by simp only [eqD] at h; cases h
theorem sameDs (I : Inv X pins σ H s) (hF : Sub F H) : ∀ (ds es : List D) (vs : List V) (b : Bool), Reps (gx X cls) A F vs ds → Reps (gx X cls) A F vs es → eqDs ds es = some b → b = true
  | [], _, _, b, _, _, h => by simp only [eqDs] at h; injection h with h; exact h.symm
  | d :: ds, [], _, b, _, _, h => by simp only [eqDs] at h; injection h with h; exact h.symm
  | d :: ds, e :: es, _, b, h1, h2, h => by
    obtain ⟨v, r, rfl, p1, q1⟩ := h1
    obtain ⟨v', r', z, p2, q2⟩ := h2
    injection z with z1 z2
    subst z1; subst z2
    simp only [eqDs] at h
    cases e1 : eqD d e with
    | none => rw [e1] at h; cases h
    | some t =>
      cases e2 : eqDs ds es with
      | none => rw [e1, e2] at h; cases h
      | some q =>
        rw [e1, e2] at h
        simp only [and2] at h
        injection h with h
        rw [← h, sameD I hF d e v t p1 p2 e1, sameDs I hF ds es r q q1 q2 e2]; rfl
theorem sameKV (I : Inv X pins σ H s) (hF : Sub F H) : ∀ (ks vs kb vb k0 v0 k1 v1 : List D) (us : List V) (b : Bool) (_ : Reps (gx X cls) A F (us.drop k0.length) vs) (_ : Reps (gx X cls) A F us vb)
    (_ : kb = k0 ++ k1) (_ : vb = v0 ++ v1) (_ : D.keys ks = D.keys k1) {ns : List NK} (_ : ns.Nodup) (_ : D.keys kb = some ns) (_ : v0.length = k0.length) (_ : ks.length = k1.length), eqKV ks vs kb vb = some b → b = true
  | _, [], _, _, _, _, _, _, _, b, _, _, _, _, _, _, _, _, _, _, h => by simp only [eqKV] at h; injection h with h; exact h.symm
  | [], _ :: _, _, _, _, _, _, _, _, b, _, _, _, _, _, _, _, _, _, _, h => by simp only [eqKV] at h; injection h with h; exact h.symm
  | k :: ks, v :: vs, kb, vb, k0, v0, k1, v1, us, b, r1, r2, ek, ev, hk, ns, nd, hkb, hv0, hl, h => by
    cases k1 with
    | nil => simp at hl
    | cons k' k1 =>
      obtain ⟨u, r, hu, p1, q1⟩ := r1
      have hk2 := hk
      simp only [D.keys] at hk2
      have hkey : k.key = k'.key ∧ D.keys ks = D.keys k1 := by
        have h3 : ∃ n, k'.key = some n := by
          obtain ⟨n, _, e2⟩ := keys_get hkb (i := k0.length) (d := k') (by rw [ek, List.getElem?_append_right (Nat.le_refl _)]; simp)
          exact ⟨n, e2⟩
        obtain ⟨n, hn⟩ := h3
        have h4 : ∃ m, D.keys k1 = some m := by
          have : ∀ (a c : List D) (m : List NK), D.keys (a ++ c) = some m → ∃ m', D.keys c = some m' := by
            intro a
            induction a with
            | nil => intro c m hm; exact ⟨m, hm⟩
            | cons x a ih =>
              intro c m hm
              simp only [List.cons_append, D.keys] at hm
              cases hx : D.key x with
              | none => rw [hx] at hm; cases hm
              | some y =>
                cases hy : D.keys (a ++ c) with
                | none => rw [hx, hy] at hm; cases hm
                | some z => exact ih c z hy
          obtain ⟨m', hm'⟩ := this (k0 ++ [k']) k1 ns (by rw [← hkb, ek]; simp)
          exact ⟨m', hm'⟩
        obtain ⟨m, hm⟩ := h4
        rw [hn, hm] at hk2
        cases hkk : D.key k with
        | none => rw [hkk] at hk2; cases hk2
        | some n' =>
          cases hkks : D.keys ks with
          | none => rw [hkk, hkks] at hk2; cases hk2
          | some m' =>
            rw [hkk, hkks] at hk2
            simp only [Option.some.injEq, List.cons.injEq] at hk2
            rw [hn, hm, hk2.1, hk2.2]; exact ⟨rfl, rfl⟩
      have huv : us[k0.length]? = some u := by
        have := congrArg (fun l : List V => l[0]?) hu
        simpa using this
      have hr : us.drop (k0 ++ [k']).length = r := by
        have := congrArg (List.drop 1) hu
        rw [List.drop_drop] at this
        simpa using this
      obtain ⟨y, hy1, hy2⟩ := r2.getV huv
      obtain ⟨n, hn1, hn2⟩ := look_self hkb nd (i := k0.length) (k := k') (v := y) (by rw [ek, List.getElem?_append_right (Nat.le_refl _)]; simp) hy1
      simp only [eqKV, hkey.1, hn1, Option.bind_some, hn2] at h
      cases e1 : eqD v y with
      | none => rw [e1] at h; cases h
      | some t =>
        cases e2 : eqKV ks vs kb vb with
        | none => rw [e1, e2] at h; cases h
        | some q =>
          rw [e1, e2] at h
          simp only [and2] at h
          injection h with h
          have hy : ∃ v1', v1 = y :: v1' := by
            rw [ev] at hy1
            rw [List.getElem?_append_right (by omega)] at hy1
            cases v1 with
            | nil => simp at hy1
            | cons a c => simp [hv0] at hy1; exact ⟨c, by rw [hy1]⟩
          obtain ⟨v1', rfl⟩ := hy
          have ih := sameKV I hF ks vs kb vb (k0 ++ [k']) (v0 ++ [y]) k1 v1' us q (by rw [hr]; exact q1) r2 (by rw [ek]; simp) (by rw [ev]; simp) hkey.2 nd hkb (by simp [hv0]) (by simpa using hl) e2
          rw [← h, sameD I hF v y u t p1 hy2 e1, ih]; rfl
end
end
end Z

set_option maxHeartbeats 4000000
/-! == and != of data by value: the machine's answers -/
namespace Z
open PySem PySem.Spec PyProof.Rows L2 SlX
open PySem.SeqAt (EqIn EqAt RcAt RcNeAt rcIn_lists rcIn_tuples)
def rcI (P : Program) (w : World) (Ar : Around) (s : Shared) (u u' : Value) (b : Bool) : Prop := ∀ (E : Value → Shared → Prop) (Q : Value → Shared → Prop), Q (.bool b) s → wpAny (model P w) Ar (richCompare .Eq u u') Q E s
def rnI (P : Program) (w : World) (Ar : Around) (s : Shared) (u u' : Value) (b : Bool) : Prop := ∀ (E : Value → Shared → Prop) (Q : Value → Shared → Prop), Q (.bool (!b)) s → wpAny (model P w) Ar (richCompare .NotEq u u') Q E s
section
variable {X : Cx} {cls : Str → Option CI} {pins : List (Addr × Obj)} {σ : L2.St} {H F : Hp} {s : Shared} {A : Al}
theorem eqI_of (I : Inv X pins σ H s) (hF : Sub F H) {d e : D} {v v' : V} {u u' : Value} {b : Bool} {Ar : Around} (h1 : Rep (gx X cls) A F v d) (h2 : Rep (gx X cls) A F v' e) (r1 : RelV v u) (r2 : RelV v' u') (hb : eqD d e = some b)
    (h : rcI X.prog X.w Ar s u u' b) : EqIn X.prog X.w Ar s u u' b := fun E Q q => by
  unfold eqBool
  refine wpAny_holding ?_
  have nf : ∀ z t, u ≠ .float z t := fun z t q => by
    subst q
    cases v with
    | flt _ => cases d <;> first | (obtain ⟨_, _, z, _⟩ := h1; cases z; done) | (obtain ⟨_, z, z2⟩ := h1; cases z2; done) | (cases h1; done)
    | non => cases r1
    | bl _ => cases r1
    | int _ => obtain ⟨_, z⟩ := r1; cases z
    | str _ => obtain ⟨_, z⟩ := r1; cases z
    | byt _ => obtain ⟨_, z⟩ := r1; cases z
    | ref _ => cases r1
    | ty _ => cases r1
  refine wpAny_ite_split (fun hab => ?_) (fun _ => ?_)
  · have e := eq_of_beq hab
    subst e
    have e := r1.inj r2
    subst e
    have hb := sameD I hF d e v b h1 h2 hb
    subst hb
    exact wpAny_bind (wpAny_rule (wpAny_pure q))
  · have fin := wpAny_bind (f := truthy) (h E _ (wpAny_truthy_bool q))
    cases u with
    | float z t => exact absurd rfl (nf z t)
    | _ => exact wpAny_bind (h E _ (wpAny_truthy_bool q))
theorem rcD {n : Nat} (I : Inv X pins σ H s) (hF : Sub F H) (hl : ∀ (a b : Addr) (ds es : List D) (vs ws : List V) (t : Bool) (Ar : Around), SqL X.K F a vs → SqL X.K F b ws → Reps (gx X cls) A F vs ds → Reps (gx X cls) A F ws es → eqD (.lst ds) (.lst es) = some t → (D.lst ds).depth ≤ n → Ar.units + n + 10 < cLine → rcI X.prog X.w Ar s (.ref a) (.ref b) t)
    (ht : ∀ (a b : Addr) (ds es : List D) (vs ws : List V) (t : Bool) (Ar : Around), SqT X.K F a vs → SqT X.K F b ws → Reps (gx X cls) A F vs ds → Reps (gx X cls) A F ws es → eqD (.tup ds) (.tup es) = some t → (D.tup ds).depth ≤ n → Ar.units + n + 10 < cLine → rcI X.prog X.w Ar s (.ref a) (.ref b) t)
    (hd : ∀ (ks vs kb vb : List D) (v v' : V) (u u' : Value) (t : Bool) (Ar : Around), Rep (gx X cls) A F v (.dct ks vs) → Rep (gx X cls) A F v' (.dct kb vb) → RelV v u → RelV v' u' → eqD (.dct ks vs) (.dct kb vb) = some t → (D.dct ks vs).depth ≤ n → Ar.units + n + 10 < cLine → rcI X.prog X.w Ar s u u' t) :
    ∀ (d e : D) (v v' : V) (u u' : Value) (b : Bool) (Ar : Around), Rep (gx X cls) A F v d → Rep (gx X cls) A F v' e → RelV v u → RelV v' u' → eqD d e = some b → d.depth ≤ n → Ar.units + n + 10 < cLine → rcI X.prog X.w Ar s u u' b := by
  intro d e v v' u u' b Ar h1 h2 r1 r2 hb hn hu
  have hu0 : Ar.units < cLine := by omega
  cases d with
  | non =>
    obtain rfl := show _ = _ from h1; obtain rfl := show _ = _ from r1
    cases e with
    | non =>
      obtain rfl := show _ = _ from h2; obtain rfl := show _ = _ from r2
      simp only [eqD, Option.some.injEq] at hb; subst hb
      exact fun E Q q => RcAt.none_none X.prog X.w E Q q
    | bl y =>
      obtain rfl := show _ = _ from h2; obtain rfl := show _ = _ from r2
      simp only [eqD, Option.some.injEq] at hb; subst hb
      exact fun E Q q => RcAt.none_bool _ X.prog X.w E Q q
    | int y =>
      obtain rfl := show _ = _ from h2; obtain ⟨tr2, rfl⟩ := r2
      simp only [eqD, Option.some.injEq] at hb; subst hb
      exact fun E Q q => RcAt.none_int _ _ X.prog X.w E Q q
    | str y =>
      obtain rfl := show _ = _ from h2; obtain ⟨tr2, rfl⟩ := r2
      simp only [eqD, Option.some.injEq] at hb; subst hb
      exact fun E Q q => RcAt.none_str _ _ X.prog X.w E Q q
    | tup y =>
      obtain ⟨a', vs', rfl, q2, p2⟩ := h2; obtain rfl := show _ = _ from r2
      simp only [eqD, Option.some.injEq] at hb; subst hb
      obtain ⟨its, _, hT, _⟩ := I.tuple (hF.sqt q2)
      exact fun E Q q => RcAt.none_tuple (show s.heap.IsTuple a' its.toArray from hT) hu0 X.prog X.w E Q q
    | lst y =>
      obtain ⟨a', vs', rfl, q2, p2⟩ := h2; obtain rfl := show _ = _ from r2
      simp only [eqD, Option.some.injEq] at hb; subst hb
      obtain ⟨its, _, hL, _⟩ := I.list (hF.sql q2)
      exact fun E Q q => RcAt.none_list hL.isList hu0 X.prog X.w E Q q
    | set y => simp only [eqD] at hb; cases hb
    | dct y y2 => simp only [eqD] at hb; cases hb
    | ins y y2 => simp only [eqD] at hb; cases hb
    | hd y => simp only [eqD] at hb; cases hb
  | bl x =>
    obtain rfl := show _ = _ from h1; obtain rfl := show _ = _ from r1
    cases e with
    | non =>
      obtain rfl := show _ = _ from h2; obtain rfl := show _ = _ from r2
      simp only [eqD, Option.some.injEq] at hb; subst hb
      exact fun E Q q => RcAt.bool_none _ X.prog X.w E Q q
    | bl y =>
      obtain rfl := show _ = _ from h2; obtain rfl := show _ = _ from r2
      simp only [eqD, Option.some.injEq] at hb; subst hb
      exact fun E Q q => RcAt.bool_bool _ _ X.prog X.w E Q q
    | int y =>
      obtain rfl := show _ = _ from h2; obtain ⟨tr2, rfl⟩ := r2
      simp only [eqD, Option.some.injEq] at hb; subst hb
      exact fun E Q q => RcAt.bool_int _ _ _ X.prog X.w E Q q
    | str y =>
      obtain rfl := show _ = _ from h2; obtain ⟨tr2, rfl⟩ := r2
      simp only [eqD, Option.some.injEq] at hb; subst hb
      exact fun E Q q => RcAt.bool_str _ _ _ X.prog X.w E Q q
    | tup y =>
      obtain ⟨a', vs', rfl, q2, p2⟩ := h2; obtain rfl := show _ = _ from r2
      simp only [eqD, Option.some.injEq] at hb; subst hb
      obtain ⟨its, _, hT, _⟩ := I.tuple (hF.sqt q2)
      exact fun E Q q => RcAt.bool_tuple _ (show s.heap.IsTuple a' its.toArray from hT) hu0 X.prog X.w E Q q
    | lst y =>
      obtain ⟨a', vs', rfl, q2, p2⟩ := h2; obtain rfl := show _ = _ from r2
      simp only [eqD, Option.some.injEq] at hb; subst hb
      obtain ⟨its, _, hL, _⟩ := I.list (hF.sql q2)
      exact fun E Q q => RcAt.bool_list _ hL.isList hu0 X.prog X.w E Q q
    | set y => simp only [eqD] at hb; cases hb
    | dct y y2 => simp only [eqD] at hb; cases hb
    | ins y y2 => simp only [eqD] at hb; cases hb
    | hd y => simp only [eqD] at hb; cases hb
  | int x =>
    obtain rfl := show _ = _ from h1; obtain ⟨tr1, rfl⟩ := r1
    cases e with
    | non =>
      obtain rfl := show _ = _ from h2; obtain rfl := show _ = _ from r2
      simp only [eqD, Option.some.injEq] at hb; subst hb
      exact fun E Q q => RcAt.int_none _ _ X.prog X.w E Q q
    | bl y =>
      obtain rfl := show _ = _ from h2; obtain rfl := show _ = _ from r2
      simp only [eqD, Option.some.injEq] at hb; subst hb
      exact fun E Q q => RcAt.int_bool _ _ _ X.prog X.w E Q q
    | int y =>
      obtain rfl := show _ = _ from h2; obtain ⟨tr2, rfl⟩ := r2
      simp only [eqD, Option.some.injEq] at hb; subst hb
      exact fun E Q q => RcAt.int_int _ _ _ _ X.prog X.w E Q q
    | str y =>
      obtain rfl := show _ = _ from h2; obtain ⟨tr2, rfl⟩ := r2
      simp only [eqD, Option.some.injEq] at hb; subst hb
      exact fun E Q q => RcAt.int_str _ _ _ _ X.prog X.w E Q q
    | tup y =>
      obtain ⟨a', vs', rfl, q2, p2⟩ := h2; obtain rfl := show _ = _ from r2
      simp only [eqD, Option.some.injEq] at hb; subst hb
      obtain ⟨its, _, hT, _⟩ := I.tuple (hF.sqt q2)
      exact fun E Q q => RcAt.int_tuple _ _ (show s.heap.IsTuple a' its.toArray from hT) hu0 X.prog X.w E Q q
    | lst y =>
      obtain ⟨a', vs', rfl, q2, p2⟩ := h2; obtain rfl := show _ = _ from r2
      simp only [eqD, Option.some.injEq] at hb; subst hb
      obtain ⟨its, _, hL, _⟩ := I.list (hF.sql q2)
      exact fun E Q q => RcAt.int_list _ _ hL.isList hu0 X.prog X.w E Q q
    | set y => simp only [eqD] at hb; cases hb
    | dct y y2 => simp only [eqD] at hb; cases hb
    | ins y y2 => simp only [eqD] at hb; cases hb
    | hd y => simp only [eqD] at hb; cases hb
  | str x =>
    obtain rfl := show _ = _ from h1; obtain ⟨tr1, rfl⟩ := r1
    cases e with
    | non =>
      obtain rfl := show _ = _ from h2; obtain rfl := show _ = _ from r2
      simp only [eqD, Option.some.injEq] at hb; subst hb
      exact fun E Q q => RcAt.str_none _ _ X.prog X.w E Q q
    | bl y =>
      obtain rfl := show _ = _ from h2; obtain rfl := show _ = _ from r2
      simp only [eqD, Option.some.injEq] at hb; subst hb
      exact fun E Q q => RcAt.str_bool _ _ _ X.prog X.w E Q q
    | int y =>
      obtain rfl := show _ = _ from h2; obtain ⟨tr2, rfl⟩ := r2
      simp only [eqD, Option.some.injEq] at hb; subst hb
      exact fun E Q q => RcAt.str_int _ _ _ _ X.prog X.w E Q q
    | str y =>
      obtain rfl := show _ = _ from h2; obtain ⟨tr2, rfl⟩ := r2
      simp only [eqD, Option.some.injEq] at hb; subst hb
      exact fun E Q q => RcAt.str_str _ _ _ _ X.prog X.w E Q q
    | tup y =>
      obtain ⟨a', vs', rfl, q2, p2⟩ := h2; obtain rfl := show _ = _ from r2
      simp only [eqD, Option.some.injEq] at hb; subst hb
      obtain ⟨its, _, hT, _⟩ := I.tuple (hF.sqt q2)
      exact fun E Q q => RcAt.str_tuple _ _ (show s.heap.IsTuple a' its.toArray from hT) hu0 X.prog X.w E Q q
    | lst y =>
      obtain ⟨a', vs', rfl, q2, p2⟩ := h2; obtain rfl := show _ = _ from r2
      simp only [eqD, Option.some.injEq] at hb; subst hb
      obtain ⟨its, _, hL, _⟩ := I.list (hF.sql q2)
      exact fun E Q q => RcAt.str_list _ _ hL.isList hu0 X.prog X.w E Q q
    | set y => simp only [eqD] at hb; cases hb
    | dct y y2 => simp only [eqD] at hb; cases hb
    | ins y y2 => simp only [eqD] at hb; cases hb
    | hd y => simp only [eqD] at hb; cases hb
  | tup x =>
    obtain ⟨a, vs, rfl, q1, p1⟩ := h1; obtain rfl := show _ = _ from r1
    cases e with
    | non =>
      obtain rfl := show _ = _ from h2; obtain rfl := show _ = _ from r2
      simp only [eqD, Option.some.injEq] at hb; subst hb
      obtain ⟨its, _, hT, _⟩ := I.tuple (hF.sqt q1)
      exact fun E Q q => RcAt.tuple_none (show s.heap.IsTuple a its.toArray from hT) hu0 X.prog X.w E Q q
    | bl y =>
      obtain rfl := show _ = _ from h2; obtain rfl := show _ = _ from r2
      simp only [eqD, Option.some.injEq] at hb; subst hb
      obtain ⟨its, _, hT, _⟩ := I.tuple (hF.sqt q1)
      exact fun E Q q => RcAt.tuple_bool _ (show s.heap.IsTuple a its.toArray from hT) hu0 X.prog X.w E Q q
    | int y =>
      obtain rfl := show _ = _ from h2; obtain ⟨tr2, rfl⟩ := r2
      simp only [eqD, Option.some.injEq] at hb; subst hb
      obtain ⟨its, _, hT, _⟩ := I.tuple (hF.sqt q1)
      exact fun E Q q => RcAt.tuple_int _ _ (show s.heap.IsTuple a its.toArray from hT) hu0 X.prog X.w E Q q
    | str y =>
      obtain rfl := show _ = _ from h2; obtain ⟨tr2, rfl⟩ := r2
      simp only [eqD, Option.some.injEq] at hb; subst hb
      obtain ⟨its, _, hT, _⟩ := I.tuple (hF.sqt q1)
      exact fun E Q q => RcAt.tuple_str _ _ (show s.heap.IsTuple a its.toArray from hT) hu0 X.prog X.w E Q q
    | tup y =>
      obtain ⟨a', vs', rfl, q2, p2⟩ := h2; obtain rfl := show _ = _ from r2
      exact ht a a' _ _ vs vs' b Ar q1 q2 p1 p2 hb hn hu
    | lst y =>
      obtain ⟨a', vs', rfl, q2, p2⟩ := h2; obtain rfl := show _ = _ from r2
      simp only [eqD, Option.some.injEq] at hb; subst hb
      obtain ⟨its, _, hT, _⟩ := I.tuple (hF.sqt q1)
      obtain ⟨its', _, hL, _⟩ := I.list (hF.sql q2)
      exact fun E Q q => RcAt.tuple_list (show s.heap.IsTuple a its.toArray from hT) hL.isList hu0 X.prog X.w E Q q
    | set y => simp only [eqD] at hb; cases hb
    | dct y y2 => simp only [eqD] at hb; cases hb
    | ins y y2 => simp only [eqD] at hb; cases hb
    | hd y => simp only [eqD] at hb; cases hb
  | lst x =>
    obtain ⟨a, vs, rfl, q1, p1⟩ := h1; obtain rfl := show _ = _ from r1
    cases e with
    | non =>
      obtain rfl := show _ = _ from h2; obtain rfl := show _ = _ from r2
      simp only [eqD, Option.some.injEq] at hb; subst hb
      obtain ⟨its, _, hL, _⟩ := I.list (hF.sql q1)
      exact fun E Q q => RcAt.list_none hL.isList hu0 X.prog X.w E Q q
    | bl y =>
      obtain rfl := show _ = _ from h2; obtain rfl := show _ = _ from r2
      simp only [eqD, Option.some.injEq] at hb; subst hb
      obtain ⟨its, _, hL, _⟩ := I.list (hF.sql q1)
      exact fun E Q q => RcAt.list_bool _ hL.isList hu0 X.prog X.w E Q q
    | int y =>
      obtain rfl := show _ = _ from h2; obtain ⟨tr2, rfl⟩ := r2
      simp only [eqD, Option.some.injEq] at hb; subst hb
      obtain ⟨its, _, hL, _⟩ := I.list (hF.sql q1)
      exact fun E Q q => RcAt.list_int _ _ hL.isList hu0 X.prog X.w E Q q
    | str y =>
      obtain rfl := show _ = _ from h2; obtain ⟨tr2, rfl⟩ := r2
      simp only [eqD, Option.some.injEq] at hb; subst hb
      obtain ⟨its, _, hL, _⟩ := I.list (hF.sql q1)
      exact fun E Q q => RcAt.list_str _ _ hL.isList hu0 X.prog X.w E Q q
    | tup y =>
      obtain ⟨a', vs', rfl, q2, p2⟩ := h2; obtain rfl := show _ = _ from r2
      simp only [eqD, Option.some.injEq] at hb; subst hb
      obtain ⟨its, _, hL, _⟩ := I.list (hF.sql q1)
      obtain ⟨its', _, hT, _⟩ := I.tuple (hF.sqt q2)
      exact fun E Q q => RcAt.list_tuple hL.isList (show s.heap.IsTuple a' its'.toArray from hT) hu0 X.prog X.w E Q q
    | lst y =>
      obtain ⟨a', vs', rfl, q2, p2⟩ := h2; obtain rfl := show _ = _ from r2
      exact hl a a' _ _ vs vs' b Ar q1 q2 p1 p2 hb hn hu
    | set y => simp only [eqD] at hb; cases hb
    | dct y y2 => simp only [eqD] at hb; cases hb
    | ins y y2 => simp only [eqD] at hb; cases hb
    | hd y => simp only [eqD] at hb; cases hb
  | set x =>
    simp only [eqD] at hb; cases hb
  | dct x x2 =>
    cases e with
    | dct y y2 => exact hd _ _ _ _ v v' u u' b Ar h1 h2 r1 r2 hb hn hu
    | _ => simp only [eqD] at hb; cases hb
  | ins x x2 =>
    simp only [eqD] at hb; cases hb
  | hd x =>
    simp only [eqD] at hb; cases hb
theorem rnD {n : Nat} (I : Inv X pins σ H s) (hF : Sub F H) (hl : ∀ (a b : Addr) (ds es : List D) (vs ws : List V) (t : Bool) (Ar : Around), SqL X.K F a vs → SqL X.K F b ws → Reps (gx X cls) A F vs ds → Reps (gx X cls) A F ws es → eqD (.lst ds) (.lst es) = some t → (D.lst ds).depth ≤ n → Ar.units + n + 10 < cLine → rnI X.prog X.w Ar s (.ref a) (.ref b) t)
    (ht : ∀ (a b : Addr) (ds es : List D) (vs ws : List V) (t : Bool) (Ar : Around), SqT X.K F a vs → SqT X.K F b ws → Reps (gx X cls) A F vs ds → Reps (gx X cls) A F ws es → eqD (.tup ds) (.tup es) = some t → (D.tup ds).depth ≤ n → Ar.units + n + 10 < cLine → rnI X.prog X.w Ar s (.ref a) (.ref b) t)
    (hd : ∀ (ks vs kb vb : List D) (v v' : V) (u u' : Value) (t : Bool) (Ar : Around), Rep (gx X cls) A F v (.dct ks vs) → Rep (gx X cls) A F v' (.dct kb vb) → RelV v u → RelV v' u' → eqD (.dct ks vs) (.dct kb vb) = some t → (D.dct ks vs).depth ≤ n → Ar.units + n + 10 < cLine → rnI X.prog X.w Ar s u u' t) :
    ∀ (d e : D) (v v' : V) (u u' : Value) (b : Bool) (Ar : Around), Rep (gx X cls) A F v d → Rep (gx X cls) A F v' e → RelV v u → RelV v' u' → eqD d e = some b → d.depth ≤ n → Ar.units + n + 10 < cLine → rnI X.prog X.w Ar s u u' b := by
  intro d e v v' u u' b Ar h1 h2 r1 r2 hb hn hu
  have hu0 : Ar.units < cLine := by omega
  cases d with
  | non =>
    obtain rfl := show _ = _ from h1; obtain rfl := show _ = _ from r1
    cases e with
    | non =>
      obtain rfl := show _ = _ from h2; obtain rfl := show _ = _ from r2
      simp only [eqD, Option.some.injEq] at hb; subst hb
      exact fun E Q q => RcNeAt.none_none X.prog X.w E Q q
    | bl y =>
      obtain rfl := show _ = _ from h2; obtain rfl := show _ = _ from r2
      simp only [eqD, Option.some.injEq] at hb; subst hb
      exact fun E Q q => RcNeAt.none_bool _ X.prog X.w E Q q
    | int y =>
      obtain rfl := show _ = _ from h2; obtain ⟨tr2, rfl⟩ := r2
      simp only [eqD, Option.some.injEq] at hb; subst hb
      exact fun E Q q => RcNeAt.none_int _ _ X.prog X.w E Q q
    | str y =>
      obtain rfl := show _ = _ from h2; obtain ⟨tr2, rfl⟩ := r2
      simp only [eqD, Option.some.injEq] at hb; subst hb
      exact fun E Q q => RcNeAt.none_str _ _ X.prog X.w E Q q
    | tup y =>
      obtain ⟨a', vs', rfl, q2, p2⟩ := h2; obtain rfl := show _ = _ from r2
      simp only [eqD, Option.some.injEq] at hb; subst hb
      obtain ⟨its, _, hT, _⟩ := I.tuple (hF.sqt q2)
      exact fun E Q q => RcNeAt.none_tuple (show s.heap.IsTuple a' its.toArray from hT) hu0 X.prog X.w E Q q
    | lst y =>
      obtain ⟨a', vs', rfl, q2, p2⟩ := h2; obtain rfl := show _ = _ from r2
      simp only [eqD, Option.some.injEq] at hb; subst hb
      obtain ⟨its, _, hL, _⟩ := I.list (hF.sql q2)
      exact fun E Q q => RcNeAt.none_list hL.isList hu0 X.prog X.w E Q q
    | set y => simp only [eqD] at hb; cases hb
    | dct y y2 => simp only [eqD] at hb; cases hb
    | ins y y2 => simp only [eqD] at hb; cases hb
    | hd y => simp only [eqD] at hb; cases hb
  | bl x =>
    obtain rfl := show _ = _ from h1; obtain rfl := show _ = _ from r1
    cases e with
    | non =>
      obtain rfl := show _ = _ from h2; obtain rfl := show _ = _ from r2
      simp only [eqD, Option.some.injEq] at hb; subst hb
      exact fun E Q q => RcNeAt.bool_none _ X.prog X.w E Q q
    | bl y =>
      obtain rfl := show _ = _ from h2; obtain rfl := show _ = _ from r2
      simp only [eqD, Option.some.injEq] at hb; subst hb
      exact fun E Q q => RcNeAt.bool_bool _ _ X.prog X.w E Q q
    | int y =>
      obtain rfl := show _ = _ from h2; obtain ⟨tr2, rfl⟩ := r2
      simp only [eqD, Option.some.injEq] at hb; subst hb
      exact fun E Q q => RcNeAt.bool_int _ _ _ X.prog X.w E Q q
    | str y =>
      obtain rfl := show _ = _ from h2; obtain ⟨tr2, rfl⟩ := r2
      simp only [eqD, Option.some.injEq] at hb; subst hb
      exact fun E Q q => RcNeAt.bool_str _ _ _ X.prog X.w E Q q
    | tup y =>
      obtain ⟨a', vs', rfl, q2, p2⟩ := h2; obtain rfl := show _ = _ from r2
      simp only [eqD, Option.some.injEq] at hb; subst hb
      obtain ⟨its, _, hT, _⟩ := I.tuple (hF.sqt q2)
      exact fun E Q q => RcNeAt.bool_tuple _ (show s.heap.IsTuple a' its.toArray from hT) hu0 X.prog X.w E Q q
    | lst y =>
      obtain ⟨a', vs', rfl, q2, p2⟩ := h2; obtain rfl := show _ = _ from r2
      simp only [eqD, Option.some.injEq] at hb; subst hb
      obtain ⟨its, _, hL, _⟩ := I.list (hF.sql q2)
      exact fun E Q q => RcNeAt.bool_list _ hL.isList hu0 X.prog X.w E Q q
    | set y => simp only [eqD] at hb; cases hb
    | dct y y2 => simp only [eqD] at hb; cases hb
    | ins y y2 => simp only [eqD] at hb; cases hb
    | hd y => simp only [eqD] at hb; cases hb
  | int x =>
    obtain rfl := show _ = _ from h1; obtain ⟨tr1, rfl⟩ := r1
    cases e with
    | non =>
      obtain rfl := show _ = _ from h2; obtain rfl := show _ = _ from r2
      simp only [eqD, Option.some.injEq] at hb; subst hb
      exact fun E Q q => RcNeAt.int_none _ _ X.prog X.w E Q q
    | bl y =>
      obtain rfl := show _ = _ from h2; obtain rfl := show _ = _ from r2
      simp only [eqD, Option.some.injEq] at hb; subst hb
      exact fun E Q q => RcNeAt.int_bool _ _ _ X.prog X.w E Q q
    | int y =>
      obtain rfl := show _ = _ from h2; obtain ⟨tr2, rfl⟩ := r2
      simp only [eqD, Option.some.injEq] at hb; subst hb
      exact fun E Q q => RcNeAt.int_int _ _ _ _ X.prog X.w E Q q
    | str y =>
      obtain rfl := show _ = _ from h2; obtain ⟨tr2, rfl⟩ := r2
      simp only [eqD, Option.some.injEq] at hb; subst hb
      exact fun E Q q => RcNeAt.int_str _ _ _ _ X.prog X.w E Q q
    | tup y =>
      obtain ⟨a', vs', rfl, q2, p2⟩ := h2; obtain rfl := show _ = _ from r2
      simp only [eqD, Option.some.injEq] at hb; subst hb
      obtain ⟨its, _, hT, _⟩ := I.tuple (hF.sqt q2)
      exact fun E Q q => RcNeAt.int_tuple _ _ (show s.heap.IsTuple a' its.toArray from hT) hu0 X.prog X.w E Q q
    | lst y =>
      obtain ⟨a', vs', rfl, q2, p2⟩ := h2; obtain rfl := show _ = _ from r2
      simp only [eqD, Option.some.injEq] at hb; subst hb
      obtain ⟨its, _, hL, _⟩ := I.list (hF.sql q2)
      exact fun E Q q => RcNeAt.int_list _ _ hL.isList hu0 X.prog X.w E Q q
    | set y => simp only [eqD] at hb; cases hb
    | dct y y2 => simp only [eqD] at hb; cases hb
    | ins y y2 => simp only [eqD] at hb; cases hb
    | hd y => simp only [eqD] at hb; cases hb
  | str x =>
    obtain rfl := show _ = _ from h1; obtain ⟨tr1, rfl⟩ := r1
    cases e with
    | non =>
      obtain rfl := show _ = _ from h2; obtain rfl := show _ = _ from r2
      simp only [eqD, Option.some.injEq] at hb; subst hb
      exact fun E Q q => RcNeAt.str_none _ _ X.prog X.w E Q q
    | bl y =>
      obtain rfl := show _ = _ from h2; obtain rfl := show _ = _ from r2
      simp only [eqD, Option.some.injEq] at hb; subst hb
      exact fun E Q q => RcNeAt.str_bool _ _ _ X.prog X.w E Q q
    | int y =>
      obtain rfl := show _ = _ from h2; obtain ⟨tr2, rfl⟩ := r2
      simp only [eqD, Option.some.injEq] at hb; subst hb
      exact fun E Q q => RcNeAt.str_int _ _ _ _ X.prog X.w E Q q
    | str y =>
      obtain rfl := show _ = _ from h2; obtain ⟨tr2, rfl⟩ := r2
      simp only [eqD, Option.some.injEq] at hb; subst hb
      exact fun E Q q => RcNeAt.str_str _ _ _ _ X.prog X.w E Q q
    | tup y =>
      obtain ⟨a', vs', rfl, q2, p2⟩ := h2; obtain rfl := show _ = _ from r2
      simp only [eqD, Option.some.injEq] at hb; subst hb
      obtain ⟨its, _, hT, _⟩ := I.tuple (hF.sqt q2)
      exact fun E Q q => RcNeAt.str_tuple _ _ (show s.heap.IsTuple a' its.toArray from hT) hu0 X.prog X.w E Q q
    | lst y =>
      obtain ⟨a', vs', rfl, q2, p2⟩ := h2; obtain rfl := show _ = _ from r2
      simp only [eqD, Option.some.injEq] at hb; subst hb
      obtain ⟨its, _, hL, _⟩ := I.list (hF.sql q2)
      exact fun E Q q => RcNeAt.str_list _ _ hL.isList hu0 X.prog X.w E Q q
    | set y => simp only [eqD] at hb; cases hb
    | dct y y2 => simp only [eqD] at hb; cases hb
    | ins y y2 => simp only [eqD] at hb; cases hb
    | hd y => simp only [eqD] at hb; cases hb
  | tup x =>
    obtain ⟨a, vs, rfl, q1, p1⟩ := h1; obtain rfl := show _ = _ from r1
    cases e with
    | non =>
      obtain rfl := show _ = _ from h2; obtain rfl := show _ = _ from r2
      simp only [eqD, Option.some.injEq] at hb; subst hb
      obtain ⟨its, _, hT, _⟩ := I.tuple (hF.sqt q1)
      exact fun E Q q => RcNeAt.tuple_none (show s.heap.IsTuple a its.toArray from hT) hu0 X.prog X.w E Q q
    | bl y =>
      obtain rfl := show _ = _ from h2; obtain rfl := show _ = _ from r2
      simp only [eqD, Option.some.injEq] at hb; subst hb
      obtain ⟨its, _, hT, _⟩ := I.tuple (hF.sqt q1)
      exact fun E Q q => RcNeAt.tuple_bool _ (show s.heap.IsTuple a its.toArray from hT) hu0 X.prog X.w E Q q
    | int y =>
      obtain rfl := show _ = _ from h2; obtain ⟨tr2, rfl⟩ := r2
      simp only [eqD, Option.some.injEq] at hb; subst hb
      obtain ⟨its, _, hT, _⟩ := I.tuple (hF.sqt q1)
      exact fun E Q q => RcNeAt.tuple_int _ _ (show s.heap.IsTuple a its.toArray from hT) hu0 X.prog X.w E Q q
    | str y =>
      obtain rfl := show _ = _ from h2; obtain ⟨tr2, rfl⟩ := r2
      simp only [eqD, Option.some.injEq] at hb; subst hb
      obtain ⟨its, _, hT, _⟩ := I.tuple (hF.sqt q1)
      exact fun E Q q => RcNeAt.tuple_str _ _ (show s.heap.IsTuple a its.toArray from hT) hu0 X.prog X.w E Q q
    | tup y =>
      obtain ⟨a', vs', rfl, q2, p2⟩ := h2; obtain rfl := show _ = _ from r2
      exact ht a a' _ _ vs vs' b Ar q1 q2 p1 p2 hb hn hu
    | lst y =>
      obtain ⟨a', vs', rfl, q2, p2⟩ := h2; obtain rfl := show _ = _ from r2
      simp only [eqD, Option.some.injEq] at hb; subst hb
      obtain ⟨its, _, hT, _⟩ := I.tuple (hF.sqt q1)
      obtain ⟨its', _, hL, _⟩ := I.list (hF.sql q2)
      exact fun E Q q => RcNeAt.tuple_list (show s.heap.IsTuple a its.toArray from hT) hL.isList hu0 X.prog X.w E Q q
    | set y => simp only [eqD] at hb; cases hb
    | dct y y2 => simp only [eqD] at hb; cases hb
    | ins y y2 => simp only [eqD] at hb; cases hb
    | hd y => simp only [eqD] at hb; cases hb
  | lst x =>
    obtain ⟨a, vs, rfl, q1, p1⟩ := h1; obtain rfl := show _ = _ from r1
    cases e with
    | non =>
      obtain rfl := show _ = _ from h2; obtain rfl := show _ = _ from r2
      simp only [eqD, Option.some.injEq] at hb; subst hb
      obtain ⟨its, _, hL, _⟩ := I.list (hF.sql q1)
      exact fun E Q q => RcNeAt.list_none hL.isList hu0 X.prog X.w E Q q
    | bl y =>
      obtain rfl := show _ = _ from h2; obtain rfl := show _ = _ from r2
      simp only [eqD, Option.some.injEq] at hb; subst hb
      obtain ⟨its, _, hL, _⟩ := I.list (hF.sql q1)
      exact fun E Q q => RcNeAt.list_bool _ hL.isList hu0 X.prog X.w E Q q
    | int y =>
      obtain rfl := show _ = _ from h2; obtain ⟨tr2, rfl⟩ := r2
      simp only [eqD, Option.some.injEq] at hb; subst hb
      obtain ⟨its, _, hL, _⟩ := I.list (hF.sql q1)
      exact fun E Q q => RcNeAt.list_int _ _ hL.isList hu0 X.prog X.w E Q q
    | str y =>
      obtain rfl := show _ = _ from h2; obtain ⟨tr2, rfl⟩ := r2
      simp only [eqD, Option.some.injEq] at hb; subst hb
      obtain ⟨its, _, hL, _⟩ := I.list (hF.sql q1)
      exact fun E Q q => RcNeAt.list_str _ _ hL.isList hu0 X.prog X.w E Q q
    | tup y =>
      obtain ⟨a', vs', rfl, q2, p2⟩ := h2; obtain rfl := show _ = _ from r2
      simp only [eqD, Option.some.injEq] at hb; subst hb
      obtain ⟨its, _, hL, _⟩ := I.list (hF.sql q1)
      obtain ⟨its', _, hT, _⟩ := I.tuple (hF.sqt q2)
      exact fun E Q q => RcNeAt.list_tuple hL.isList (show s.heap.IsTuple a' its'.toArray from hT) hu0 X.prog X.w E Q q
    | lst y =>
      obtain ⟨a', vs', rfl, q2, p2⟩ := h2; obtain rfl := show _ = _ from r2
      exact hl a a' _ _ vs vs' b Ar q1 q2 p1 p2 hb hn hu
    | set y => simp only [eqD] at hb; cases hb
    | dct y y2 => simp only [eqD] at hb; cases hb
    | ins y y2 => simp only [eqD] at hb; cases hb
    | hd y => simp only [eqD] at hb; cases hb
  | set x =>
    simp only [eqD] at hb; cases hb
  | dct x x2 =>
    cases e with
    | dct y y2 => exact hd _ _ _ _ v v' u u' b Ar h1 h2 r1 r2 hb hn hu
    | _ => simp only [eqD] at hb; cases hb
  | ins x x2 =>
    simp only [eqD] at hb; cases hb
  | hd x =>
    simp only [eqD] at hb; cases hb
/-- where the items are told -/
theorem ds_at {ds es : List D} {vs ws : List V} {us us' : List Value} {Ar : Around} (hx : ∀ (d e : D) (v v' : V) (u u' : Value) (b : Bool), d ∈ ds → Rep (gx X cls) A F v d → Rep (gx X cls) A F v' e → RelV v u → RelV v' u' → eqD d e = some b → EqIn X.prog X.w Ar s u u' b)
    (p1 : Reps (gx X cls) A F vs ds) (p2 : Reps (gx X cls) A F ws es) (r1 : Vals vs us) (r2 : Vals ws us') {t : Bool} (ht : eqDs ds es = some t) :
    ∀ j (h1 : j < us.toArray.size) (h2 : j < us'.toArray.size), EqIn X.prog X.w Ar s us.toArray[j] us'.toArray[j] ((eqD (ds.getD j .non) (es.getD j .non)).getD false) := by
  intro j h1 h2
  have l1 : us.length = ds.length := by rw [← r1.length, p1.length]
  have l2 : us'.length = es.length := by rw [← r2.length, p2.length]
  have h1 : j < us.length := by simpa using h1
  have h2 : j < us'.length := by simpa using h2
  obtain ⟨q, hq⟩ := (eqDs_all ht).2 j (by omega) (by omega)
  have e1 : ds[j]? = some (ds.getD j .non) := by rw [List.getD_eq_getElem?_getD, List.getElem?_eq_getElem (by omega)]; rfl
  have e2 : es[j]? = some (es.getD j .non) := by rw [List.getD_eq_getElem?_getD, List.getElem?_eq_getElem (by omega)]; rfl
  obtain ⟨v, f1, g1⟩ := p1.get e1
  obtain ⟨v', f2, g2⟩ := p2.get e2
  obtain ⟨u, k1, m1⟩ := r1.get f1
  obtain ⟨u', k2, m2⟩ := r2.get f2
  have z1 : us.toArray[j] = u := by simp only [List.getElem_toArray]; rw [List.getElem?_eq_getElem h1] at k1; exact Option.some.inj k1
  have z2 : us'.toArray[j] = u' := by simp only [List.getElem_toArray]; rw [List.getElem?_eq_getElem h2] at k2; exact Option.some.inj k2
  rw [z1, z2, hq]
  exact hx _ _ v v' u u' q (List.mem_of_getElem? e1) g1 g2 m1 m2 hq
theorem depths_mem : ∀ {ds : List D} {d : D}, d ∈ ds → d.depth ≤ D.depths ds
  | d :: ds, x, h => by
    simp only [D.depths]
    rcases List.mem_cons.mp h with h | h
    · rw [h]; omega
    · have := depths_mem h; omega
theorem rc_ls (I : Inv X pins σ H s) (hF : Sub F H) {a b : Addr} {ds es : List D} {vs ws : List V} {t : Bool} {Ar : Around} (q1 : SqL X.K F a vs) (q2 : SqL X.K F b ws) (p1 : Reps (gx X cls) A F vs ds) (p2 : Reps (gx X cls) A F ws es)
    (hb : eqD (.lst ds) (.lst es) = some t) (hu : Ar.units < cLine)
    (hx : ∀ (d e : D) (v v' : V) (u u' : Value) (b : Bool), d ∈ ds → Rep (gx X cls) A F v d → Rep (gx X cls) A F v' e → RelV v u → RelV v' u' → eqD d e = some b → EqIn X.prog X.w Ar.in1 s u u' b) :
    rcI X.prog X.w Ar s (.ref a) (.ref b) t := fun E Q q => by
  obtain ⟨us, r1, hL1, _⟩ := I.list (hF.sql q1)
  obtain ⟨us', r2, hL2, _⟩ := I.list (hF.sql q2)
  have l1 : us.length = ds.length := by rw [← r1.length, p1.length]
  have l2 : us'.length = es.length := by rw [← r2.length, p2.length]
  simp only [eqD] at hb
  by_cases hl : ds.length = es.length
  · rw [if_pos hl] at hb
    refine rcIn_lists hL1.isList hL2.isList (by simp; omega) hu (ds_at hx p1 p2 r1 r2 hb) ?_
    have := (eqDs_all hb).1
    rw [← hl, Nat.min_self] at this
    simp only [List.size_toArray, l1, this]
    exact q
  · rw [if_neg hl] at hb
    injection hb with hb
    subst hb
    exact RcAt.lists_lengths hL1.isList hL2.isList (by simp; omega) hu X.prog X.w E Q q
theorem rc_ts (I : Inv X pins σ H s) (hF : Sub F H) {a b : Addr} {ds es : List D} {vs ws : List V} {t : Bool} {Ar : Around} (q1 : SqT X.K F a vs) (q2 : SqT X.K F b ws) (p1 : Reps (gx X cls) A F vs ds) (p2 : Reps (gx X cls) A F ws es)
    (hb : eqD (.tup ds) (.tup es) = some t) (hu : Ar.units < cLine)
    (hx : ∀ (d e : D) (v v' : V) (u u' : Value) (b : Bool), d ∈ ds → Rep (gx X cls) A F v d → Rep (gx X cls) A F v' e → RelV v u → RelV v' u' → eqD d e = some b → EqIn X.prog X.w Ar.in1 s u u' b) :
    rcI X.prog X.w Ar s (.ref a) (.ref b) t := fun E Q q => by
  obtain ⟨us, r1, hT1, _⟩ := I.tuple (hF.sqt q1)
  obtain ⟨us', r2, hT2, _⟩ := I.tuple (hF.sqt q2)
  have l1 : us.length = ds.length := by rw [← r1.length, p1.length]
  have l2 : us'.length = es.length := by rw [← r2.length, p2.length]
  simp only [eqD] at hb
  cases hq : eqDs ds es with
  | none => rw [hq] at hb; cases hb
  | some r =>
    rw [hq] at hb
    simp only [Option.map_some, Option.some.injEq] at hb
    refine rcIn_tuples (show s.heap.IsTuple a us.toArray from hT1) (show s.heap.IsTuple b us'.toArray from hT2) hu (ds_at hx p1 p2 r1 r2 hq) ?_
    have := (eqDs_all hq).1
    simp only [List.size_toArray, l1, l2, this, hb]
    exact q
/-- the walk over the pairs -/
theorem hits_of {kb vb : List D} {es' : List EntV} {ys : List Ent} {Ar : Around} (e' : Paired EV es' ys) (hk' : D.keys kb = some (es'.map (·.1))) (p' : Reps (gx X cls) A F (es'.map (·.2.2)) vb) :
    ∀ (ks vs : List D) (es : List EntV) (xs : List Ent) (r : Bool), (∀ (d e : D) (v v' : V) (u u' : Value) (b : Bool), d ∈ vs → Rep (gx X cls) A F v d → Rep (gx X cls) A F v' e → RelV v u → RelV v' u' → eqD d e = some b → EqIn X.prog X.w Ar s u u' b) →
      Paired EV es xs → D.keys ks = some (es.map (·.1)) → Reps (gx X cls) A F (es.map (·.2.2)) vs → eqKV ks vs kb vb = some r → Hits X.prog X.w Ar s ys xs r := by
  intro ks vs
  induction vs generalizing ks with
  | nil =>
    intro es xs r _ hp _ hv h
    have : es.map (·.2.2) = [] := hv
    have : es = [] := by simpa using this
    subst this
    cases hp
    simp only [eqKV] at h; injection h with h; subst h
    exact .nil
  | cons v vs ih =>
    intro es xs r hx hp hk hv h
    cases hp with
    | nil => obtain ⟨_, _, z, _⟩ := hv; cases z
    | @cons p x es xs pe pt =>
      obtain ⟨vv, rr, z, g1, g2⟩ := hv
      injection z with z1 z2
      subst z1; subst z2
      cases ks with
      | nil => simp only [D.keys] at hk; injection hk with hk; cases hk
      | cons k ks =>
        simp only [D.keys] at hk
        cases hkk : D.key k with
        | none => rw [hkk] at hk; cases hk
        | some n =>
          cases hkks : D.keys ks with
          | none => rw [hkk, hkks] at hk; cases hk
          | some ns =>
            rw [hkk, hkks] at hk
            simp only [List.map_cons, Option.some.injEq, List.cons.injEq] at hk
            obtain ⟨k1, k2⟩ := hk
            have ex : x.1 = n := by rw [k1]; exact pe.1.symm
            simp only [eqKV, hkk, Option.bind_some] at h
            have look : D.look kb vb n = (fnd ys n).bind fun i => vb[i]? := by unfold D.look; rw [fnd_ix e' hk']
            cases hf : fnd ys n with
            | none =>
              rw [look, hf] at h
              simp only [Option.bind_none, Option.some.injEq] at h
              subst h
              exact .miss (by unfold atN; rw [ex, hf]; rfl)
            | some i =>
              rw [look, hf] at h
              obtain ⟨hlt, _, _⟩ := List.findIdx?_eq_some_iff_getElem.mp hf
              have ly : es'.length = ys.length := paired_len e'
              obtain ⟨q, hq1, hq2⟩ := pairedEV_get e' (i := i) (q := ys[i]) (List.getElem?_eq_getElem hlt)
              obtain ⟨y, hy1, hy2⟩ := p'.getV (i := i) (v := q.2.2) (by rw [List.getElem?_map, hq1]; rfl)
              simp only [Option.bind_some, hy1] at h
              cases e1 : eqD v y with
              | none => rw [e1] at h; cases h
              | some t =>
                cases e2 : eqKV ks vs kb vb with
                | none => rw [e1, e2] at h; cases h
                | some r' =>
                  rw [e1, e2] at h
                  simp only [and2, Option.some.injEq] at h
                  subst h
                  refine .hit (y := ys[i].2.2) (by unfold atN; rw [ex, hf]; simp [List.getElem?_eq_getElem hlt]) ?_ (ih ks es xs r' (fun d e v v' u u' b hd => hx d e v v' u u' b (List.mem_cons_of_mem _ hd)) pt (by rw [hkks, k2]) g2 e2)
                  exact hx v y p.2.2 q.2.2 _ _ t List.mem_cons_self g1 hy2 pe.2.2 hq2.2.2 e1
theorem rc_ds (I : Inv X pins σ H s) (hF : Sub F H) {ks vs kb vb : List D} {v v' : V} {u u' : Value} {t : Bool} {Ar : Around} (h1 : Rep (gx X cls) A F v (.dct ks vs)) (h2 : Rep (gx X cls) A F v' (.dct kb vb)) (r1 : RelV v u) (r2 : RelV v' u')
    (hb : eqD (.dct ks vs) (.dct kb vb) = some t) (hu : Ar.units + 9 < cLine)
    (hx : ∀ (d e : D) (v v' : V) (u u' : Value) (b : Bool), d ∈ vs → Rep (gx X cls) A F v d → Rep (gx X cls) A F v' e → RelV v u → RelV v' u' → eqD d e = some b → EqIn X.prog X.w Ar.in1 s u u' b) :
    rcI X.prog X.w Ar s u u' t ∧ rnI X.prog X.w Ar s u u' t := by
  obtain ⟨a, es, rfl, q1, kr1, p1, k1, n1, d1⟩ := h1
  obtain ⟨a', es', rfl, q2, kr2, p2, k2, n2, d2⟩ := h2
  obtain rfl := show _ = _ from r1
  obtain rfl := show _ = _ from r2
  obtain ⟨_, s1, xs, o1, e1⟩ := dic_at I (hF.rd q1.rd)
  obtain ⟨_, s2, ys, o2, e2⟩ := dic_at I (hF.rd q2.rd)
  have kx := ksOk_of I (G := gx X cls) rfl hF e1 kr1 k1 n1 d1
  have ky := ksOk_of I (G := gx X cls) rfl hF e2 kr2 k2 n2 d2
  have l1 : xs.length = ks.length := by rw [← paired_len e1, ← keys_length k1]; simp
  have l2 : ys.length = kb.length := by rw [← paired_len e2, ← keys_length k2]; simp
  simp only [eqD] at hb
  by_cases hl : ks.length = kb.length
  · rw [if_pos hl] at hb
    have hh : xs.length = ys.length → Hits X.prog X.w Ar.in1 s ys xs t := fun _ => hits_of e2 k2 p2 ks vs es xs t hx e1 k1 p1 hb
    have eb : (xs.length == ys.length && t) = t := by rw [l1, l2, hl]; simp
    exact ⟨fun E Q q => rc_dicts s1 s2 o1 o2 kx ky hu hh (by rw [eb]; exact q), fun E Q q => rn_dicts s1 s2 o1 o2 kx ky hu hh (by rw [eb]; exact q)⟩
  · rw [if_neg hl] at hb
    injection hb with hb
    subst hb
    have hh : xs.length = ys.length → Hits X.prog X.w Ar.in1 s ys xs false := fun z => absurd (by rw [← l1, ← l2]; exact z) hl
    have eb : (xs.length == ys.length && false) = false := by simp
    exact ⟨fun E Q q => rc_dicts s1 s2 o1 o2 kx ky hu hh (by rw [eb]; exact q), fun E Q q => rn_dicts s1 s2 o1 o2 kx ky hu hh (by rw [eb]; exact q)⟩
/-- d == e, told by the machine -/
theorem eqD_ok (I : Inv X pins σ H s) (hF : Sub F H) : ∀ (n : Nat) (d e : D) (v v' : V) (u u' : Value) (b : Bool) (Ar : Around), Rep (gx X cls) A F v d → Rep (gx X cls) A F v' e → RelV v u → RelV v' u' → eqD d e = some b → d.depth ≤ n → Ar.units + n + 10 < cLine → rcI X.prog X.w Ar s u u' b := by
  intro n
  induction n with
  | zero =>
    refine rcD I hF ?_ ?_ ?_
    · intro a b' ds es vs ws t Ar q1 q2 p1 p2 hb hn hu
      simp only [D.depth] at hn; omega
    · intro a b' ds es vs ws t Ar q1 q2 p1 p2 hb hn hu
      simp only [D.depth] at hn; omega
    · intro ks vs kb vb v v' u u' t Ar h1 h2 r1 r2 hb hn hu
      simp only [D.depth] at hn; omega
  | succ n ih =>
    have go : ∀ (ds : List D) (Ar : Around), D.depths ds ≤ n → Ar.units + (n + 1) + 10 < cLine → ∀ (d e : D) (v v' : V) (u u' : Value) (b : Bool), d ∈ ds → Rep (gx X cls) A F v d → Rep (gx X cls) A F v' e → RelV v u → RelV v' u' → eqD d e = some b → EqIn X.prog X.w Ar.in1 s u u' b := by
      intro ds Ar hn hu d e v v' u u' b hm g1 g2 m1 m2 hq
      have := depths_mem hm
      exact eqI_of I hF g1 g2 m1 m2 hq (ih d e v v' u u' b Ar.in1 g1 g2 m1 m2 hq (by omega) (by show Ar.units + 1 + n + 10 < _; omega))
    refine rcD I hF ?_ ?_ ?_
    · intro a b' ds es vs ws t Ar q1 q2 p1 p2 hb hn hu
      simp only [D.depth] at hn
      exact rc_ls I hF q1 q2 p1 p2 hb (by omega) (go ds Ar (by omega) hu)
    · intro a b' ds es vs ws t Ar q1 q2 p1 p2 hb hn hu
      simp only [D.depth] at hn
      exact rc_ts I hF q1 q2 p1 p2 hb (by omega) (go ds Ar (by omega) hu)
    · intro ks vs kb vb v v' u u' t Ar h1 h2 r1 r2 hb hn hu
      simp only [D.depth] at hn
      exact (rc_ds I hF h1 h2 r1 r2 hb (by omega) (go vs Ar (by omega) hu)).1
theorem eqI_ok (I : Inv X pins σ H s) (hF : Sub F H) {d e : D} {v v' : V} {u u' : Value} {b : Bool} {Ar : Around} (n : Nat) (h1 : Rep (gx X cls) A F v d) (h2 : Rep (gx X cls) A F v' e) (r1 : RelV v u) (r2 : RelV v' u') (hb : eqD d e = some b) (hn : d.depth ≤ n) (hu : Ar.units + n + 10 < cLine) :
    EqIn X.prog X.w Ar s u u' b := eqI_of I hF h1 h2 r1 r2 hb (eqD_ok I hF n d e v v' u u' b Ar h1 h2 r1 r2 hb hn hu)
end
end Z

set_option maxHeartbeats 4000000
/-! != of lists and tuples whose items are any data -/
namespace Z
open PySem PySem.Spec PyProof.Rows L2 SlX
open PySem.SeqAt (EqIn EqAt RcAt RcNeAt rcIn_lists rcIn_tuples)
open PySem.AutoSeq1 (wpAny_loadPart')
open PySem.MeetsSeq PySem.MeetsSeq2 PySem.MeetsSeq3
abbrev lstO (xs : Array Value) (k : Nat) (d : Option Addr) (z : Array (Option Value)) : Obj := { cls := .type "list", dict := d, data := .seq xs k, slots := z }
abbrev tupO (xs : Array Value) (k : Nat) (d : Option Addr) (z : Array (Option Value)) : Obj := { cls := .type "tuple", dict := d, data := .seq xs k, slots := z }
section
variable {P : Program} {w : World} {xs ys : Array Value} {p q : Addr} {k1 k2 : Nat} {d1 d2 : Option Addr} {z1 z2 : Array (Option Value)} {f : Nat → Bool}
theorem neTurn (hsz : xs.size = ys.size) (left : Nat) : ∀ i : Nat, xs.size - i = left → MeetsIn P w (Builtin.«list.__eq__.loop» ⟨[.ref p, .ref q, rawInt i, rawInt 3], []⟩)
    (fun Ar R s => s.heap.get? p = some (lstO xs k1 d1 z1) ∧ s.heap.get? q = some (lstO ys k2 d2 z2) ∧ (∀ j (g1 : j < xs.size) (g2 : j < ys.size), EqIn P w Ar.in1 s xs[j] ys[j] (f j)) ∧
      R (.ok (.ret (.bool (!((List.range xs.size).drop i).all f)))) s) := by
  induction left with
  | zero =>
    intro i hk Ar R s h
    obtain ⟨hp, g, d, tk, os⟩ := s
    obtain ⟨hl, hb, he, h⟩ := h
    wp_walk using wpAny_loadPart' hl, wpAny_loadPart' hb
    have n1 : xs[((i : Nat) : Int).toNat]? = none := by simp; omega
    have n2 : ys[((i : Nat) : Int).toNat]? = none := by simp; omega
    have n3 : (List.range xs.size).drop i = [] := by simp; omega
    rw [n3] at h
    rw [n1, n2]
    wp_walk using wpAny_loadPart' hl, wpAny_loadPart' hb
    show R (.ok (.ret (.bool (xs.size != ys.size)))) _
    rw [hsz]
    simpa using h
  | succ left ih =>
    intro i hk Ar R s h
    obtain ⟨hp, g, d, tk, os⟩ := s
    obtain ⟨hl, hb, he, h⟩ := h
    wp_walk using wpAny_loadPart' hl, wpAny_loadPart' hb
    have l1 : i < xs.size := by omega
    have l2 : i < ys.size := by omega
    have n1 : xs[((i : Nat) : Int).toNat]? = some xs[i] := by simp [l1]
    have n2 : ys[((i : Nat) : Int).toNat]? = some ys[i] := by simp [l2]
    have n3 : (List.range xs.size).drop i = i :: (List.range xs.size).drop (i + 1) := by simp [List.drop_eq_getElem_cons, l1]
    have n4 : ((i : Int) + 1) = ((i + 1 : Nat) : Int) := by push_cast; rfl
    rw [n3, List.all_cons] at h
    rw [n1, n2]
    refine wpAny_bind (he i l1 l2 _ _ ?_)
    cases hf : f i with
    | true =>
      rw [hf] at h
      wp_walk
      rw [n4]
      refine ⟨plainId_quiet plain_eq_loop _, codeAny_builtin entry_eq_loop ?_⟩
      rw [Around.under_plainId plain_eq_loop _]
      exact ih (i + 1) (by omega) Ar R _ ⟨hl, hb, he, by simpa using h⟩
    | false =>
      rw [hf] at h
      wp_walk using wpAny_loadPart' hl, wpAny_loadPart' hb
      rw [n1, n2]
      wp_walk
      simpa using h
theorem list_neN (hsz : xs.size = ys.size) : MeetsIn P w (Builtin.«list.__ne__» ⟨[.ref p, .ref q], []⟩)
    (fun Ar R s => s.heap.get? p = some (lstO xs k1 d1 z1) ∧ s.heap.get? q = some (lstO ys k2 d2 z2) ∧ (∀ j (g1 : j < xs.size) (g2 : j < ys.size), EqIn P w Ar.in1 s xs[j] ys[j] (f j)) ∧
      R (.ok (.ret (.bool (!(List.range xs.size).all f)))) s) := by
  intro Ar R s h
  obtain ⟨hp, g, d, tk, os⟩ := s
  obtain ⟨hl, hb, he, h⟩ := h
  have f3 := AutoSeq1.sub_list_list
  have same : ¬ (xs.size != ys.size) = true := by simp [hsz]
  wp_walk using wpAny_loadPart' hl, wpAny_loadPart' hb
  refine ⟨plainId_quiet plain_eq_loop _, codeAny_builtin entry_eq_loop ?_⟩
  rw [Around.under_plainId plain_eq_loop _]
  exact neTurn hsz _ 0 rfl Ar R _ ⟨hl, hb, he, by simpa using h⟩
theorem tuple_neN : MeetsIn P w (Builtin.«tuple.__ne__» ⟨[.ref p, .ref q], []⟩)
    (fun Ar R s => s.heap.get? p = some (tupO xs k1 d1 z1) ∧ s.heap.get? q = some (tupO ys k2 d2 z2) ∧ (∀ j (g1 : j < xs.size) (g2 : j < ys.size), EqIn P w Ar.in1 s xs[j] ys[j] (f j)) ∧
      R (.ok (.ret (.bool (!((List.range (min xs.size ys.size)).all f && xs.size == ys.size))))) s) := by
  refine MeetsIn.of_wp ?_
  intro Ar R s h
  obtain ⟨hp, g, d, tk, os⟩ := s
  obtain ⟨hl, hb, he, h⟩ := h
  have f2 := AutoSeq1.sub_tuple_tuple
  have hZ : (xs.toList.zip ys.toList).length = min xs.size ys.size := by simp
  wp_walk using wpAny_loadPart' hl, wpAny_loadPart' hb, wpAny_forIn_list _ (fun rest b s' => b.1 = none ∧ s' = ⟨hp, g, d, tk, os⟩ ∧ ∃ i, rest = (xs.toList.zip ys.toList).drop i ∧
    R (.ok (.ret (.bool (!(((List.range (min xs.size ys.size)).drop i).all f && xs.size == ys.size))))) ⟨hp, g, d, tk, os⟩) _
  case turn =>
    rintro ⟨y, x⟩ rest b s' ⟨hb', rfl, i, hz, hR⟩
    have hlt : i < (xs.toList.zip ys.toList).length := by
      rcases Nat.lt_or_ge i (xs.toList.zip ys.toList).length with h' | h'
      · exact h'
      · rw [List.drop_of_length_le h'] at hz; cases hz
    have hm : i < min xs.size ys.size := hZ ▸ hlt
    have l1 : i < xs.size := Nat.lt_of_lt_of_le hm (Nat.min_le_left _ _)
    have l2 : i < ys.size := Nat.lt_of_lt_of_le hm (Nat.min_le_right _ _)
    rw [List.drop_eq_getElem_cons hlt] at hz
    injection hz with hyx hrest
    have hy : y = xs[i] := by have := congrArg Prod.fst hyx; simpa using this
    have hx : x = ys[i] := by have := congrArg Prod.snd hyx; simpa using this
    subst hy hx
    have n3 : (List.range (min xs.size ys.size)).drop i = i :: (List.range (min xs.size ys.size)).drop (i + 1) := by simp [List.drop_eq_getElem_cons, hm]
    rw [n3, List.all_cons] at hR
    refine wpAny_bind (he i l1 l2 _ _ ?_)
    cases hy : f i with
    | true =>
      rw [hy] at hR
      wp_walk
      exact ⟨rfl, rfl, i + 1, hrest, by simpa using hR⟩
    | false =>
      rw [hy] at hR
      wp_walk
      exact ⟨_, rfl, by simpa using hR⟩
  case fin =>
    rintro ⟨b1, b2⟩ s' ⟨hb', rfl, i, hz, hR⟩
    simp only at hb'
    subst hb'
    have hge : min xs.size ys.size ≤ i := by
      rcases Nat.lt_or_ge i (xs.toList.zip ys.toList).length with h' | h'
      · rw [List.drop_eq_getElem_cons h'] at hz; cases hz
      · exact hZ ▸ h'
    rw [List.drop_of_length_le (by simpa using hge)] at hR
    wp_walk
    exact ⟨_, rfl, by simpa [Builtin.Tuple.tupleCompareSizes, bne] using hR⟩
  case h =>
    exact ⟨rfl, rfl, 0, rfl, by simpa using h⟩
end
section
variable {X : Cx} {cls : Str → Option CI} {pins : List (Addr × Obj)} {σ : L2.St} {H F : Hp} {s : Shared} {A : Al}
theorem rn_ls (I : Inv X pins σ H s) (hF : Sub F H) {a b : Addr} {ds es : List D} {vs ws : List V} {t : Bool} {Ar : Around} (q1 : SqL X.K F a vs) (q2 : SqL X.K F b ws) (p1 : Reps (gx X cls) A F vs ds) (p2 : Reps (gx X cls) A F ws es)
    (hb : eqD (.lst ds) (.lst es) = some t) (hu : Ar.units < cLine)
    (hx : ∀ (d e : D) (v v' : V) (u u' : Value) (b : Bool), d ∈ ds → Rep (gx X cls) A F v d → Rep (gx X cls) A F v' e → RelV v u → RelV v' u' → eqD d e = some b → EqIn X.prog X.w Ar.in1 s u u' b) :
    rnI X.prog X.w Ar s (.ref a) (.ref b) t := fun E Q qq => by
  obtain ⟨us, r1, hL1, _⟩ := I.list (hF.sql q1)
  obtain ⟨us', r2, hL2, _⟩ := I.list (hF.sql q2)
  have l1 : us.length = ds.length := by rw [← r1.length, p1.length]
  have l2 : us'.length = es.length := by rw [← r2.length, p2.length]
  simp only [eqD] at hb
  by_cases hl : ds.length = es.length
  · rw [if_pos hl] at hb
    obtain ⟨⟨c1, dd, dt, sl⟩, ho, hc, n, hd⟩ := hL1.isList
    obtain ⟨⟨c2, dd2, dt2, sl2⟩, ho2, hc2, n2, hd2⟩ := hL2.isList
    simp only at hc hd hc2 hd2
    subst hc hd hc2 hd2
    have hz : us.toArray.size = us'.toArray.size := by simp; omega
    refine wpAny_richCompare_same_room (T := "list") (op := .NotEq) ⟨_, ho, rfl⟩ ⟨_, ho2, rfl⟩ PySem.F.slot_list_ne (call_meetsIn PySem.F.slot_list_ne ⟨_, ho, rfl⟩ PySem.F.entry_list_ne (PySem.F.args_list_ne_2 _ _) (list_neN hz (f := fun j => (eqD (ds.getD j .non) (es.getD j .non)).getD false)) ⟨ho, ho2, ds_at hx p1 p2 r1 r2 hb, ?_⟩) hu
    have := (eqDs_all hb).1
    rw [← hl, Nat.min_self] at this
    simp only [List.size_toArray, l1, this]
    exact ⟨(fun x => nomatch x), qq⟩
  · rw [if_neg hl] at hb
    injection hb with hb
    subst hb
    exact RcNeAt.lists_lengths hL1.isList hL2.isList (by simp; omega) hu X.prog X.w E Q qq
theorem rn_ts (I : Inv X pins σ H s) (hF : Sub F H) {a b : Addr} {ds es : List D} {vs ws : List V} {t : Bool} {Ar : Around} (q1 : SqT X.K F a vs) (q2 : SqT X.K F b ws) (p1 : Reps (gx X cls) A F vs ds) (p2 : Reps (gx X cls) A F ws es)
    (hb : eqD (.tup ds) (.tup es) = some t) (hu : Ar.units < cLine)
    (hx : ∀ (d e : D) (v v' : V) (u u' : Value) (b : Bool), d ∈ ds → Rep (gx X cls) A F v d → Rep (gx X cls) A F v' e → RelV v u → RelV v' u' → eqD d e = some b → EqIn X.prog X.w Ar.in1 s u u' b) :
    rnI X.prog X.w Ar s (.ref a) (.ref b) t := fun E Q qq => by
  obtain ⟨us, r1, hT1, _⟩ := I.tuple (hF.sqt q1)
  obtain ⟨us', r2, hT2, _⟩ := I.tuple (hF.sqt q2)
  have l1 : us.length = ds.length := by rw [← r1.length, p1.length]
  have l2 : us'.length = es.length := by rw [← r2.length, p2.length]
  simp only [eqD] at hb
  cases hq : eqDs ds es with
  | none => rw [hq] at hb; cases hb
  | some r =>
    rw [hq] at hb
    simp only [Option.map_some, Option.some.injEq] at hb
    obtain ⟨⟨c1, dd, dt, sl⟩, ho, hc, n, hd⟩ := (show s.heap.IsTuple a us.toArray from hT1)
    obtain ⟨⟨c2, dd2, dt2, sl2⟩, ho2, hc2, n2, hd2⟩ := (show s.heap.IsTuple b us'.toArray from hT2)
    simp only at hc hd hc2 hd2
    subst hc hd hc2 hd2
    refine wpAny_richCompare_same_room (T := "tuple") (op := .NotEq) ⟨_, ho, rfl⟩ ⟨_, ho2, rfl⟩ PySem.F.slot_tuple_ne (call_meetsIn PySem.F.slot_tuple_ne ⟨_, ho, rfl⟩ PySem.F.entry_tuple_ne (PySem.F.args_tuple_ne_2 _ _) (tuple_neN (f := fun j => (eqD (ds.getD j .non) (es.getD j .non)).getD false)) ⟨ho, ho2, ds_at hx p1 p2 r1 r2 hq, ?_⟩) hu
    have := (eqDs_all hq).1
    simp only [List.size_toArray, l1, l2, this, hb]
    exact ⟨(fun x => nomatch x), qq⟩
theorem neD_ok (I : Inv X pins σ H s) (hF : Sub F H) (n : Nat) : ∀ (d e : D) (v v' : V) (u u' : Value) (b : Bool) (Ar : Around), Rep (gx X cls) A F v d → Rep (gx X cls) A F v' e → RelV v u → RelV v' u' → eqD d e = some b → d.depth ≤ n → Ar.units + n + 10 < cLine → rnI X.prog X.w Ar s u u' b := by
  have go : ∀ (ds : List D) (Ar : Around), D.depths ds + 1 ≤ n → Ar.units + n + 10 < cLine → ∀ (d e : D) (v v' : V) (u u' : Value) (b : Bool), d ∈ ds → Rep (gx X cls) A F v d → Rep (gx X cls) A F v' e → RelV v u → RelV v' u' → eqD d e = some b → EqIn X.prog X.w Ar.in1 s u u' b := by
    intro ds Ar hn hu d e v v' u u' b hm g1 g2 m1 m2 hq
    have := depths_mem hm
    exact eqI_ok I hF (n - 1) g1 g2 m1 m2 hq (by omega) (by show Ar.units + 1 + (n - 1) + 10 < _; omega)
  refine rnD I hF ?_ ?_ ?_
  · intro a b' ds es vs ws t Ar q1 q2 p1 p2 hb hn hu
    simp only [D.depth] at hn
    exact rn_ls I hF q1 q2 p1 p2 hb (by omega) (go ds Ar hn hu)
  · intro a b' ds es vs ws t Ar q1 q2 p1 p2 hb hn hu
    simp only [D.depth] at hn
    exact rn_ts I hF q1 q2 p1 p2 hb (by omega) (go ds Ar hn hu)
  · intro ks vs kb vb v v' u u' t Ar h1 h2 r1 r2 hb hn hu
    simp only [D.depth] at hn
    exact (rc_ds I hF h1 h2 r1 r2 hb (by omega) (go vs Ar (by omega) hu)).2
end
end Z

/-! operators on data by value -/
namespace Z
open PySem PySem.Spec PyProof.Rows L2 SlX

/-- a handle is read as what it stands for now -/
def res (μ : Sto) : D → D
  | .hd i => match μ[i]? with
    | some (some (.lst ds)) => .lst ds
    | some (some (.dct ks vs)) => .dct ks vs
    | _ => .hd i
  | d => d
/-- .. lists alone -/
def resL (μ : Sto) : D → D
  | .hd i => match μ[i]? with
    | some (some (.lst ds)) => .lst ds
    | _ => .hd i
  | d => d
def asL (μ : Sto) (d : D) : Option (List D) := match res μ d with | .lst ds => some ds | _ => none
def asT : D → Option (List D) | .tup ds => some ds | _ => none
def asD (μ : Sto) (d : D) : Option (List D × List D) := match res μ d with | .dct ks vs => some (ks, vs) | _ => none

abbrev RD (G : Gx) : Al → Hp → V → D → Prop := fun A F v d => Rep G A F v d
abbrev RB : Al → Hp → Bool → Bool → Prop := fun _ _ v d => v = d
abbrev RLs (G : Gx) : Al → Hp → List V → List D → Prop := fun A F v d => Reps G A F v d
/-- what happens on values: two operands -/
def Ok2 (X : Cx) (cls : Str → Option CI) (W : WX) (f : Value → Value → Sem Value) (op : D → D → Sto → Res D) : Prop :=
  ∀ (pins : List (Addr × Obj)) (s : Shared) (σ : L2.St) (H : Hp) (B : Addr → Prop) (A : Al) (μ : Sto) (x y : V) (v u : Value) (a b : D) (Q : VK), Inv X pins σ H s → RelS (gx X cls) B A H μ →
    Rep (gx X cls) A (hide B H A μ) x a → Rep (gx X cls) A (hide B H A μ) y b → RelV x v → RelV y u → Want (gx X cls) W (RD (gx X cls)) B A H μ σ (op a b μ) Q →
    wpAny (model X.prog X.w) X.A (f v u) (EP X pins σ Q) X.xe s
def Ok1 (X : Cx) (cls : Str → Option CI) (W : WX) (f : Value → Sem Value) (op : D → Sto → Res D) : Prop :=
  ∀ (pins : List (Addr × Obj)) (s : Shared) (σ : L2.St) (H : Hp) (B : Addr → Prop) (A : Al) (μ : Sto) (x : V) (v : Value) (a : D) (Q : VK), Inv X pins σ H s → RelS (gx X cls) B A H μ →
    Rep (gx X cls) A (hide B H A μ) x a → RelV x v → Want (gx X cls) W (RD (gx X cls)) B A H μ σ (op a μ) Q →
    wpAny (model X.prog X.w) X.A (f v) (EP X pins σ Q) X.xe s
def OkN (X : Cx) (cls : Str → Option CI) (W : WX) (f : List Value → Sem Value) (op : List D → Sto → Res D) : Prop :=
  ∀ (pins : List (Addr × Obj)) (s : Shared) (σ : L2.St) (H : Hp) (B : Addr → Prop) (A : Al) (μ : Sto) (xs : List V) (us : List Value) (ds : List D) (Q : VK), Inv X pins σ H s → RelS (gx X cls) B A H μ →
    Reps (gx X cls) A (hide B H A μ) xs ds → Vals xs us → Want (gx X cls) W (RD (gx X cls)) B A H μ σ (op ds μ) Q →
    wpAny (model X.prog X.w) X.A (f us) (EP X pins σ Q) X.xe s
/-- a truth -/
def OkT (X : Cx) (cls : Str → Option CI) (W : WX) (f : Value → Sem Bool) (op : D → Sto → Res Bool) : Prop :=
  ∀ (pins : List (Addr × Obj)) (s : Shared) (σ : L2.St) (H : Hp) (B : Addr → Prop) (A : Al) (μ : Sto) (x : V) (v : Value) (a : D) (Q : Bool → Hp → Prop), Inv X pins σ H s → RelS (gx X cls) B A H μ →
    Rep (gx X cls) A (hide B H A μ) x a → RelV x v → Want (gx X cls) W RB B A H μ σ (op a μ) Q →
    wpAny (model X.prog X.w) X.A (f v) (TP X pins σ Q) X.xe s

section
variable {G : Gx} {W : WX} {B : Addr → Prop} {A : Al} {H : Hp} {μ : Sto} {σ : L2.St} {d : D} {v : V}
/-- a handle read -/
theorem rep_res (rel : RelS G B A H μ) (h : Rep G A (hide B H A μ) v d) : Rep G A H v (resL μ d) := by
  cases d with
  | hd i =>
    obtain ⟨p, hp, hv⟩ := h
    unfold resL
    dsimp only
    split
    · rename_i ds e
      obtain ⟨_, vs, h1, h2⟩ := rel.node i p _ hp e
      exact ⟨p.1, vs, hv, SqL.of h1, h2.mono (Pre.refl A) hide_sub⟩
    · exact ⟨p, hp, hv⟩
  | _ => exact h.mono (Pre.refl A) hide_sub
theorem asL_ok (rel : RelS G B A H μ) (h : Rep G A (hide B H A μ) v d) {ds : List D} (e : asL μ d = some ds) : ∃ a vs, v = .ref a ∧ SqL G.K H a vs ∧ Reps G A (hide B H A μ) vs ds := by
  cases d with
  | hd i =>
    obtain ⟨p, hp, hv⟩ := h
    unfold asL res at e
    dsimp only at e
    split at e
    · rename_i ds' e'
      split at e'
      · rename_i e2
        injection e' with e'; subst e'; injection e with e; subst e
        obtain ⟨_, vs, h1, h2⟩ := rel.node i p _ hp e2
        exact ⟨p.1, vs, hv, SqL.of h1, h2⟩
      · cases e'
      · cases e'
    · cases e
  | lst ds' =>
    unfold asL res at e
    injection e with e; subst e
    obtain ⟨a, vs, h1, h2, h3⟩ := h
    exact ⟨a, vs, h1, hide_sub.sql h2, h3⟩
  | _ => cases e
theorem asT_ok (h : Rep G A (hide B H A μ) v d) {ds : List D} (e : asT d = some ds) : ∃ a vs, v = .ref a ∧ SqT G.K H a vs ∧ Reps G A (hide B H A μ) vs ds := by
  cases d with
  | tup ds' =>
    injection e with e; subst e
    obtain ⟨a, vs, h1, h2, h3⟩ := h
    exact ⟨a, vs, h1, hide_sub.sqt h2, h3⟩
  | _ => cases e
theorem asD_ok (rel : RelS G B A H μ) (h : Rep G A (hide B H A μ) v d) {ks vs : List D} (e : asD μ d = some (ks, vs)) :
    ∃ a es, v = .ref a ∧ Rd H a (DicO G.w a es) ∧ Reps G A (hide B H A μ) (es.map (·.2.1)) ks ∧ Reps G A (hide B H A μ) (es.map (·.2.2)) vs ∧ D.keys ks = some (es.map (·.1)) ∧ (es.map (·.1)).Nodup ∧ ∀ e ∈ es, e.1.depth ≤ 8 := by
  cases d with
  | hd i =>
    obtain ⟨p, hp, hv⟩ := h
    unfold asD res at e
    dsimp only at e
    split at e
    · rename_i ks' vs' e'
      split at e'
      · cases e'
      · rename_i e2
        injection e' with e1' e2'; subst e1'; subst e2'; injection e with e; injection e with e1 e3; subst e1; subst e3
        obtain ⟨_, es, h1, h2⟩ := rel.node i p _ hp e2
        exact ⟨p.1, es, hv, .inl h1, h2⟩
      · cases e'
    · cases e
  | dct ks' vs' =>
    unfold asD res at e
    injection e with e; injection e with e1 e2; subst e1; subst e2
    obtain ⟨a, es, h1, h2, h3⟩ := h
    exact ⟨a, es, h1, hide_sub.rd h2.rd, h3⟩
  | _ => cases e
/-- nothing is changed -/
theorem Want.here {Q : VK} (w : Want G W (RD G) B A H μ σ (.ok d μ) Q) (rel : RelS G B A H μ) (r : Rep G A (hide B H A μ) v d) : Q v H := w v A H rel r (Step.refl B A H μ)
/-- a new thing is handed back -/
theorem Want.new {Q : VK} {o : HO} {p : Addr} (w : Want G W (RD G) B A H μ σ (.ok d μ) Q) (rel : RelS G B A H μ) (hp : H p = none)
    (r : hide B (upd H p o) A μ p = some o → Sub (hide B H A μ) (hide B (upd H p o) A μ) → Rep G A (hide B (upd H p o) A μ) (.ref p) d) : Q (.ref p) (upd H p o) := by
  obtain ⟨r1, st, h1⟩ := rel.frozen (o := o) hp
  exact w (.ref p) A _ r1 (r h1 st.sub) st
theorem rep_lst {F F' : Hp} {p : Addr} {vs : List V} {ds : List D} (h : F' p = some (.lst vs)) (s : Sub F F') (r : Reps G A F vs ds) : Rep G A F' (.ref p) (.lst ds) := ⟨p, vs, rfl, SqL.of h, r.mono (Pre.refl A) s⟩
theorem rep_tup {F F' : Hp} {p : Addr} {vs : List V} {ds : List D} (h : F' p = some (.tup vs)) (s : Sub F F') (r : Reps G A F vs ds) : Rep G A F' (.ref p) (.tup ds) := ⟨p, vs, rfl, SqT.of h, r.mono (Pre.refl A) s⟩
end
def lim : Nat := 16000000
theorem lim_le {n : Nat} (h : n ≤ lim) : n ≤ sizeLine := by rw [sizeLine_eq]; unfold lim at h; omega
theorem lim_lt {n : Nat} (h : n < lim) : n < sizeLine := by rw [sizeLine_eq]; unfold lim at h; omega

/-! ### + - * // % ** -/
def addO (a b : D) (μ : Sto) : Res D := match a, b with
  | .int i, .int j => .ok (.int (i + j)) μ
  | .str x, .str y => if x.length + y.length ≤ lim then .ok (.str (x ++ y)) μ else .bad
  | .tup x, .tup y => if x = [] then .bad else if x.length + y.length ≤ lim then .ok (.tup (x ++ y)) μ else .bad
  | a, b => match asL μ a, asL μ b with
    | some x, some y => if x.length + y.length ≤ lim then .ok (.lst (x ++ y)) μ else .bad
    | _, _ => .bad
def subO (a b : D) (μ : Sto) : Res D := match a, b with
  | .int i, .int j => .ok (.int (i - j)) μ
  | _, _ => .bad
def mulO (a b : D) (μ : Sto) : Res D := match a, b with
  | .int i, .int j => if (-(2 ^ 64) < i ∧ i < 2 ^ 64) ∨ (-(2 ^ 64) < j ∧ j < 2 ^ 64) then .ok (.int (i * j)) μ else .bad
  | _, _ => .bad
def divO (a b : D) (μ : Sto) : Res D := match a, b with
  | .int i, .int j => if j ≠ 0 ∧ j.natAbs < 1073741824 then .ok (.int (i.fdiv j)) μ else .bad
  | _, _ => .bad
def modO (a b : D) (μ : Sto) : Res D := match a, b with
  | .int i, .int j => if j ≠ 0 then .ok (.int (i.fmod j)) μ else .bad
  | _, _ => .bad
def powO (a b : D) (μ : Sto) : Res D := match a, b with
  | .int i, .int j => if 0 ≤ j ∧ j ≤ 1000000 ∧ i.natAbs < 2 ^ 64 then .ok (.int (i ^ j.toNat)) μ else .bad
  | _, _ => .bad
section
variable {X : Cx} {cls : Str → Option CI} {W : WX}
theorem sub_ok : Ok2 X cls W (binaryOp .Sub) subO := by
  intro pins s σ H B A μ x y v u a b Q I rel ra rb rx ry w
  unfold subO at w
  split at w
  · obtain rfl := show x = _ from ra
    obtain rfl := show y = _ from rb
    exact op_sub pins s σ H _ _ v u Q I rx ry ⟨_, _, rfl, rfl, w.here rel rfl⟩
  · exact w.elim
theorem mul_ok : Ok2 X cls W (binaryOp .Mult) mulO := by
  intro pins s σ H B A μ x y v u a b Q I rel ra rb rx ry w
  unfold mulO at w
  split at w
  · obtain rfl := show x = _ from ra
    obtain rfl := show y = _ from rb
    split at w
    · rename_i hc
      exact op_mul pins s σ H _ _ v u Q I rx ry ⟨_, _, rfl, rfl, hc, w.here rel rfl⟩
    · exact w.elim
  · exact w.elim
theorem div_ok : Ok2 X cls W (binaryOp .FloorDiv) divO := by
  intro pins s σ H B A μ x y v u a b Q I rel ra rb rx ry w
  unfold divO at w
  split at w
  · obtain rfl := show x = _ from ra
    obtain rfl := show y = _ from rb
    split at w
    · rename_i hc
      exact op_fdivN pins s σ H _ _ v u Q I rx ry ⟨_, _, rfl, rfl, hc, w.here rel rfl⟩
    · exact w.elim
  · exact w.elim
theorem mod_ok : Ok2 X cls W (binaryOp .Mod) modO := by
  intro pins s σ H B A μ x y v u a b Q I rel ra rb rx ry w
  unfold modO at w
  split at w
  · obtain rfl := show x = _ from ra
    obtain rfl := show y = _ from rb
    split at w
    · rename_i hc
      exact op_modN pins s σ H _ _ v u Q I rx ry ⟨_, _, rfl, rfl, hc, w.here rel rfl⟩
    · exact w.elim
  · exact w.elim
theorem pow_ok : Ok2 X cls W (binaryOp .Pow) powO := by
  intro pins s σ H B A μ x y v u a b Q I rel ra rb rx ry w
  unfold powO at w
  split at w
  · obtain rfl := show x = _ from ra
    obtain rfl := show y = _ from rb
    split at w
    · rename_i hc
      exact op_pow pins s σ H _ _ v u Q I rx ry ⟨_, _, rfl, rfl, hc, w.here rel rfl⟩
    · exact w.elim
  · exact w.elim
/-- list + list, of any that are read -/
theorem cat_lists {pins : List (Addr × Obj)} {s : Shared} {σ : L2.St} {H : Hp} {a b : Addr} {xs ys : List V} {Q : VK} (I : Inv X pins σ H s) (h1 : SqL X.K H a xs) (h2 : SqL X.K H b ys) (hz : xs.length + ys.length ≤ sizeLine)
    (q : ∀ p, H p = none → Q (.ref p) (upd H p (.lst (xs ++ ys)))) : wpAny (model X.prog X.w) X.A (binaryOp .Add (.ref a) (.ref b)) (EP X pins σ Q) X.xe s := by
  obtain ⟨its, r1, pl1, _⟩ := I.list h1
  obtain ⟨its2, r2, pl2, _⟩ := I.list h2
  have l1 := r1.length
  have l2 := r2.length
  obtain ⟨⟨c, dd, dt, sl⟩, ho, hc, n, hd⟩ := pl1.isList
  obtain ⟨⟨c2, dd2, dt2, sl2⟩, ho2, hc2, n2, hd2⟩ := pl2.isList
  simp only at hc hd hc2 hd2
  subst hc hd hc2 hd2
  have e : its.toArray ++ its2.toArray = (its ++ its2).toArray := by simp
  refine concat_meets ⟨_, ho, rfl⟩ ⟨_, ho2, rfl⟩ noFill_list_add seq_list_add PySem.F.slot_list_add PySem.F.entry_list_add (PySem.F.args_list_add_2 _ _) (list_addW a b its.toArray its2.toArray n n2 dd dd2 sl sl2 (by simp; omega)) ⟨ho, ho2, ?_⟩
  rw [e]
  exact ⟨.ref _, _, I.lnew (t' := s.toks) (r1.append r2) (by rw [List.length_append]; exact hz), rfl, q _ I.fresh⟩
theorem add_ok : Ok2 X cls W (binaryOp .Add) addO := by
  intro pins s σ H B A μ x y v u a b Q I rel ra rb rx ry w
  unfold addO at w
  split at w
  · obtain rfl := show x = _ from ra
    obtain rfl := show y = _ from rb
    exact op_add pins s σ H _ _ v u Q I rx ry ⟨_, _, rfl, rfl, w.here rel rfl⟩
  · obtain rfl := show x = _ from ra
    obtain rfl := show y = _ from rb
    split at w
    · rename_i hc
      exact op_add_str pins s σ H _ _ v u Q I rx ry ⟨_, _, rfl, rfl, lim_le hc, w.here rel rfl⟩
    · exact w.elim
  · rename_i xs ys
    obtain ⟨a, vs, rfl, h1, r1⟩ := asT_ok (d := .tup xs) ra rfl
    obtain ⟨b, ws, rfl, h2, r2⟩ := asT_ok (d := .tup ys) rb rfl
    split at w
    · exact w.elim
    · rename_i hne
      split at w
      · rename_i hc
        refine op_catT pins s σ H _ _ v u Q I rx ry ⟨a, b, vs, ws, rfl, rfl, h1, h2, fun z => hne (by have := r1.length; rw [z] at this; exact List.length_eq_zero_iff.mp this.symm), by rw [r1.length, r2.length]; exact lim_le hc, fun z => ?_, fun z p hp => ?_⟩
        · have : ys = [] := by have := r2.length; rw [z] at this; exact List.length_eq_zero_iff.mp this.symm
          subst this
          rw [List.append_nil] at w
          exact w.here rel ra
        · exact w.new rel hp fun h3 h4 => rep_tup h3 h4 (r1.append r2)
      · exact w.elim
  · split at w
    · rename_i xs ys e1 e2
      split at w
      · rename_i hc
        obtain ⟨a, vs, rfl, h1, r1⟩ := asL_ok rel ra e1
        obtain ⟨b, ws, rfl, h2, r2⟩ := asL_ok rel rb e2
        obtain rfl := show _ = _ from rx
        obtain rfl := show _ = _ from ry
        exact cat_lists I h1 h2 (by rw [r1.length, r2.length]; exact lim_le hc) fun p hp => w.new rel hp fun h3 h4 => rep_lst h3 h4 (r1.append r2)
      · exact w.elim
    · exact w.elim
end
end Z

/-! comparisons, truth, items -/
namespace Z
open PySem PySem.Spec PyProof.Rows L2 SlX
open PySem.SeqAt (EqIn EqAt in_listAt in_tupleAt notIn_listAt notIn_tupleAt)

/-- a key that is not too deep -/
def D.kk (d : D) : Option NK := match d.key with
  | some k => if k.depth ≤ 8 then some k else none
  | none => none
def D.kks : List D → Option (List NK)
  | [] => some []
  | d :: ds => match d.kk, D.kks ds with
    | some k, some ks => some (k :: ks)
    | _, _ => none
theorem kk_key {d : D} {k : NK} (h : d.kk = some k) : d.key = some k ∧ k.depth ≤ 8 := by
  unfold D.kk at h
  split at h
  · rename_i k' e
    split at h
    · rename_i hd
      injection h with h; subst h
      exact ⟨e, hd⟩
    · cases h
  · cases h
theorem kks_get : ∀ {ds : List D} {ks : List NK} {i : Nat} {d : D}, D.kks ds = some ks → ds[i]? = some d → ∃ k, ks[i]? = some k ∧ d.kk = some k
  | [], _, _, _, _, h => by simp at h
  | d :: ds, _, i, x, e, h => by
    simp only [D.kks] at e
    cases hk : D.kk d with
    | none => rw [hk] at e; cases e
    | some k =>
      cases hks : D.kks ds with
      | none => rw [hk, hks] at e; cases e
      | some ks =>
        rw [hk, hks] at e; cases e
        cases i with
        | zero => simp at h; subst h; exact ⟨k, rfl, hk⟩
        | succ i => simpa using kks_get hks (by simpa using h)
theorem kks_length : ∀ {ds : List D} {ks : List NK}, D.kks ds = some ks → ks.length = ds.length
  | [], _, e => by cases e; rfl
  | d :: ds, _, e => by
    simp only [D.kks] at e
    cases hk : D.kk d with
    | none => rw [hk] at e; cases e
    | some k =>
      cases hks : D.kks ds with
      | none => rw [hk, hks] at e; cases e
      | some ks => rw [hk, hks] at e; cases e; simp [kks_length hks]
section
variable {X : Cx} {cls : Str → Option CI} {pins : List (Addr × Obj)} {σ : L2.St} {H : Hp} {s : Shared} {A : Al} {F : Hp}
theorem kis_of (I : Inv X pins σ H s) (hF : Sub F H) {d : D} {v : V} {u : Value} {k : NK} (h : Rep (gx X cls) A F v d) (r : RelV v u) (e : d.kk = some k) : KIs s.heap k u :=
  ⟨Rep.nested I rfl hF d v u k h r (kk_key e).1, (kk_key e).2⟩
open Classical in
/-- whether an item is the key -/
noncomputable def isK (h : Heap) (k : NK) (u : Value) : Bool := decide (NestedIs h k u)
open Classical in
theorem isK_at {h : Heap} {k k' : NK} {u : Value} (x : NestedIs h k' u) : isK h k u = decide (k' = k) := by
  unfold isK
  by_cases e : k' = k
  · subst e
    rw [decide_eq_true x, decide_eq_true rfl]
  · rw [decide_eq_false (fun y => e (NestedIs.inj _ _ _ x y)), decide_eq_false e]
theorem isK_eq {A : Around} {s : Shared} {k k' : NK} {u v : Value} (hu : A.units + 8 < cLine) (x : KIs s.heap k' u) (y : KIs s.heap k v) : EqAt A s u v (isK s.heap k u) := by
  rw [isK_at x.1, NestedKey.decide_eq]
  exact eqAt_key k' k A s u v x.1 y.1 (by have := x.2; omega)
/-- the items as keys -/
theorem items_k (I : Inv X pins σ H s) (hF : Sub F H) {ds : List D} {vs : List V} {us : List Value} {ks : List NK} (h : Reps (gx X cls) A F vs ds) (r : Vals vs us) (e : D.kks ds = some ks) {j : Nat} {u : Value} (hj : us[j]? = some u) :
    ∃ k, ks[j]? = some k ∧ KIs s.heap k u := by
  have hl : us.length = vs.length := r.length.symm
  have hlt := (List.getElem?_eq_some_iff.mp hj).1
  have hv : vs[j]? = some (vs[j]'(by omega)) := List.getElem?_eq_getElem _
  obtain ⟨d, h1, h2⟩ := h.getV hv
  obtain ⟨u', h3, h4⟩ := r.get hv
  rw [hj] at h3; cases h3
  obtain ⟨k, h5, h6⟩ := kks_get e h1
  exact ⟨k, h5, kis_of I hF h2 h4 h6⟩
theorem any_k (I : Inv X pins σ H s) (hF : Sub F H) {ds : List D} {vs : List V} {us : List Value} {ks : List NK} (h : Reps (gx X cls) A F vs ds) (r : Vals vs us) (e : D.kks ds = some ks) (k : NK) :
    us.toArray.any (isK s.heap k) = ks.any fun x => decide (x = k) := by
  rw [← Array.any_toList]
  induction ds generalizing vs us ks with
  | nil =>
    have : vs = [] := h
    subst this
    cases r
    simp only [D.kks] at e; injection e with e; subst e
    rfl
  | cons d ds ih =>
    obtain ⟨v, vs', rfl, h1, h2⟩ := h
    cases r with
    | cons r1 r2 =>
      simp only [D.kks] at e
      cases hk : D.kk d with
      | none => rw [hk] at e; cases e
      | some k1 =>
        cases hks : D.kks ds with
        | none => rw [hk, hks] at e; cases e
        | some ks' =>
          rw [hk, hks] at e; cases e
          have := ih h2 r2 hks
          simp only [List.any_cons] at this ⊢
          rw [this, isK_at (kis_of I hF h1 r1 hk).1]
end

/-! ### dicts: the raw operations -/
section
variable {prog : Program} {w : World} {A : Around} {E : Value → Shared → Prop} {s : Shared} {d : Addr} {xs : List Ent} {k : NK} {key v : Value}
theorem item_N {Q : Value → Shared → Prop} (hu : A.units + 9 < cLine) (hkey : KIs s.heap k key) (hm : DObj w s.heap d xs) (his : KsOk s.heap xs) (hv : atN xs k = some v)
    (h : Q v { s with toks := s.toks + k.draws }) : wpAny (model prog w) A (getItem (.ref d) key) Q E s := by
  unfold getItem
  try with_reducible refine wpAny_holding ?_
  refine wpAny_bind (wpAny_sequenceKey hm.typeIs (by decide) ?_)
  refine wpAny_bind (wpAny_callSpecial?_slot (name := Str.ofString "__getitem__") hm.typeIs slot_dict_getitem
    (wpAny_call_entry slot_dict_getitem hm.typeIs entry_dict_getitem ?_ (args_dict_getitem _ _)))
  show wpAny _ _ (dictGet d key >>= _) _ _ s
  refine wpAny_bind (get_N (by show A.units + 1 + 8 < _; omega) hkey hm his ?_)
  rw [hv]
  exact wpAny_pure ⟨v, rfl, wpAny_pure h⟩
theorem setItem_N {Q : Unit → Shared → Prop} (hu : A.units + 9 < cLine) (hkey : KIs s.heap k key) (hm : DObj w s.heap d xs) (his : KsOk s.heap xs) (hz : xs.length ≤ sizeLine)
    (hQ : ∀ h', DObj w h' d (putN xs k key v) → Heap.SameBut d s.heap h' → Q () { s with heap := h', toks := s.toks + k.draws }) :
    wpAny (model prog w) A (setItem (.ref d) key v) Q E s := by
  unfold setItem
  try with_reducible refine wpAny_holding ?_
  refine wpAny_bind (wpAny_sequenceKey hm.typeIs (by decide) ?_)
  refine wpAny_bind (wpAny_callSpecial?_slot (name := Str.ofString "__setitem__") hm.typeIs slot_dict_setitem
    (wpAny_call_entry slot_dict_setitem hm.typeIs entry_dict_setitem ?_ (args_dict_setitem _ _ _)))
  show wpAny _ _ (Builtin.Dict.notOrdered "__setitem__" ⟨[.ref d, key, v], []⟩ >>= _) _ _ s
  refine wpAny_bind (wpAny_notOrdered_dict hm.typeIs ?_)
  show wpAny _ _ (dictSet d key v >>= _) _ _ s
  exact wpAny_bind (put_N (by show A.units + 1 + 8 < _; omega) hkey hm his hz fun h' hm' hs' => wpAny_pure ⟨.none, rfl, wpAny_pure (hQ h' hm' hs')⟩)
theorem contains_N {Q : Bool → Shared → Prop} (hu : A.units + 9 < cLine) (hkey : KIs s.heap k key) (hd : (d == sysModules) = false) (hm : DObj w s.heap d xs) (his : KsOk s.heap xs)
    (h : Q (atN xs k).isSome { s with toks := s.toks + k.draws }) : wpAny (model prog w) A (contains (.ref d) key) Q E s := by
  refine wpAny_contains_slot hm.typeIs PySem.F.slot_dict_contains ?_
  refine call_meetsIn PySem.F.slot_dict_contains hm.typeIs PySem.F.entry_dict_contains (PySem.F.args_dict_contains_2 _ _) (S := fun A' R s' => A' = A ∧ s' = s ∧ R (.ok (.ret (.bool (atN xs k).isSome))) { s with toks := s.toks + k.draws }) (fun A' R s' hS => ?_) ⟨rfl, rfl, wpAny_truthy_bool h⟩
  obtain ⟨rfl, rfl, hq⟩ := hS
  show wpAny _ _ (dictGet d key >>= _) _ _ _
  refine wpAny_bind (get_N (by show A'.units + 1 + 8 < _; omega) hkey hm his ?_)
  cases hf : atN xs k with
  | some p =>
    rw [hf] at hq
    show wpAny _ _ (ret (.bool true)) _ _ _
    exact wpAny_pure hq
  | none =>
    rw [hf] at hq
    show wpAny _ _ (Builtin.Dict.pendingKey? d key >>= _) _ _ _
    exact wpAny_bind (wpAny_pendingKey_other hd (wpAny_pure hq))
theorem inD_N {Q : Value → Shared → Prop} (hu : A.units + 9 < cLine) (hkey : KIs s.heap k key) (hd : (d == sysModules) = false) (hm : DObj w s.heap d xs) (his : KsOk s.heap xs)
    (h : Q (.bool (atN xs k).isSome) { s with toks := s.toks + k.draws }) : wpAny (model prog w) A (compareOp .In key (.ref d)) Q E s := by
  show wpAny _ _ (do return .bool (← contains (.ref d) key)) Q E s
  exact wpAny_bind (contains_N hu hkey hd hm his (wpAny_pure h))
theorem notInD_N {Q : Value → Shared → Prop} (hu : A.units + 9 < cLine) (hkey : KIs s.heap k key) (hd : (d == sysModules) = false) (hm : DObj w s.heap d xs) (his : KsOk s.heap xs)
    (h : Q (.bool (!(atN xs k).isSome)) { s with toks := s.toks + k.draws }) : wpAny (model prog w) A (compareOp .NotIn key (.ref d)) Q E s := by
  show wpAny _ _ (do return .bool (!(← contains (.ref d) key))) Q E s
  exact wpAny_bind (contains_N hu hkey hd hm his (wpAny_pure h))
end
section
variable {X : Cx} {cls : Str → Option CI} {pins : List (Addr × Obj)} {σ : L2.St} {H : Hp} {s : Shared} {A : Al} {F : Hp}
/-- a dict that is read: its entries in the machine, and by value -/
theorem dic_read (I : Inv X pins σ H s) (hF : Sub F H) {a : Addr} {es : List EntV} {ks vs : List D} (h : Rd H a (DicO X.w a es)) (r1 : Reps (gx X cls) A F (es.map (·.2.1)) ks) (hk : D.keys ks = some (es.map (·.1))) (nd : (es.map (·.1)).Nodup) (hd : ∀ e ∈ es, e.1.depth ≤ 8) :
    es.length ≤ sizeLine ∧ (a == sysModules) = false ∧ ∃ xs : List Ent, DObj X.w s.heap a xs ∧ Paired EV es xs ∧ KsOk s.heap xs := by
  obtain ⟨h1, h2, xs, h3, h4⟩ := dic_at I h
  exact ⟨h1, h2, xs, h3, h4, ksOk_of I (G := gx X cls) rfl hF h4 r1 hk nd hd⟩
theorem at_look {es : List EntV} {xs : List Ent} {ks vs : List D} {k : NK} (r : Paired EV es xs) (hk : D.keys ks = some (es.map (·.1))) (r2 : Reps (gx X cls) A F (es.map (·.2.2)) vs) :
    (D.look ks vs k = none → atN xs k = none) ∧ (∀ d, D.look ks vs k = some d → ∃ v u, atN xs k = some u ∧ RelV v u ∧ Rep (gx X cls) A F v d) := by
  have hl : es.length = xs.length := paired_len r
  have hv : vs.length = es.length := by rw [← r2.length]; simp
  unfold D.look atN
  rw [← fnd_ix r hk]
  cases hf : fnd xs k with
  | none => exact ⟨fun _ => rfl, fun d h => by cases h⟩
  | some i =>
    obtain ⟨hlt, _, _⟩ := List.findIdx?_eq_some_iff_getElem.mp hf
    refine ⟨fun h => ?_, fun d h => ?_⟩
    · simp only [Option.bind_some] at h
      rw [List.getElem?_eq_none_iff] at h
      omega
    · simp only [Option.bind_some] at h
      obtain ⟨v, h1, h2⟩ := r2.get h
      rw [List.getElem?_map] at h1
      obtain ⟨p, hp1, hp2⟩ := pairedEV_get r (i := i) (q := xs[i]) (List.getElem?_eq_getElem hlt)
      rw [hp1] at h1
      injection h1 with h1
      refine ⟨v, xs[i].2.2, by simp [List.getElem?_eq_getElem hlt], ?_, h2⟩
      rw [← h1]; exact hp2.2.2
end

/-! ### == != < in is -/
def D.isNon : D → Bool
  | .non => true
  | _ => false
inductive CK where
  | eq | ne | lt | le | gt | ge | isN | notN | isB | notB | inn | nin
  deriving DecidableEq
def eqO (a b : D) (μ : Sto) : Option Bool := if (resL μ a).depth ≤ 60 then eqD (resL μ a) (resL μ b) else none
def inO (a c : D) (μ : Sto) : Option Bool := match c with
  | .str z => match a with
    | .str x => if x.length = 1 then some (decide (x.cps.getD 0 0 ∈ z.cps.toList)) else none
    | _ => none
  | c => match a.kk with
    | none => none
    | some k => match asT c with
      | some ds => (D.kks ds).map fun ks => ks.any fun x => decide (x = k)
      | none => match asL μ c with
        | some ds => (D.kks ds).map fun ks => ks.any fun x => decide (x = k)
        | none => match asD μ c with
          | some (ks, vs) => some (D.look ks vs k).isSome
          | none => none
def bO (o : Option Bool) (μ : Sto) : Res D := match o with
  | some b => .ok (.bl b) μ
  | none => .bad
def cmpO (o : CK) (a b : D) (μ : Sto) : Res D := match o with
  | .eq => bO (eqO a b μ) μ
  | .ne => bO ((eqO a b μ).map (!·)) μ
  | .lt => match a, b with
    | .int i, .int j => .ok (.bl (decide (i < j))) μ
    | .str x, .str y => .ok (.bl (decide (x.cps.toList < y.cps.toList))) μ
    | _, _ => .bad
  | .le => match a, b with
    | .int i, .int j => .ok (.bl (decide (i ≤ j))) μ
    | _, _ => .bad
  | .gt => match a, b with
    | .int i, .int j => .ok (.bl (decide (j < i))) μ
    | _, _ => .bad
  | .ge => match a, b with
    | .int i, .int j => .ok (.bl (decide (j ≤ i))) μ
    | .str x, .str y => .ok (.bl (!decide (x.cps.toList < y.cps.toList))) μ
    | _, _ => .bad
  | .isN => match b with
    | .non => .ok (.bl a.isNon) μ
    | _ => .bad
  | .notN => match b with
    | .non => .ok (.bl (!a.isNon)) μ
    | _ => .bad
  | .isB => match a, b with
    | .bl x, .bl y => .ok (.bl (x == y)) μ
    | _, _ => .bad
  | .notB => match a, b with
    | .bl x, .bl y => .ok (.bl (!(x == y))) μ
    | _, _ => .bad
  | .inn => bO (inO a b μ) μ
  | .nin => bO ((inO a b μ).map (!·)) μ
def CK.op : CK → CmpOp
  | .eq => .Eq | .ne => .NotEq | .lt => .Lt | .le => .LtE | .gt => .Gt | .ge => .GtE | .isN => .Is | .notN => .IsNot | .isB => .Is | .notB => .IsNot | .inn => .In | .nin => .NotIn
section
variable {X : Cx} {cls : Str → Option CI} {W : WX}
theorem bO_some {o : Option Bool} {μ : Sto} {G : Gx} {B : Addr → Prop} {A : Al} {H : Hp} {σ : L2.St} {Q : VK} (w : Want G W (RD G) B A H μ σ (bO o μ) Q) (rel : RelS G B A H μ) : ∃ b, o = some b ∧ Q (.bl b) H := by
  unfold bO at w
  split at w
  · rename_i b
    exact ⟨b, rfl, w.here rel rfl⟩
  · exact w.elim
theorem in_any {neg : Bool} (hu : X.A.units + 20 < cLine) {pins : List (Addr × Obj)} {s : Shared} {σ : L2.St} {H : Hp} {B : Addr → Prop} {A : Al} {μ : Sto} {x y : V} {v u : Value} {a c : D} {Q : VK} {t : Bool} (I : Inv X pins σ H s) (rel : RelS (gx X cls) B A H μ)
    (ra : Rep (gx X cls) A (hide B H A μ) x a) (rc : Rep (gx X cls) A (hide B H A μ) y c) (rx : RelV x v) (ry : RelV y u) (e : inO a c μ = some t) (q : Q (.bl (if neg then !t else t)) H) :
    wpAny (model X.prog X.w) X.A (compareOp (if neg then .NotIn else .In) v u) (EP X pins σ Q) X.xe s := by
  have fin : ∀ tk, EP X pins σ Q (.bool (if neg then !t else t)) { s with toks := tk } := fun tk => ⟨.bl _, H, I.tok _, rfl, q⟩
  unfold inO at e
  split at e
  · split at e
    · rename_i z x'
      split at e
      · rename_i h1
        obtain rfl := show x = _ from ra
        obtain rfl := show y = _ from rc
        injection e with e
        have hx : x' = ⟨#[x'.cps.getD 0 0]⟩ := by
          obtain ⟨⟨l⟩⟩ := x'
          have : l.length = 1 := h1
          match l, this with
          | [c], _ => rfl
        rw [hx] at rx
        subst e
        cases neg with
        | false => exact op_in_sign pins s σ H _ _ v u Q I rx ry ⟨_, _, rfl, rfl, q⟩
        | true => exact op_notIn_sign pins s σ H _ _ v u Q I rx ry ⟨_, _, rfl, rfl, q⟩
      · cases e
    · cases e
  · split at e
    · cases e
    · rename_i k hk
      have hkey := kis_of I hide_sub ra rx hk
      split at e
      · rename_i ds hT
        obtain ⟨p, vs, rfl, h1, h2⟩ := asT_ok rc hT
        obtain rfl := show u = _ from ry
        obtain ⟨its, r, pl, _⟩ := I.tuple h1
        obtain ⟨ks, hks, e⟩ := Option.map_eq_some_iff.mp e
        have he : ∀ z, z ∈ its.toArray → EqAt X.A.in1 s z v (isK s.heap k z) := fun z hz => by
          obtain ⟨j, hj⟩ := List.mem_iff_getElem?.mp (Array.mem_toList_iff.mpr hz)
          obtain ⟨k', _, h4⟩ := items_k I hide_sub h2 r hks (by simpa using hj)
          exact isK_eq (by show X.A.units + 1 + 8 < _; omega) h4 hkey
        have ea := any_k I hide_sub h2 r hks k
        cases neg with
        | false => exact in_tupleAt (isK s.heap k) (show s.heap.IsTuple p its.toArray from pl) he (by rw [ea, e]; exact fin s.toks)
        | true => exact notIn_tupleAt (isK s.heap k) (show s.heap.IsTuple p its.toArray from pl) he (by rw [ea, e]; exact fin s.toks)
      · split at e
        · rename_i ds hL
          obtain ⟨p, vs, rfl, h1, h2⟩ := asL_ok rel rc hL
          obtain rfl := show u = _ from ry
          obtain ⟨its, r, pl, _⟩ := I.list h1
          obtain ⟨ks, hks, e⟩ := Option.map_eq_some_iff.mp e
          have he : ∀ z, z ∈ its.toArray → EqAt X.A.in1 s z v (isK s.heap k z) := fun z hz => by
            obtain ⟨j, hj⟩ := List.mem_iff_getElem?.mp (Array.mem_toList_iff.mpr hz)
            obtain ⟨k', _, h4⟩ := items_k I hide_sub h2 r hks (by simpa using hj)
            exact isK_eq (by show X.A.units + 1 + 8 < _; omega) h4 hkey
          have ea := any_k I hide_sub h2 r hks k
          cases neg with
          | false => exact in_listAt (isK s.heap k) pl.isList he (by rw [ea, e]; exact fin s.toks)
          | true => exact notIn_listAt (isK s.heap k) pl.isList he (by rw [ea, e]; exact fin s.toks)
        · split at e
          · rename_i ks vs hD
            obtain ⟨p, es, rfl, h1, h2, h3, h4, h5, h6⟩ := asD_ok rel rc hD
            obtain rfl := show u = _ from ry
            obtain ⟨hz, hs, xs, ho, hp, hk2⟩ := dic_read I hide_sub (cls := cls) (vs := vs) h1 h2 h4 h5 h6
            obtain ⟨l1, l2⟩ := at_look hp h4 h3 (k := k)
            injection e with e
            have ei : (atN xs k).isSome = t := by
              rw [← e]
              cases hl : D.look ks vs k with
              | none => rw [l1 hl]; rfl
              | some d => obtain ⟨_, u', h, _⟩ := l2 d hl; rw [h]; rfl
            cases neg with
            | false => exact inD_N (by omega) hkey hs ho hk2 (by rw [ei]; exact fin _)
            | true => exact notInD_N (by omega) hkey hs ho hk2 (by rw [ei]; exact fin _)
          · cases e
theorem cmp_ok (hu : X.A.units + 100 < cLine) (o : CK) : Ok2 X cls W (compareOp o.op) (cmpO o) := by
  intro pins s σ H B A μ x y v u a b Q I rel ra rb rx ry w
  cases o with
  | eq =>
    obtain ⟨t, e, q⟩ := bO_some w rel
    unfold eqO at e
    split at e
    · rename_i hd
      exact eqD_ok I (Sub.refl H) 60 _ _ x y v u t X.A (rep_res rel ra) (rep_res rel rb) rx ry e hd (by omega) X.xe _ ⟨.bl t, H, I, rfl, q⟩
    · cases e
  | ne =>
    obtain ⟨t, e0, q⟩ := bO_some w rel
    obtain ⟨t', e, rfl⟩ := Option.map_eq_some_iff.mp e0
    clear e0
    unfold eqO at e
    split at e
    · rename_i hd
      exact neD_ok I (Sub.refl H) 60 _ _ x y v u t' X.A (rep_res rel ra) (rep_res rel rb) rx ry e hd (by omega) X.xe _ ⟨.bl (!t'), H, I, rfl, q⟩
    · cases e
  | lt =>
    unfold cmpO at w
    dsimp only at w
    split at w
    · obtain rfl := show x = _ from ra
      obtain rfl := show y = _ from rb
      exact op_lt pins s σ H _ _ v u Q I rx ry ⟨_, _, rfl, rfl, w.here rel rfl⟩
    · obtain rfl := show x = _ from ra
      obtain rfl := show y = _ from rb
      exact op_lt_str pins s σ H _ _ v u Q I rx ry ⟨_, _, rfl, rfl, w.here rel rfl⟩
    · exact w.elim
  | le =>
    unfold cmpO at w
    dsimp only at w
    split at w
    · obtain rfl := show x = _ from ra
      obtain rfl := show y = _ from rb
      exact op_le pins s σ H _ _ v u Q I rx ry ⟨_, _, rfl, rfl, w.here rel rfl⟩
    · exact w.elim
  | gt =>
    unfold cmpO at w
    dsimp only at w
    split at w
    · obtain rfl := show x = _ from ra
      obtain rfl := show y = _ from rb
      exact op_gt pins s σ H _ _ v u Q I rx ry ⟨_, _, rfl, rfl, w.here rel rfl⟩
    · exact w.elim
  | ge =>
    unfold cmpO at w
    dsimp only at w
    split at w
    · obtain rfl := show x = _ from ra
      obtain rfl := show y = _ from rb
      exact op_ge pins s σ H _ _ v u Q I rx ry ⟨_, _, rfl, rfl, w.here rel rfl⟩
    · obtain rfl := show x = _ from ra
      obtain rfl := show y = _ from rb
      obtain ⟨t, rfl⟩ := rx
      obtain ⟨t', rfl⟩ := ry
      exact PySem.P.ge_str ⟨.bl _, H, I, rfl, w.here rel rfl⟩
    · exact w.elim
  | isN =>
    unfold cmpO at w
    dsimp only at w
    split at w
    · obtain rfl := show y = _ from rb
      refine op_isN pins s σ H _ _ v u Q I rx ry ⟨rfl, ?_⟩
      have := w.here rel (v := .bl a.isNon) rfl
      cases a with
      | non => obtain rfl := show x = _ from ra; exact this
      | bl _ => obtain rfl := show x = _ from ra; exact this
      | int _ => obtain rfl := show x = _ from ra; exact this
      | str _ => obtain rfl := show x = _ from ra; exact this
      | set _ => cases ra
      | tup _ => obtain ⟨_, _, rfl, _⟩ := ra; exact this
      | lst _ => obtain ⟨_, _, rfl, _⟩ := ra; exact this
      | dct _ _ => obtain ⟨_, _, rfl, _⟩ := ra; exact this
      | ins _ _ => obtain ⟨_, _, rfl, _⟩ := ra; exact this
      | hd _ => obtain ⟨_, _, rfl⟩ := ra; exact this
    · exact w.elim
  | notN =>
    unfold cmpO at w
    dsimp only at w
    split at w
    · obtain rfl := show y = _ from rb
      refine op_notN pins s σ H _ _ v u Q I rx ry ⟨rfl, ?_⟩
      have := w.here rel (v := .bl (!a.isNon)) rfl
      cases a with
      | non => obtain rfl := show x = _ from ra; exact this
      | bl _ => obtain rfl := show x = _ from ra; exact this
      | int _ => obtain rfl := show x = _ from ra; exact this
      | str _ => obtain rfl := show x = _ from ra; exact this
      | set _ => cases ra
      | tup _ => obtain ⟨_, _, rfl, _⟩ := ra; exact this
      | lst _ => obtain ⟨_, _, rfl, _⟩ := ra; exact this
      | dct _ _ => obtain ⟨_, _, rfl, _⟩ := ra; exact this
      | ins _ _ => obtain ⟨_, _, rfl, _⟩ := ra; exact this
      | hd _ => obtain ⟨_, _, rfl⟩ := ra; exact this
    · exact w.elim
  | isB =>
    unfold cmpO at w
    dsimp only at w
    split at w
    · obtain rfl := show x = _ from ra
      obtain rfl := show y = _ from rb
      obtain rfl := show v = _ from rx
      obtain rfl := show u = _ from ry
      exact is_bool ⟨.bl _, H, I, rfl, w.here rel rfl⟩
    · exact w.elim
  | notB =>
    unfold cmpO at w
    dsimp only at w
    split at w
    · obtain rfl := show x = _ from ra
      obtain rfl := show y = _ from rb
      obtain rfl := show v = _ from rx
      obtain rfl := show u = _ from ry
      exact isnot_bool (by rw [bne]; exact ⟨.bl _, H, I, rfl, w.here rel rfl⟩)
    · exact w.elim
  | inn =>
    obtain ⟨t, e, q⟩ := bO_some w rel
    exact in_any (neg := false) (by omega) I rel ra rb rx ry e q
  | nin =>
    obtain ⟨t, e0, q⟩ := bO_some w rel
    obtain ⟨t', e, rfl⟩ := Option.map_eq_some_iff.mp e0
    exact in_any (neg := true) (by omega) I rel ra rb rx ry e q
end
end Z

/-! truth, len -/
namespace Z
open PySem PySem.Spec PyProof.Rows L2 SlX

section
variable {prog : Program} {w : World} {A : Around} {E : Value → Shared → Prop} {s : Shared} {d : Addr} {xs : List Ent}
theorem DObj.rawx {h : Heap} (hm : DObj w h d xs) : ∃ es ep, h.DictRaw d es ep ∧ es.toList = xs.map (entN w) := by
  obtain ⟨o, es, ep, h1, h2, h3, h4⟩ := hm
  exact ⟨es, ep, ⟨o, h1, h2, h3⟩, h4⟩
theorem lenAt_N {Q : Value → Shared → Prop} (hd : (d == sysModules) = false) (hm : DObj w s.heap d xs) (h : Q (.int xs.length s.toks) { s with toks := s.toks + 1 }) :
    wpAny (model prog w) A (call (.builtin "dict.__len__") [.ref d]) Q E s := by
  obtain ⟨es, ep, hr, he⟩ := hm.rawx
  exact call_len_raw hd hr (by rw [ent_size he]; exact h)
theorem len_body_N {Q : Value → Shared → Prop} (hd : (d == sysModules) = false) (hm : DObj w s.heap d xs) (hfit : (xs.length : Int) < 2 ^ 63)
    (h : Q (.int xs.length (s.toks + 1)) { s with toks := s.toks + 1 + 1 }) : wpAny (model prog w) A (Builtin.«len» ⟨[.ref d], []⟩) (fun fin s' => ∃ r, fin = .done (.ret r) ∧ Q r s') E s := by
  unfold Builtin.«len»
  refine wpAny_bind (m := oneArg "len" _) (wpAny_pure ?_)
  refine wpAny_bind (m := callSpecial? (.ref d) (Str.ofString "__len__")) (wpAny_callSpecial?_slot (name := Str.ofString "__len__") hm.typeIs F.slot_dict_len
    (lenAt_N hd hm ?_))
  show wpAny _ _ _ _ _ { s with toks := s.toks + 1 }
  refine wpAny_bind (wpAny_holding (wpAny_pure ?_))
  refine wpAny_bind (wpAny_letGo ?_)
  show wpAny _ _ (if ((xs.length : Nat) : Int) < 0 then _ else _) _ _ _
  rw [if_neg (by omega)]
  show wpAny _ _ (if ((xs.length : Nat) : Int) ≥ 2 ^ 63 then _ else _) _ _ _
  rw [if_neg (by omega)]
  exact wpAny_bind (wpAny_mkInt (wpAny_pure ⟨_, rfl, h⟩))
theorem call_len_N {Q : Value → Shared → Prop} (hd : (d == sysModules) = false) (hm : DObj w s.heap d xs) (hfit : (xs.length : Int) < 2 ^ 63)
    (h : Q (.int xs.length (s.toks + 1)) { s with toks := s.toks + 1 + 1 }) : wpAny (model prog w) A (call (.builtin "len") [.ref d]) Q E s :=
  Calls.call_function_entry kind_len plain_len entry_len (args_len1 _) (len_body_N hd hm hfit h)
theorem truthy_N {Q : Bool → Shared → Prop} (hd : (d == sysModules) = false) (hm : DObj w s.heap d xs) (hfit : (xs.length : Int) < 2 ^ 63)
    (h : Q (!xs.isEmpty) { s with toks := s.toks + 1 + 1 }) : wpAny (model prog w) A (truthy (.ref d)) Q E s := by
  have hne : ((xs.length : Int) != 0) = !xs.isEmpty := by cases xs <;> simp <;> omega
  have key : wpAny (model prog w) A (runValue (.builtin "len" ⟨[.ref d], []⟩)) (fun r s' => r = .int xs.length (s.toks + 1) ∧ Q (!xs.isEmpty) s') E s := by
    refine wpAny_runValue (codeAny_builtin entry_len ?_)
    rw [Around.under_plainId plain_len _]
    exact wpAny_mono (len_body_N (Q := fun r s' => r = .int xs.length (s.toks + 1) ∧ Q (!xs.isEmpty) s') hd hm hfit ⟨rfl, h⟩)
      (fun fin s' h' => by obtain ⟨r, rfl, hq⟩ := h'; exact hq) fun _ _ e => e
  unfold truthy
  first
    | refine wpAny_bind (wpAny_callSpecial?_none (name := Str.ofString "__bool__") hm.typeIs noBool_dict ?_)
    | refine wpAny_bind (wpAny_pure (wpAny_bind (wpAny_callSpecial?_none (name := Str.ofString "__bool__") hm.typeIs noBool_dict ?_)))
  first
    | refine wpAny_bind (wpAny_specialOf (name := Str.ofString "__len__") hm.typeIs F.slot_dict_len.lookup ?_)
    | refine wpAny_bind (wpAny_pure (wpAny_bind (wpAny_specialOf (name := Str.ofString "__len__") hm.typeIs F.slot_dict_len.lookup ?_)))
  first
    | exact wpAny_bind (wpAny_mono key (fun r s' h' => by obtain ⟨rfl, hq⟩ := h'; exact wpAny_pure (hne ▸ hq)) fun _ _ e => e)
    | exact wpAny_bind (wpAny_pure (wpAny_bind (wpAny_mono key (fun r s' h' => by obtain ⟨rfl, hq⟩ := h'; exact wpAny_pure (hne ▸ hq)) fun _ _ e => e)))
end

/-- the truth of a value -/
def truO (d : D) (μ : Sto) : Option Bool := match d with
  | .non => some false
  | .bl b => some b
  | .int i => some (i != 0)
  | .str x => if x.length ≤ lim then some (!decide (x.length = 0)) else none
  | .tup ds => some (!ds.isEmpty)
  | d => match asL μ d with
    | some ds => some (!ds.isEmpty)
    | none => match asD μ d with
      | some (ks, _) => some (!ks.isEmpty)
      | none => none
def bT (o : Option Bool) (μ : Sto) : Res Bool := match o with
  | some b => .ok b μ
  | none => .bad
def lenO (d : D) (μ : Sto) : Option Nat := match d with
  | .str x => if x.length ≤ lim then some x.length else none
  | .tup ds => some ds.length
  | d => match asL μ d with
    | some ds => some ds.length
    | none => match asD μ d with
      | some (ks, _) => some ks.length
      | none => none
section
variable {X : Cx} {cls : Str → Option CI} {W : WX} {G : Gx} {B : Addr → Prop} {A : Al} {H : Hp} {μ : Sto} {σ : L2.St} {Q : Bool → Hp → Prop}
theorem bT_some {o : Option Bool} (w : Want G W RB B A H μ σ (bT o μ) Q) (rel : RelS G B A H μ) : ∃ b, o = some b ∧ Q b H := by
  unfold bT at w
  split at w
  · rename_i b
    exact ⟨b, rfl, w b A H rel rfl (Step.refl B A H μ)⟩
  · exact w.elim
theorem reps_empty {F : Hp} {vs : List V} {ds : List D} (r : Reps G A F vs ds) : vs.isEmpty = ds.isEmpty := by
  have := r.length
  cases vs <;> cases ds <;> simp_all
/-- the truth of a value is found -/
theorem tru_at {pins : List (Addr × Obj)} {s : Shared} {x : V} {v : Value} {a : D} {k : Bool} (I : Inv X pins σ H s) (rel : RelS (gx X cls) B A H μ) (ra : Rep (gx X cls) A (hide B H A μ) x a) (rx : RelV x v) (e : truO a μ = some k) (q : Q k H) :
    wpAny (model X.prog X.w) X.A (truthy v) (TP X pins σ Q) X.xe s := by
  have hl := line63
  have hs : sizeLine = 16777216 := sizeLine_eq
  unfold truO at e
  split at e
  · obtain rfl := show x = _ from ra
    obtain rfl := Option.some.inj e
    exact tru_ok pins s σ H _ v Q I rx ⟨_, rfl, q⟩
  · obtain rfl := show x = _ from ra
    obtain rfl := Option.some.inj e
    exact tru_ok pins s σ H _ v Q I rx ⟨_, rfl, q⟩
  · obtain rfl := show x = _ from ra
    obtain rfl := Option.some.inj e
    exact tru_ok pins s σ H _ v Q I rx ⟨_, rfl, q⟩
  · rename_i y
    obtain rfl := show x = _ from ra
    split at e
    · rename_i hy
      obtain rfl := Option.some.inj e
      refine tru_ok pins s σ H _ v Q I rx ⟨_, ⟨lim_le hy, ?_⟩, q⟩
      by_cases hz : y.length = 0
      · rw [hz]; rfl
      · have : ((y.length : Int) != 0) = true := by simp; omega
        rw [this]; simp [hz]
    · cases e
  · obtain ⟨p, vs, rfl, h1, h2⟩ := ra
    obtain rfl := Option.some.inj e
    refine tru_ok pins s σ H _ v Q I rx ⟨_, .inr (.inl ⟨vs, hide_sub.sqt h1, ?_⟩), q⟩
    rw [reps_empty h2]
  · split at e
    · rename_i ds hL
      obtain ⟨p, vs, rfl, h1, h2⟩ := asL_ok rel ra hL
      obtain rfl := Option.some.inj e
      refine tru_ok pins s σ H _ v Q I rx ⟨_, .inl ⟨vs, h1, ?_⟩, q⟩
      rw [reps_empty h2]
    · split at e
      · rename_i ks vs' hD
        obtain ⟨p, es, rfl, h1, h2, h3, h4, h5, h6⟩ := asD_ok rel ra hD
        obtain rfl := show v = _ from rx
        obtain ⟨hz, hsy, xs, ho, hp, hk2⟩ := dic_read I hide_sub (cls := cls) (vs := vs') h1 h2 h4 h5 h6
        obtain rfl := Option.some.inj e
        have l1 : es.length = xs.length := paired_len hp
        have l2 := h2.length
        refine truthy_N hsy ho (by omega) ⟨H, I.tok _, ?_⟩
        have : (!xs.isEmpty) = !ks.isEmpty := by
          cases xs <;> cases ks <;> simp_all
        rw [this]; exact q
      · cases e
theorem len_at {pins : List (Addr × Obj)} {s : Shared} {x : V} {v : Value} {a : D} {k : Nat} {Q : VK} (I : Inv X pins σ H s) (rel : RelS (gx X cls) B A H μ) (ra : Rep (gx X cls) A (hide B H A μ) x a) (rx : RelV x v) (e : lenO a μ = some k) (q : Q (.int k) H) :
    wpAny (model X.prog X.w) X.A (call (.builtin "len") [v]) (EP X pins σ Q) X.xe s := by
  have hl := line63
  have hs : sizeLine = 16777216 := sizeLine_eq
  unfold lenO at e
  split at e
  · rename_i y
    obtain rfl := show x = _ from ra
    split at e
    · rename_i hy
      obtain rfl := Option.some.inj e
      exact call_len pins s σ H [_] [v] Q I (.cons rx .nil) ⟨_, _, rfl, ⟨lim_le hy, rfl⟩, q⟩
    · cases e
  · obtain ⟨p, vs, rfl, h1, h2⟩ := ra
    obtain rfl := Option.some.inj e
    have l2 := h2.length
    exact call_len pins s σ H [_] [v] Q I (.cons rx .nil) ⟨_, _, rfl, .inr ⟨vs, hide_sub.sqt h1, by rw [l2]⟩, q⟩
  · split at e
    · rename_i ds hL
      obtain ⟨p, vs, rfl, h1, h2⟩ := asL_ok rel ra hL
      obtain rfl := Option.some.inj e
      have l2 := h2.length
      exact call_len pins s σ H [_] [v] Q I (.cons rx .nil) ⟨_, _, rfl, .inl ⟨vs, h1, by rw [l2]⟩, q⟩
    · split at e
      · rename_i ks vs' hD
        obtain ⟨p, es, rfl, h1, h2, h3, h4, h5, h6⟩ := asD_ok rel ra hD
        obtain rfl := show v = _ from rx
        obtain ⟨hz, hsy, xs, ho, hp, hk2⟩ := dic_read I hide_sub (cls := cls) (vs := vs') h1 h2 h4 h5 h6
        obtain rfl := Option.some.inj e
        have l1 : es.length = xs.length := paired_len hp
        have l2 := h2.length
        have l3 : ks.length = xs.length := by simp at l2; omega
        rw [l3] at q
        exact call_len_N hsy ho (by omega) ⟨.int xs.length, H, I.tok _, ⟨_, rfl⟩, q⟩
      · cases e
end
end Z

/-! expressions and statements: what they do on data by value, and that they do it -/
namespace Z
open PySem PySem.Spec PyProof.Rows L2 SlX

/-- where code runs: k rooms; W: what is wanted of an exception that leaves it -/
structure ZX (X : Cx) (W : WX) (k : Nat) : Prop where
  calm : X.calm = true
  nd : X.N.Nodup
  room : Room k X.A
  takes : Takes X W
  own : PassesOwn (model X.prog X.w) X.A X.env X.xe
theorem ZX.u {X : Cx} {W : WX} {k : Nat} (z : ZX X W k) : X.A.units + 100 < cLine := by have := z.room.un; omega
theorem ZX.mono {X : Cx} {W : WX} {j k : Nat} (z : ZX X W k) (h : j ≤ k) : ZX X W j := ⟨z.calm, z.nd, z.room.mono h, z.takes, z.own⟩

abbrev ZE (X : Cx) (cls : Str → Option CI) (W : WX) (e : Expr) (f : Ev D) : Prop := PE X e (tX (gx X cls) W f)
abbrev ZT (X : Cx) (cls : Str → Option CI) (W : WX) (e : Expr) (f : Ev Bool) : Prop := PT X e (tT (gx X cls) W f)
abbrev ZA (X : Cx) (cls : Str → Option CI) (W : WX) (es : List Expr) (f : Ev (List D)) : Prop := PA X es (tL (gx X cls) W f)

/-! ### evaluation -/
def zVar (i : Nat) : Ev D := fun ρ μ => match ρ[i]? with
  | some (some d) => .ok d μ
  | _ => .bad
def zC (d : D) : Ev D := fun _ μ => .ok d μ
def zBin (op : D → D → Sto → Res D) (f g : Ev D) : Ev D := fun ρ μ => (f ρ μ).bind fun a μ1 => (g ρ μ1).bind fun b μ2 => op a b μ2
def zUn (op : D → Sto → Res D) (f : Ev D) : Ev D := fun ρ μ => (f ρ μ).bind fun a μ1 => op a μ1
def zTru (f : Ev D) : Ev Bool := fun ρ μ => (f ρ μ).bind fun a μ1 => bT (truO a μ1) μ1
def zChain (op op' : D → D → Sto → Res D) (f g h : Ev D) : Ev D := fun ρ μ => (f ρ μ).bind fun a μ1 => (g ρ μ1).bind fun b μ2 => (op a b μ2).bind fun c μ3 => match c with
  | .bl true => (h ρ μ3).bind fun d μ4 => op' b d μ4
  | .bl false => .ok (.bl false) μ3
  | _ => .bad
def zNotT (f : Ev Bool) : Ev Bool := fun ρ μ => (f ρ μ).bind fun b μ1 => .ok (!b) μ1
def zAndT (f g : Ev Bool) : Ev Bool := fun ρ μ => (f ρ μ).bind fun b μ1 => if b then g ρ μ1 else .ok false μ1
def zOrT (f g : Ev Bool) : Ev Bool := fun ρ μ => (f ρ μ).bind fun b μ1 => if b then .ok true μ1 else g ρ μ1
def zNot (f : Ev D) : Ev D := fun ρ μ => (f ρ μ).bind fun a μ1 => (bT (truO a μ1) μ1).bind fun b μ2 => .ok (.bl (!b)) μ2
def zAnd (f g : Ev D) : Ev D := fun ρ μ => (f ρ μ).bind fun a μ1 => (bT (truO a μ1) μ1).bind fun b μ2 => if b then g ρ μ2 else .ok a μ2
def zOr (f g : Ev D) : Ev D := fun ρ μ => (f ρ μ).bind fun a μ1 => (bT (truO a μ1) μ1).bind fun b μ2 => if b then .ok a μ2 else g ρ μ2
def zIf (c : Ev Bool) (f g : Ev D) : Ev D := fun ρ μ => (c ρ μ).bind fun b μ1 => if b then f ρ μ1 else g ρ μ1
def zNil : Ev (List D) := fun _ μ => .ok [] μ
def zCons (f : Ev D) (g : Ev (List D)) : Ev (List D) := fun ρ μ => (f ρ μ).bind fun a μ1 => (g ρ μ1).bind fun r μ2 => .ok (a :: r) μ2
def zTup (f : Ev (List D)) : Ev D := fun ρ μ => (f ρ μ).bind fun ds μ1 => if ds.length ≤ lim then .ok (.tup ds) μ1 else .bad
/-- a list that is made: one that is not changed any more; one that is -/
def mkL (m : Bool) (ds : List D) (μ : Sto) : Res D := if m then .ok (.hd μ.length) (μ ++ [some (.lst ds)]) else .ok (.lst ds) μ
def zLst (m : Bool) (f : Ev (List D)) : Ev D := fun ρ μ => (f ρ μ).bind fun ds μ1 => if ds.length ≤ lim then mkL m ds μ1 else .bad

section
variable {X : Cx} {cls : Str → Option CI} {W : WX} {e a b c : Expr} {es : List Expr} {f g h : Ev D} {p q : Ev Bool} {fs : Ev (List D)} {pos : Pos}
theorem bind_ok {α β : Type} {a : α} {μ : Sto} {k : α → Sto → Res β} : (Res.ok a μ).bind k = k a μ := rfl
/-- an expression is evaluated; then the rest -/
theorem ev1 {α' β' : Type} {R' : Al → Hp → β' → α' → Prop} {k : D → Sto → Res α'} {Q : β' → Hp → Prop} {Post : Value → Shared → Prop} {pins : List (Addr × Obj)} {s : Shared} {σ : L2.St} {H : Hp} {B : Addr → Prop} {A : Al} {ρ : Env'} {μ : Sto} (ha : ZE X cls W a f) (I : Inv X pins σ H s)
    (rel : RelS (gx X cls) B A H μ) (re : RelE (gx X cls) A (hide B H A μ) σ ρ) (w : Want (gx X cls) W R' B A H μ σ ((f ρ μ).bind k) Q)
    (h : ∀ v s1 x d A1 H1 μ1, Inv X pins σ H1 s1 → RelV x v → RelS (gx X cls) B A1 H1 μ1 → RelE (gx X cls) A1 (hide B H1 A1 μ1) σ ρ → Rep (gx X cls) A1 (hide B H1 A1 μ1) x d → Step B A H μ A1 H1 μ1 → Want (gx X cls) W R' B A1 H1 μ1 σ (k d μ1) Q → Post v s1) :
    wpAny (model X.prog X.w) X.A (eval a X.env) Post X.xe s :=
  thn (ha.run pins s σ H (fun x H1 => ∃ d A1 μ1, RelS (gx X cls) B A1 H1 μ1 ∧ RelE (gx X cls) A1 (hide B H1 A1 μ1) σ ρ ∧ Rep (gx X cls) A1 (hide B H1 A1 μ1) x d ∧ Step B A H μ A1 H1 μ1 ∧ Want (gx X cls) W R' B A1 H1 μ1 σ (k d μ1) Q) I
    (tV_step rel re w fun v d A1 H1 μ1 _ r1 re1 p1 st w1 => ⟨d, A1, μ1, r1, re1, p1, st, w1⟩))
    fun v s1 ⟨x, H1, I1, rx, d, A1, μ1, r1, re1, p1, st, w1⟩ => h v s1 x d A1 H1 μ1 I1 rx r1 re1 p1 st w1
/-- a test is evaluated; then the rest -/
theorem ev1T {α' β' : Type} {R' : Al → Hp → β' → α' → Prop} {k : Bool → Sto → Res α'} {Q : β' → Hp → Prop} {Post : Bool → Shared → Prop} {pins : List (Addr × Obj)} {s : Shared} {σ : L2.St} {H : Hp} {B : Addr → Prop} {A : Al} {ρ : Env'} {μ : Sto} (ha : ZT X cls W a p) (I : Inv X pins σ H s)
    (rel : RelS (gx X cls) B A H μ) (re : RelE (gx X cls) A (hide B H A μ) σ ρ) (w : Want (gx X cls) W R' B A H μ σ ((p ρ μ).bind k) Q)
    (h : ∀ v s1 A1 H1 μ1, Inv X pins σ H1 s1 → RelS (gx X cls) B A1 H1 μ1 → RelE (gx X cls) A1 (hide B H1 A1 μ1) σ ρ → Step B A H μ A1 H1 μ1 → Want (gx X cls) W R' B A1 H1 μ1 σ (k v μ1) Q → Post v s1) :
    wpAny (model X.prog X.w) X.A (isTrue a X.env (eval a X.env)) Post X.xe s :=
  thn (ha.run pins s σ H (fun x H1 => ∃ A1 μ1, RelS (gx X cls) B A1 H1 μ1 ∧ RelE (gx X cls) A1 (hide B H1 A1 μ1) σ ρ ∧ Step B A H μ A1 H1 μ1 ∧ Want (gx X cls) W R' B A1 H1 μ1 σ (k x μ1) Q) I
    (tV_step rel re w fun v d A1 H1 μ1 _ r1 re1 p1 st w1 => by obtain rfl := show v = d from p1; exact ⟨A1, μ1, r1, re1, st, w1⟩))
    fun v s1 ⟨H1, I1, A1, μ1, r1, re1, st, w1⟩ => h v s1 A1 H1 μ1 I1 r1 re1 st w1
/-- arguments are evaluated; then the rest -/
theorem ev1A {α' β' : Type} {R' : Al → Hp → β' → α' → Prop} {k : List D → Sto → Res α'} {Q : β' → Hp → Prop} {Post : List Value → Shared → Prop} {pos : Pos} {pins : List (Addr × Obj)} {s : Shared} {σ : L2.St} {H : Hp} {B : Addr → Prop} {A : Al} {ρ : Env'} {μ : Sto} (ha : ZA X cls W es fs) (I : Inv X pins σ H s)
    (rel : RelS (gx X cls) B A H μ) (re : RelE (gx X cls) A (hide B H A μ) σ ρ) (w : Want (gx X cls) W R' B A H μ σ ((fs ρ μ).bind k) Q)
    (h : ∀ us s1 xs ds A1 H1 μ1, Inv X pins σ H1 s1 → Vals xs us → RelS (gx X cls) B A1 H1 μ1 → RelE (gx X cls) A1 (hide B H1 A1 μ1) σ ρ → Reps (gx X cls) A1 (hide B H1 A1 μ1) xs ds → Step B A H μ A1 H1 μ1 → Want (gx X cls) W R' B A1 H1 μ1 σ (k ds μ1) Q → Post us s1) :
    wpAny (model X.prog X.w) X.A (spliced (backTo pos (starEach es X.env))) Post X.xe s :=
  thn (ha.run pos pins s σ H (fun xs H1 => ∃ ds A1 μ1, RelS (gx X cls) B A1 H1 μ1 ∧ RelE (gx X cls) A1 (hide B H1 A1 μ1) σ ρ ∧ Reps (gx X cls) A1 (hide B H1 A1 μ1) xs ds ∧ Step B A H μ A1 H1 μ1 ∧ Want (gx X cls) W R' B A1 H1 μ1 σ (k ds μ1) Q) I
    (tV_step rel re w fun v d A1 H1 μ1 _ r1 re1 p1 st w1 => ⟨d, A1, μ1, r1, re1, p1, st, w1⟩))
    fun v s1 ⟨xs, H1, I1, rx, ds, A1, μ1, r1, re1, p1, st, w1⟩ => h v s1 xs ds A1 H1 μ1 I1 rx r1 re1 p1 st w1
theorem e_var {i : Nat} {x : Str} (hN : X.N[i]? = some x := by rfl) (hv : Vis X.env.scope x := by first | exact Or.inl rfl | exact Or.inr (Or.inl rfl) | exact Or.inr (Or.inr rfl)) (hd : (x == ("__debug__" : Str)) = false := by decide) (hcd : (x == ("__classdict__" : Str)) = false := by decide) :
    ZE X cls W (.Name x pos) (zVar i) := PE.of (pe_var hN hv hd hcd) fun σ H Q ⟨B, A, ρ, μ, rel, re, w⟩ => by
  unfold zVar at w
  split at w
  · rename_i d hd
    obtain ⟨v, e1, r⟩ := re.2 i d hd
    exact ⟨v, e1, w.here rel r⟩
  · exact w.elim
theorem e_const {v : V} {d : D} (h : PE X e (tC v)) (r : ∀ A F, Rep (gx X cls) A F v d) : ZE X cls W e (zC d) := PE.of h fun σ H Q ⟨B, A, ρ, μ, rel, re, w⟩ => w.here rel (r _ _)
theorem k_int {i j} : ZE X cls W (.Constant (.int i) j pos) (zC (.int i)) := e_const pe_int fun _ _ => rfl
theorem k_str {i j} : ZE X cls W (.Constant (.str i) j pos) (zC (.str i)) := e_const pe_str fun _ _ => rfl
theorem k_bl {i j} : ZE X cls W (.Constant (.bool i) j pos) (zC (.bl i)) := e_const pe_bl fun _ _ => rfl
theorem k_non {j} : ZE X cls W (.Constant .none j pos) (zC .non) := e_const pe_non fun _ _ => rfl
theorem e_bin {op : Operator} {o : D → D → Sto → Res D} (ho : Ok2 X cls W (binaryOp op) o) (ha : ZE X cls W a f) (hb : ZE X cls W b g) : ZE X cls W (.BinOp a op b pos) (zBin o f g) :=
  ⟨fun pins s σ H Q I ⟨B, A, ρ, μ, rel, re, w⟩ => wpAny_BinOp (ev1 ha I rel re w fun v s1 x d A1 H1 μ1 I1 rx r1 re1 p1 st w1 => ev1 hb I1 r1 re1 w1 fun u s2 y d2 A2 H2 μ2 I2 ry r2 re2 p2 st2 w2 =>
    ho pins s2 σ H2 B A2 μ2 x y v u d d2 Q I2 r2 (p1.mono st2.pre st2.sub) p2 rx ry w2)⟩
theorem e_un {op : UnaryOp} {o : D → Sto → Res D} (ho : Ok1 X cls W (unaryOp op) o) (ha : ZE X cls W a f) : ZE X cls W (.UnaryOp op a pos) (zUn o f) :=
  ⟨fun pins s σ H Q I ⟨B, A, ρ, μ, rel, re, w⟩ => UnaryOp_ (ev1 ha I rel re w fun v s1 x d A1 H1 μ1 I1 rx r1 re1 p1 st w1 => ho pins s1 σ H1 B A1 μ1 x v d Q I1 r1 p1 rx w1)⟩
/-- one comparison -/
theorem e_cmp {op : CmpOp} {o : D → D → Sto → Res D} (ho : Ok2 X cls W (compareOp op) o) (ha : ZE X cls W a f) (hb : ZE X cls W b g) (hm : behindInMarks op b = false := by first | exact nobehind _ (by decide) (by decide) | rfl) :
    ZE X cls W (.Compare a [op] [b] pos) (zBin o f g) :=
  ⟨fun pins s σ H Q I ⟨B, A, ρ, μ, rel, re, w⟩ => wpAny_Compare1 (ev1 ha I rel re w fun v s1 x d A1 H1 μ1 I1 rx r1 re1 p1 st w1 => ev1 hb I1 r1 re1 w1 fun u s2 y d2 A2 H2 μ2 I2 ry r2 re2 p2 st2 w2 =>
    ho pins s2 σ H2 B A2 μ2 x y v u d d2 Q I2 r2 (p1.mono st2.pre st2.sub) p2 rx ry w2) hm⟩
/-- a value is what its evaluation says: a bool, and what follows -/
theorem Want.bool {r : Res D} {k : D → Sto → Res D} {B : Addr → Prop} {A : Al} {H : Hp} {μ : Sto} {σ : L2.St} {Q : VK} (hk : ∀ c μ3, (∃ b, c = .bl b) ∨ k c μ3 = .bad) (w : Want (gx X cls) W (RD (gx X cls)) B A H μ σ (r.bind k) Q) :
    Want (gx X cls) W (RD (gx X cls)) B A H μ σ r (fun z H3 => ∃ b A3 μ3, z = .bl b ∧ RelS (gx X cls) B A3 H3 μ3 ∧ Step B A H μ A3 H3 μ3 ∧ Want (gx X cls) W (RD (gx X cls)) B A3 H3 μ3 σ (k (.bl b) μ3) Q) := by
  cases r with
  | ok c μ3 =>
    intro z A3 H3 r3 p3 st3
    have w := Want.step w st3
    rw [bind_ok] at w
    rcases hk c μ3 with ⟨b, rfl⟩ | e
    · obtain rfl := show z = _ from p3
      exact ⟨b, A3, μ3, rfl, r3, st3, w⟩
    · rw [e] at w; exact w.elim
  | exc c ds μ3 => exact w
  | bad => exact w
theorem e_chain {op op' : CmpOp} {o o' : D → D → Sto → Res D} (ho : Ok2 X cls W (compareOp op) o) (ho' : Ok2 X cls W (compareOp op') o') (ha : ZE X cls W a f) (hb : ZE X cls W b g) (hc : ZE X cls W c h)
    (hm : lastMarks [op, op'] [b, c] = false := by with_unfolding_all rfl) : ZE X cls W (.Compare a [op, op'] [b, c] pos) (zChain o o' f g h) := by
  refine ⟨fun pins s σ H Q I ⟨B, A, ρ, μ, rel, re, w⟩ => Compare_chain (ev1 ha I rel re w fun v s1 x d A1 H1 μ1 I1 rx r1 re1 p1 st w1 => chain_link (ev1 hb I1 r1 re1 w1 fun u s2 y d2 A2 H2 μ2 I2 ry r2 re2 p2 st2 w2 => ?_)) hm⟩
  refine thn (ho pins s2 σ H2 B A2 μ2 x y v u d d2 _ I2 r2 (p1.mono st2.pre st2.sub) p2 rx ry (Want.bool (fun c μ3 => ?_) w2)) fun z s3 ⟨zv, H3, I3, rz, k, A3, μ3, ez, r3, st3, w3⟩ => ?_
  · split
    · exact .inl ⟨_, rfl⟩
    · exact .inl ⟨_, rfl⟩
    · exact .inr rfl
  subst ez
  cases rz
  refine wpAny_truthy_bool ?_
  cases k with
  | false => exact ite_ff ⟨.bl false, H3, I3, rfl, w3.here r3 rfl⟩
  | true =>
    exact ite_tt (chain_last (ev1 hc I3 r3 (re2.mono st3) w3 fun u3 s4 y3 d3 A4 H4 μ4 I4 ry3 r4 re4 p4 st4 w4 => ho' pins s4 σ H4 B A4 μ4 y y3 u u3 d2 d3 Q I4 r4 (p2.mono (st3.trans st4).pre (st3.trans st4).sub) p4 ry ry3 w4))

/-! ### tests -/
/-- a value as a test -/
theorem t_val (ha : ZE X cls W a f) (he : ∀ whole, isTrue a X.env whole = (do let v ← whole; standAt a.pos; holding [v] (truthy v)) := by intro _; rfl) : ZT X cls W a (zTru f) :=
  ⟨fun pins s σ H Q I ⟨B, A, ρ, μ, rel, re, w⟩ => isTrue_plain (ev1 ha I rel re w fun v s1 x d A1 H1 μ1 I1 rx r1 re1 p1 st w1 => by
    obtain ⟨k, e, q⟩ := bT_some w1 r1
    exact tru_at I1 r1 p1 rx e q) (he _)⟩
theorem Res.bind_assoc {α β γ : Type} (r : Res α) (k : α → Sto → Res β) (l : β → Sto → Res γ) : (r.bind k).bind l = r.bind fun a μ => (k a μ).bind l := by
  cases r <;> rfl
/-- a comparison as a test -/
theorem t_cmp {op : CmpOp} {o : D → D → Sto → Res D} (ho : Ok2 X cls W (compareOp op) o) (ha : ZE X cls W a f) (hb : ZE X cls W b g) (hm : behindInMarks op b = false := by first | exact nobehind _ (by decide) (by decide) | rfl) :
    ZT X cls W (.Compare a [op] [b] pos) (zTru (zBin o f g)) := by
  refine ⟨fun pins s σ H Q I ⟨B, A, ρ, μ, rel, re, w⟩ => ?_⟩
  unfold zTru zBin at w
  rw [Res.bind_assoc] at w
  refine wpAny_isTrue_Compare1 (ev1 ha I rel re w fun v s1 x d A1 H1 μ1 I1 rx r1 re1 p1 st w1 => ?_) hm
  rw [Res.bind_assoc] at w1
  refine ev1 hb I1 r1 re1 w1 fun u s2 y d2 A2 H2 μ2 I2 ry r2 re2 p2 st2 w2 => ?_
  have step : ∀ r : Res D, Want (gx X cls) W RB B A2 H2 μ2 σ (r.bind fun a μ1 => bT (truO a μ1) μ1) Q → Want (gx X cls) W (RD (gx X cls)) B A2 H2 μ2 σ r (fun z H3 => ∃ c A3 μ3, RelS (gx X cls) B A3 H3 μ3 ∧ Rep (gx X cls) A3 (hide B H3 A3 μ3) z c ∧ Want (gx X cls) W RB B A3 H3 μ3 σ (bT (truO c μ3) μ3) Q) := fun r w => by
    cases r with
    | ok c μ3 => exact fun z A3 H3 r3 p3 st3 => ⟨c, A3, μ3, r3, p3, Want.step w st3⟩
    | exc c ds μ3 => exact w
    | bad => exact w
  refine thn (ho pins s2 σ H2 B A2 μ2 x y v u d d2 _ I2 r2 (p1.mono st2.pre st2.sub) p2 rx ry (step _ w2)) fun z s3 ⟨zv, H3, I3, rz, c, A3, μ3, r3, p3, w3⟩ => ?_
  obtain ⟨k, e, q⟩ := bT_some w3 r3
  exact tru_at I3 r3 p3 rz e q
theorem t_chain {op op' : CmpOp} {o o' : D → D → Sto → Res D} (ho : Ok2 X cls W (compareOp op) o) (ho' : Ok2 X cls W (compareOp op') o') (ha : ZE X cls W a f) (hb : ZE X cls W b g) (hc : ZE X cls W c h)
    (hm : lastMarks [op, op'] [b, c] = false := by with_unfolding_all rfl) : ZT X cls W (.Compare a [op, op'] [b, c] pos) (zTru (zChain o o' f g h)) := by
  refine ⟨fun pins s σ H Q I ⟨B, A, ρ, μ, rel, re, w⟩ => ?_⟩
  unfold zTru zChain at w
  rw [Res.bind_assoc] at w
  refine isTrue_chain (ev1 ha I rel re w fun v s1 x d A1 H1 μ1 I1 rx r1 re1 p1 st w1 => ?_) hm
  rw [Res.bind_assoc] at w1
  refine test_link (ev1 hb I1 r1 re1 w1 fun u s2 y d2 A2 H2 μ2 I2 ry r2 re2 p2 st2 w2 => ?_)
  rw [Res.bind_assoc] at w2
  have step : ∀ r : Res D, Want (gx X cls) W RB B A2 H2 μ2 σ (r.bind fun c μ3 => Res.bind (match c with
      | .bl true => (h ρ μ3).bind fun d μ4 => o' d2 d μ4
      | .bl false => .ok (.bl false) μ3
      | _ => .bad) fun a μ1 => bT (truO a μ1) μ1) Q → Want (gx X cls) W (RD (gx X cls)) B A2 H2 μ2 σ r (fun z H3 => ∃ k A3 μ3, z = .bl k ∧ RelS (gx X cls) B A3 H3 μ3 ∧ Step B A2 H2 μ2 A3 H3 μ3 ∧
        Want (gx X cls) W RB B A3 H3 μ3 σ (if k then (h ρ μ3).bind fun d μ4 => (o' d2 d μ4).bind fun a μ1 => bT (truO a μ1) μ1 else .ok false μ3) Q) := fun r w => by
    cases r with
    | ok c μ3 =>
      intro z A3 H3 r3 p3 st3
      have w := Want.step w st3
      rw [bind_ok] at w
      split at w
      · obtain rfl := show z = _ from p3
        rw [Res.bind_assoc] at w
        exact ⟨true, A3, μ3, rfl, r3, st3, w⟩
      · obtain rfl := show z = _ from p3
        exact ⟨false, A3, μ3, rfl, r3, st3, w⟩
      · exact w.elim
    | exc c ds μ3 => exact w
    | bad => exact w
  refine thn (ho pins s2 σ H2 B A2 μ2 x y v u d d2 _ I2 r2 (p1.mono st2.pre st2.sub) p2 rx ry (step _ w2)) fun z s3 ⟨zv, H3, I3, rz, k, A3, μ3, ez, r3, st3, w3⟩ => ?_
  subst ez
  cases rz
  refine wpAny_truthy_bool ?_
  cases k with
  | false => exact ite_ff ⟨H3, I3, w3 false A3 H3 r3 rfl (Step.refl _ _ _ _)⟩
  | true =>
    refine ite_tt (test_last (ev1 hc I3 r3 (re2.mono st3) w3 fun u3 s4 y3 d3 A4 H4 μ4 I4 ry3 r4 re4 p4 st4 w4 => ?_))
    have step : ∀ r : Res D, Want (gx X cls) W RB B A4 H4 μ4 σ (r.bind fun a μ1 => bT (truO a μ1) μ1) Q → Want (gx X cls) W (RD (gx X cls)) B A4 H4 μ4 σ r (fun z H3 => ∃ c A3 μ3, RelS (gx X cls) B A3 H3 μ3 ∧ Rep (gx X cls) A3 (hide B H3 A3 μ3) z c ∧ Want (gx X cls) W RB B A3 H3 μ3 σ (bT (truO c μ3) μ3) Q) := fun r w => by
      cases r with
      | ok c μ3 => exact fun z A3 H3 r3 p3 st3 => ⟨c, A3, μ3, r3, p3, Want.step w st3⟩
      | exc c ds μ3 => exact w
      | bad => exact w
    refine thn (ho' pins s4 σ H4 B A4 μ4 y y3 u u3 d2 d3 _ I4 r4 (p2.mono (st3.trans st4).pre (st3.trans st4).sub) p4 ry ry3 (step _ w4)) fun z s5 ⟨zv, H5, I5, rz, c, A5, μ5, r5, p5, w5⟩ => ?_
    obtain ⟨k, e, q⟩ := bT_some w5 r5
    exact tru_at I5 r5 p5 rz e q
theorem t_not (ha : ZT X cls W a p) : ZT X cls W (.UnaryOp .Not a pos) (zNotT p) :=
  ⟨fun pins s σ H Q I ⟨B, A, ρ, μ, rel, re, w⟩ => isTrue_not (ev1T ha I rel re w fun v s1 A1 H1 μ1 I1 r1 re1 st w1 => ⟨H1, I1, w1 (!v) A1 H1 r1 rfl (Step.refl _ _ _ _)⟩)⟩
/-- a test whatever its 'whole' is -/
abbrev ZW (X : Cx) (cls : Str → Option CI) (W : WX) (e : Expr) (f : Ev Bool) : Prop := PW X e (tT (gx X cls) W f)
theorem w_pt (h : ZW X cls W a p) : ZT X cls W a p := PW.pt h
theorem w_and1 (ha : ZT X cls W a p) : ZW X cls W (.BoolOp .And [a] pos) p := ⟨fun wh pins s σ H Q I w => by
  refine isTrue_and (thn (ha.run pins s σ H Q I w) fun c s1 e => ?_)
  cases c with
  | true => exact isTrue_and_nil e
  | false => exact e⟩
theorem w_or1 (ha : ZT X cls W a p) : ZW X cls W (.BoolOp .Or [a] pos) p := ⟨fun wh pins s σ H Q I w => by
  refine isTrue_or (thn (ha.run pins s σ H Q I w) fun c s1 e => ?_)
  cases c with
  | false => exact isTrue_or_nil e
  | true => exact e⟩
theorem w_and {rest : List Expr} (ha : ZT X cls W a p) (hb : ZW X cls W (.BoolOp .And (b :: rest) pos) q) : ZW X cls W (.BoolOp .And (a :: b :: rest) pos) (zAndT p q) :=
  ⟨fun wh pins s σ H Q I ⟨B, A, ρ, μ, rel, re, w⟩ => isTrue_and (ev1T ha I rel re w fun v s1 A1 H1 μ1 I1 r1 re1 st w1 => by
    cases v with
    | true => exact hb.run wh pins s1 σ H1 Q I1 ⟨B, A1, ρ, μ1, r1, re1, w1⟩
    | false => exact ⟨H1, I1, w1 false A1 H1 r1 rfl (Step.refl _ _ _ _)⟩)⟩
theorem w_or {rest : List Expr} (ha : ZT X cls W a p) (hb : ZW X cls W (.BoolOp .Or (b :: rest) pos) q) : ZW X cls W (.BoolOp .Or (a :: b :: rest) pos) (zOrT p q) :=
  ⟨fun wh pins s σ H Q I ⟨B, A, ρ, μ, rel, re, w⟩ => isTrue_or (ev1T ha I rel re w fun v s1 A1 H1 μ1 I1 r1 re1 st w1 => by
    cases v with
    | true => exact ⟨H1, I1, w1 true A1 H1 r1 rfl (Step.refl _ _ _ _)⟩
    | false => exact hb.run wh pins s1 σ H1 Q I1 ⟨B, A1, ρ, μ1, r1, re1, w1⟩)⟩

/-! ### and, or, not, if as values -/
theorem e_one {op} (ha : ZE X cls W a f) : ZE X cls W (.BoolOp op [a] pos) f := pe_one ha
/-- the truth of what came -/
theorem tru_then {α' β' : Type} {R' : Al → Hp → β' → α' → Prop} {k : Bool → Sto → Res α'} {Q : β' → Hp → Prop} {Post : Bool → Shared → Prop} {pins : List (Addr × Obj)} {s : Shared} {σ : L2.St} {H : Hp} {B : Addr → Prop} {A : Al} {μ : Sto} {x : V} {v : Value} {d : D} (I : Inv X pins σ H s) (rel : RelS (gx X cls) B A H μ)
    (ra : Rep (gx X cls) A (hide B H A μ) x d) (rx : RelV x v) (w : Want (gx X cls) W R' B A H μ σ ((bT (truO d μ) μ).bind k) Q) (h : ∀ c s1, Inv X pins σ H s1 → Want (gx X cls) W R' B A H μ σ (k c μ) Q → Post c s1) : wpAny (model X.prog X.w) X.A (truthy v) Post X.xe s := by
  unfold bT at w
  split at w
  · rename_i c e
    exact thn (tru_at (Q := fun c' H' => c' = c ∧ H' = H) I rel ra rx e ⟨rfl, rfl⟩) fun c' s1 ⟨H1, I1, e1, e2⟩ => by
      subst e1; subst e2
      exact h _ s1 I1 w
  · exact w.elim
theorem e_and {rest : List Expr} (ha : ZE X cls W a f) (hb : ZE X cls W (.BoolOp .And (b :: rest) pos) g) : ZE X cls W (.BoolOp .And (a :: b :: rest) pos) (zAnd f g) :=
  ⟨fun pins s σ H Q I ⟨B, A, ρ, μ, rel, re, w⟩ => BoolOp_and (ev1 ha I rel re w fun v s1 x d A1 H1 μ1 I1 rx r1 re1 p1 st w1 => tru_then I1 r1 p1 rx w1 fun c s2 I2 w2 => by
    cases c with
    | true => exact hb.run pins s2 σ H1 Q I2 ⟨B, A1, ρ, μ1, r1, re1, w2⟩
    | false => exact ⟨x, H1, I2, rx, w2.here r1 p1⟩)⟩
theorem e_or {rest : List Expr} (ha : ZE X cls W a f) (hb : ZE X cls W (.BoolOp .Or (b :: rest) pos) g) : ZE X cls W (.BoolOp .Or (a :: b :: rest) pos) (zOr f g) :=
  ⟨fun pins s σ H Q I ⟨B, A, ρ, μ, rel, re, w⟩ => BoolOp_or (ev1 ha I rel re w fun v s1 x d A1 H1 μ1 I1 rx r1 re1 p1 st w1 => tru_then I1 r1 p1 rx w1 fun c s2 I2 w2 => by
    cases c with
    | true => exact ⟨x, H1, I2, rx, w2.here r1 p1⟩
    | false => exact hb.run pins s2 σ H1 Q I2 ⟨B, A1, ρ, μ1, r1, re1, w2⟩)⟩
theorem e_not (ha : ZE X cls W a f) : ZE X cls W (.UnaryOp .Not a pos) (zNot f) :=
  ⟨fun pins s σ H Q I ⟨B, A, ρ, μ, rel, re, w⟩ => UnaryOp_ (ev1 ha I rel re w fun v s1 x d A1 H1 μ1 I1 rx r1 re1 p1 st w1 => not_of (tru_then I1 r1 p1 rx w1 fun c s2 I2 w2 => ⟨.bl (!c), H1, I2, rfl, w2.here r1 rfl⟩))⟩
theorem e_if (hc : ZT X cls W c p) (ha : ZE X cls W a f) (hb : ZE X cls W b g) : ZE X cls W (.IfExp c a b pos) (zIf p f g) :=
  ⟨fun pins s σ H Q I ⟨B, A, ρ, μ, rel, re, w⟩ => wpAny_IfExp (ev1T hc I rel re w fun v s1 A1 H1 μ1 I1 r1 re1 st w1 => by
    cases v with
    | true => exact ha.run pins s1 σ H1 Q I1 ⟨B, A1, ρ, μ1, r1, re1, w1⟩
    | false => exact hb.run pins s1 σ H1 Q I1 ⟨B, A1, ρ, μ1, r1, re1, w1⟩)⟩

/-! ### displays -/
theorem a_nil : ZA X cls W [] zNil := PA.of pa_nil fun σ H Q ⟨B, A, ρ, μ, rel, re, w⟩ => w [] A H rel rfl (Step.refl _ _ _ _)
theorem a_cons (ha : ZE X cls W e f) (hr : ZA X cls W es fs) (hs : starEach (e :: es) X.env = (false, eval e X.env) :: starEach es X.env := by rfl) : ZA X cls W (e :: es) (zCons f fs) :=
  PA.of (pa_cons ha hr hs) fun σ H Q ⟨B, A, ρ, μ, rel, re, w⟩ => tV_step rel re w fun v d A1 H1 μ1 _ r1 re1 p1 st w1 => tV_step r1 re1 w1 fun vs ds A2 H2 μ2 _ r2 re2 p2 st2 w2 => w2 (v :: vs) A2 H2 r2 (.cons (p1.mono st2.pre st2.sub) p2) (Step.refl _ _ _ _)
theorem e_tup {k} (h : ZA X cls W es fs) : ZE X cls W (.Tuple es k pos) (zTup fs) :=
  PE.of (pe_tup h) fun σ H Q ⟨B, A, ρ, μ, rel, re, w⟩ => tV_step rel re w fun vs ds A1 H1 μ1 _ r1 re1 p1 st w1 => by
    split at w1
    · rename_i hl
      have hl' := p1.length
      exact ⟨by rw [hl']; exact lim_le hl, fun p hp => w1.new r1 hp fun h s => rep_tup h s p1⟩
    · exact w1.elim
/-- a fresh list -/
theorem Want.mkL {m : Bool} {ds : List D} {vs : List V} {B : Addr → Prop} {A : Al} {H : Hp} {μ : Sto} {σ : L2.St} {Q : VK} {p : Addr} {G : Gx} (w : Want G W (RD G) B A H μ σ (mkL m ds μ) Q) (rel : RelS G B A H μ) (r : Reps G A (hide B H A μ) vs ds) (hp : H p = none) : Q (.ref p) (upd H p (.lst vs)) := by
  unfold Z.mkL at w
  cases m with
  | false => exact w.new rel hp fun h s => rep_lst h s r
  | true =>
    obtain ⟨r1, st⟩ := rel.handle (H' := upd H p (.lst vs)) (q := (p, p)) (n := .lst ds) hp hp (fun b h _ => upd_ne h) ⟨rfl, vs, upd_same, r.mono (pre_push A _) (Sub.refl _)⟩
    exact w (.ref p) _ _ r1 ⟨(p, p), by rw [← rel.len]; simp, rfl⟩ st
theorem e_lst {m : Bool} (h : ZA X cls W es fs) : ZE X cls W (.List es pos) (zLst m fs) :=
  PE.of (pe_lst h) fun σ H Q ⟨B, A, ρ, μ, rel, re, w⟩ => tV_step rel re w fun vs ds A1 H1 μ1 _ r1 re1 p1 st w1 => by
    split at w1
    · rename_i hl
      have hl' := p1.length
      exact ⟨by rw [hl']; exact lim_le hl, fun p hp => w1.mkL r1 p1 hp⟩
    · exact w1.elim
end
end Z

/-! statements: what they do on data by value, and that they do it -/
namespace Z
open PySem PySem.Spec PyProof.Rows L2 SlX

inductive Out where
  | nx (ρ : Env') (μ : Sto)
  | rt (d : D) (μ : Sto)
  | bk (ρ : Env') (μ : Sto)
  | ct (ρ : Env') (μ : Sto)
  | exc (c : Str) (ds : List D) (ρ : Env') (μ : Sto)
  | bad
abbrev Ex := Env' → Sto → Out
def Res.out {α : Type} (r : Res α) (ρ : Env') (k : α → Sto → Out) : Out := match r with
  | .ok a μ => k a μ
  | .exc c ds μ => .exc c ds ρ μ
  | .bad => .bad
/-- what is wanted behind a statement -/
def WantS (G : Gx) (W : WX) (B : Addr → Prop) (A : Al) (H : Hp) (μ : Sto) (o : Out) (E : Ends) : Prop := match o with
  | .nx ρ' μ' => ∀ σ' A' H', RelS G B A' H' μ' → RelE G A' (hide B H' A' μ') σ' ρ' → Step B A H μ A' H' μ' → E.nx σ' H'
  | .rt d μ' => ∀ v A' H', RelS G B A' H' μ' → Rep G A' (hide B H' A' μ') v d → Step B A H μ A' H' μ' → E.rt v H'
  | .bk ρ' μ' => ∀ σ' A' H', RelS G B A' H' μ' → RelE G A' (hide B H' A' μ') σ' ρ' → Step B A H μ A' H' μ' → E.bk σ' H'
  | .ct ρ' μ' => ∀ σ' A' H', RelS G B A' H' μ' → RelE G A' (hide B H' A' μ') σ' ρ' → Step B A H μ A' H' μ' → E.ct σ' H'
  | .exc c ds ρ' μ' => ∀ cls o σ' A' H', RelS G B A' H' μ' → RelE G A' (hide B H' A' μ') σ' ρ' → ExcAt G A' (hide B H' A' μ') c ds cls o → Step B A H μ A' H' μ' → W cls o σ' H'
  | .bad => False
def tS (G : Gx) (W : WX) (f : Ex) : TS := fun E σ H => ∃ (B : Addr → Prop) (A : Al) (ρ : Env') (μ : Sto), RelS G B A H μ ∧ RelE G A (hide B H A μ) σ ρ ∧ WantS G W B A H μ (f ρ μ) E
abbrev ZS (X : Cx) (cls : Str → Option CI) (W : WX) (st : Stmt) (f : Ex) : Prop := PS X st (tS (gx X cls) W f)
abbrev ZSs (X : Cx) (cls : Str → Option CI) (W : WX) (st : List Stmt) (f : Ex) : Prop := PSs X st (tS (gx X cls) W f)
section
variable {G : Gx} {W : WX} {B : Addr → Prop} {A A1 : Al} {H H1 : Hp} {μ μ1 : Sto} {σ : L2.St} {ρ : Env'} {o : Out} {E : Ends}
theorem WantS.step (w : WantS G W B A H μ o E) (s : Step B A H μ A1 H1 μ1) : WantS G W B A1 H1 μ1 o E := by
  cases o with
  | nx ρ' μ' => exact fun σ' A' H' r1 r2 h => w σ' A' H' r1 r2 (s.trans h)
  | rt d μ' => exact fun σ' A' H' r1 r2 h => w σ' A' H' r1 r2 (s.trans h)
  | bk ρ' μ' => exact fun σ' A' H' r1 r2 h => w σ' A' H' r1 r2 (s.trans h)
  | ct ρ' μ' => exact fun σ' A' H' r1 r2 h => w σ' A' H' r1 r2 (s.trans h)
  | exc c ds ρ' μ' => exact fun cl ob σ' A' H' r1 r2 r3 h => w cl ob σ' A' H' r1 r2 r3 (s.trans h)
  | bad => exact w
/-- an expression within a statement -/
theorem tV_stepS {α β : Type} {R : Al → Hp → β → α → Prop} {f : Ev α} {k : α → Sto → Out} {Q1 : β → Hp → Prop}
    (rel : RelS G B A H μ) (re : RelE G A (hide B H A μ) σ ρ) (w : WantS G W B A H μ ((f ρ μ).out ρ k) E)
    (h : ∀ v d A1 H1 μ1, f ρ μ = .ok d μ1 → RelS G B A1 H1 μ1 → RelE G A1 (hide B H1 A1 μ1) σ ρ → R A1 (hide B H1 A1 μ1) v d → Step B A H μ A1 H1 μ1 → WantS G W B A1 H1 μ1 (k d μ1) E → Q1 v H1) : tV G W R f σ H Q1 := by
  refine ⟨B, A, ρ, μ, rel, re, ?_⟩
  cases e : f ρ μ with
  | ok d μ1 =>
    rw [e] at w
    exact fun v A1 H1 r1 p1 s1 => h v d A1 H1 μ1 e r1 (re.mono s1) p1 s1 (WantS.step w s1)
  | exc c ds μ1 =>
    rw [e] at w
    exact fun cl ob A1 H1 r1 x1 s1 => w cl ob σ A1 H1 r1 (re.mono s1) x1 s1
  | bad =>
    rw [e] at w
    exact w
/-- another end -/
theorem WantS.imp {E' : Ends} (w : WantS G W B A H μ o E) (h1 : ∀ σ H, E.nx σ H → E'.nx σ H) (h2 : ∀ v H, E.rt v H → E'.rt v H) (h3 : ∀ σ H, E.bk σ H → E'.bk σ H) (h4 : ∀ σ H, E.ct σ H → E'.ct σ H) : WantS G W B A H μ o E' := by
  cases o with
  | nx ρ' μ' => exact fun σ' A' H' r1 r2 h => h1 _ _ (w σ' A' H' r1 r2 h)
  | rt d μ' => exact fun σ' A' H' r1 r2 h => h2 _ _ (w σ' A' H' r1 r2 h)
  | bk ρ' μ' => exact fun σ' A' H' r1 r2 h => h3 _ _ (w σ' A' H' r1 r2 h)
  | ct ρ' μ' => exact fun σ' A' H' r1 r2 h => h4 _ _ (w σ' A' H' r1 r2 h)
  | exc c ds ρ' μ' => exact w
  | bad => exact w
end

/-! ### evaluation -/
def sPass : Ex := fun ρ μ => .nx ρ μ
def sBreak : Ex := fun ρ μ => .bk ρ μ
def sCont : Ex := fun ρ μ => .ct ρ μ
def sSeq (f g : Ex) : Ex := fun ρ μ => match f ρ μ with
  | .nx ρ' μ' => g ρ' μ'
  | o => o
def sExp (f : Ev D) : Ex := fun ρ μ => (f ρ μ).out ρ fun _ μ1 => .nx ρ μ1
def sRet (f : Ev D) : Ex := fun ρ μ => (f ρ μ).out ρ fun d μ1 => .rt d μ1
def sRetN : Ex := fun _ μ => .rt .non μ
def sIf (c : Ev Bool) (f g : Ex) : Ex := fun ρ μ => (c ρ μ).out ρ fun b μ1 => if b then f ρ μ1 else g ρ μ1
/-- targets -/
abbrev Tg := D → Env' → Option Env'
def gN (i : Nat) : Tg := fun d ρ => some (ρ.set i (some d))
def gTs : List Tg → List D → Env' → Option Env'
  | [], [], ρ => some ρ
  | t :: ts, d :: ds, ρ => match t d ρ with
    | some ρ' => gTs ts ds ρ'
    | none => none
  | _, _, _ => none
def gT (ts : List Tg) : Tg := fun d ρ => match d with
  | .tup ds => gTs ts ds ρ
  | _ => none
def outO (o : Option Env') (μ : Sto) : Out := match o with
  | some ρ => .nx ρ μ
  | none => .bad
def sAsg (f : Ev D) (T : Tg) : Ex := fun ρ μ => (f ρ μ).out ρ fun d μ1 => outO (T d ρ) μ1
/-- what is walked: the things in turn, the handle that must stay as it is -/
abbrev Srcs := List D × Option Nat
def grd (p : Srcs) (μ : Sto) : Prop := match p.2 with
  | none => True
  | some h => μ[h]? = some (some (.lst p.1))
open Classical in
noncomputable def loopF (p : Srcs) (T : Tg) (body : Ex) : List D → Env' → Sto → Out
  | [], ρ, μ => if grd p μ then .nx ρ μ else .bad
  | d :: r, ρ, μ => if grd p μ then (match T d ρ with
    | none => .bad
    | some ρ1 => match body ρ1 μ with
      | .nx ρ2 μ2 => loopF p T body r ρ2 μ2
      | .ct ρ2 μ2 => loopF p T body r ρ2 μ2
      | .bk ρ2 μ2 => .nx ρ2 μ2
      | o => o) else .bad
noncomputable def sFor (src : Ev Srcs) (T : Tg) (body : Ex) : Ex := fun ρ μ => (src ρ μ).out ρ fun p μ1 => loopF p T body p.1 ρ μ1
def whileF (c : Ev Bool) (body : Ex) : Nat → Env' → Sto → Out
  | 0, _, _ => .bad
  | n + 1, ρ, μ => (c ρ μ).out ρ fun b μ1 => if b then (match body ρ μ1 with
      | .nx ρ2 μ2 => whileF c body n ρ2 μ2
      | .ct ρ2 μ2 => whileF c body n ρ2 μ2
      | .bk ρ2 μ2 => .nx ρ2 μ2
      | o => o) else .nx ρ μ1
def sWhile (n : Nat) (c : Ev Bool) (body : Ex) : Ex := fun ρ μ => whileF c body n ρ μ
def setO (a b c : D) (μ : Sto) : Option Sto := match a with
  | .hd h => match μ[h]? with
    | some (some (.lst ds)) => match b with
      | .int k => match ixN ds.length k with
        | some j => some (μ.set h (some (.lst (ds.set j c))))
        | none => none
      | _ => none
    | some (some (.dct ks vs)) => match b.kk with
      | some k => match D.ixOf ks k with
        | some j => some (μ.set h (some (.dct ks (vs.set j c))))
        | none => if ks.length < lim then some (μ.set h (some (.dct (ks ++ [b]) (vs ++ [c])))) else none
      | none => none
    | _ => none
  | _ => none
def outM (o : Option Sto) (ρ : Env') : Out := match o with
  | some μ => .nx ρ μ
  | none => .bad
/-- a[b] = c -/
def sSet (f a b : Ev D) : Ex := fun ρ μ => (f ρ μ).out ρ fun c μ1 => (a ρ μ1).out ρ fun x μ2 => (b ρ μ2).out ρ fun y μ3 => outM (setO x y c μ3) ρ

/-! ### targets, sources -/
def tG (G : Gx) (is : List Nat) (T : Tg) : TG := fun v σ H Q => ∃ (B : Addr → Prop) (A : Al) (ρ : Env') (μ : Sto) (d : D) (ρ' : Env'), RelS G B A H μ ∧ RelE G A (hide B H A μ) σ ρ ∧ Rep G A (hide B H A μ) v d ∧ T d ρ = some ρ' ∧
  ∀ σ', RelE G A (hide B H A μ) σ' ρ' → (∀ vs, (∀ i ∈ is, i ∈ vs) → wipe σ' vs = wipe σ vs) → Q σ' H
def tGs (G : Gx) (is : List Nat) (T : List D → Env' → Option Env') : TGs := fun v σ H Q => ∃ (B : Addr → Prop) (A : Al) (ρ : Env') (μ : Sto) (d : List D) (ρ' : Env'), RelS G B A H μ ∧ RelE G A (hide B H A μ) σ ρ ∧ Reps G A (hide B H A μ) v d ∧ T d ρ = some ρ' ∧
  ∀ σ', RelE G A (hide B H A μ) σ' ρ' → (∀ vs, (∀ i ∈ is, i ∈ vs) → wipe σ' vs = wipe σ vs) → Q σ' H
abbrev ZG (X : Cx) (cls : Str → Option CI) (tg : Expr) (is : List Nat) (T : Tg) : Prop := PG X tg (tG (gx X cls) is T)
abbrev ZGs (X : Cx) (cls : Str → Option CI) (tg : List Expr) (is : List Nat) (T : List D → Env' → Option Env') : Prop := PGs X tg (tGs (gx X cls) is T)
theorem wipe_get {σ : L2.St} {vs : List Nat} {i : Nat} (h : i ∉ vs) : (wipe σ vs)[i]? = σ[i]? := by
  induction vs with
  | nil => rfl
  | cons v vs ih =>
    unfold wipe
    rw [List.getElem?_set_ne (by rintro rfl; simp at h)]
    exact ih (by simp at h; exact h.2)
theorem wipe_none {σ : L2.St} {vs : List Nat} {i : Nat} (h : i ∈ vs) (hl : i < σ.length) : (wipe σ vs)[i]? = some none := by
  induction vs with
  | nil => simp at h
  | cons v vs ih =>
    unfold wipe
    by_cases e : v = i
    · subst e
      rw [List.getElem?_set_self (by rw [wipe_length]; exact hl)]
    · rw [List.getElem?_set_ne e]
      exact ih (by rcases List.mem_cons.mp h with z | z; exact absurd z.symm e; exact z)
theorem wipe_set {σ : L2.St} {vs : List Nat} {i : Nat} {x : Option V} (h : i ∈ vs) : wipe (σ.set i x) vs = wipe σ vs := by
  apply List.ext_getElem?
  intro j
  by_cases hj : j ∈ vs
  · by_cases hl : j < σ.length
    · rw [wipe_none hj hl, wipe_none hj (by simpa using hl)]
    · rw [List.getElem?_eq_none (by rw [wipe_length]; simpa using hl), List.getElem?_eq_none (by rw [wipe_length]; simpa using hl)]
  · rw [wipe_get hj, wipe_get hj, List.getElem?_set_ne (by rintro rfl; exact hj h)]
theorem RelE.set {G : Gx} {A : Al} {F : Hp} {σ : L2.St} {ρ : Env'} {v : V} {d : D} (i : Nat) (h : RelE G A F σ ρ) (r : Rep G A F v d) : RelE G A F (σ.set i (some v)) (ρ.set i (some d)) := by
  refine ⟨by simp [h.1], fun j e hj => ?_⟩
  by_cases z : j = i
  · subst z
    have hl : j < ρ.length := by have := (List.getElem?_eq_some_iff.mp hj).1; simpa using this
    rw [List.getElem?_set_self hl] at hj
    cases hj
    exact ⟨v, List.getElem?_set_self (by rw [← h.1]; exact hl), r⟩
  · rw [List.getElem?_set_ne (Ne.symm z)] at hj
    obtain ⟨u, h1, h2⟩ := h.2 j e hj
    exact ⟨u, by rw [List.getElem?_set_ne (Ne.symm z)]; exact h1, h2⟩

/-- J walks the things of p -/
def IterOk (G : Gx) (A0 : Al) (F0 : Hp) (J : It) (p : Srcs) : Prop := ∀ (B : Addr → Prop) (A : Al) (H : Hp) (μ : Sto), RelS G B A H μ → Pre A0 A → Sub F0 (hide B H A μ) → grd p μ → ∀ i : Nat,
  (∀ d, p.1[i]? = some d → J.go i H ∧ ∀ x H3, J.yld i H x H3 → ∃ A3, RelS G B A3 H3 μ ∧ Step B A H μ A3 H3 μ ∧ Rep G A3 (hide B H3 A3 μ) x d) ∧ (p.1.length ≤ i → J.stop i H)
abbrev ZI (X : Cx) (cls : Str → Option CI) (W : WX) (tg iter : Expr) (src : Ev Srcs) : Prop := PI X tg iter (tV (gx X cls) W (fun A F J p => IterOk (gx X cls) A F J p) src)
theorem IterOk.mono {G : Gx} {A0 A1 : Al} {F0 F1 : Hp} {J : It} {p : Srcs} (h : IterOk G A0 F0 J p) (hA : Pre A0 A1) (hF : Sub F0 F1) : IterOk G A1 F1 J p :=
  fun B A H μ r pa pf g i => h B A H μ r (hA.trans pa) (hF.trans pf) g i

section
variable {X : Cx} {cls : Str → Option CI} {W : WX} {k : Nat} {e c : Expr} {st : Stmt} {sts a b : List Stmt} {f g : Ev D} {t : Ev Bool} {s1 s2 : Ex} {pos : Pos}
theorem ss_nil : ZSs X cls W [] sPass := PSs.of pss_nil fun E σ H ⟨B, A, ρ, μ, rel, re, w⟩ => w σ A H rel re (Step.refl _ _ _ _)
theorem ss_cons (h1 : ZS X cls W st s1) (h2 : ZSs X cls W sts s2) : ZSs X cls W (st :: sts) (sSeq s1 s2) :=
  PSs.of (pss_cons h1 h2) fun E σ H ⟨B, A, ρ, μ, rel, re, w⟩ => ⟨B, A, ρ, μ, rel, re, by
    unfold sSeq at w
    cases e : s1 ρ μ with
    | nx ρ' μ' => rw [e] at w; exact fun σ' A' H' r1 r2 h => ⟨B, A', ρ', μ', r1, r2, WantS.step w h⟩
    | rt d μ' => rw [e] at w; exact w
    | bk ρ' μ' => rw [e] at w; exact w
    | ct ρ' μ' => rw [e] at w; exact w
    | exc c ds ρ' μ' => rw [e] at w; exact w
    | bad => rw [e] at w; exact w⟩
theorem ss_one (h1 : ZS X cls W st s1) : ZSs X cls W [st] s1 := pss_one h1
theorem s_pass : ZS X cls W (.Pass pos) sPass := PS.of ps_pass fun E σ H ⟨B, A, ρ, μ, rel, re, w⟩ => w σ A H rel re (Step.refl _ _ _ _)
theorem s_break : ZS X cls W (.Break pos) sBreak := PS.of ps_break fun E σ H ⟨B, A, ρ, μ, rel, re, w⟩ => w σ A H rel re (Step.refl _ _ _ _)
theorem s_cont : ZS X cls W (.Continue pos) sCont := PS.of ps_continue fun E σ H ⟨B, A, ρ, μ, rel, re, w⟩ => w σ A H rel re (Step.refl _ _ _ _)
theorem s_doc {x j p2} : ZS X cls W (.Expr (.Constant (.str x) j p2) pos) sPass := PS.of ps_doc fun E σ H ⟨B, A, ρ, μ, rel, re, w⟩ => w σ A H rel re (Step.refl _ _ _ _)
theorem s_exp (he : ZE X cls W e f) (hs : swapsWith e none pos.line X.env = pure false := by rfl) : ZS X cls W (.Expr e pos) (sExp f) :=
  PS.of (ps_expr he hs) fun E σ H ⟨B, A, ρ, μ, rel, re, w⟩ => tV_stepS rel re w fun v d A1 H1 μ1 _ r1 re1 p1 st w1 => w1 σ A1 H1 r1 re1 (Step.refl _ _ _ _)
theorem s_ret (he : ZE X cls W e f) : ZS X cls W (.Return (some e) pos) (sRet f) :=
  PS.of (ps_ret he) fun E σ H ⟨B, A, ρ, μ, rel, re, w⟩ => tV_stepS rel re w fun v d A1 H1 μ1 _ r1 re1 p1 st w1 => w1 v A1 H1 r1 p1 (Step.refl _ _ _ _)
theorem s_retN : ZS X cls W (.Return none pos) sRetN :=
  PS.of ps_retN fun E σ H ⟨B, A, ρ, μ, rel, re, w⟩ => w .non A H rel rfl (Step.refl _ _ _ _)
theorem s_if (hc : ZT X cls W c t) (ha : ZSs X cls W a s1) (hb : ZSs X cls W b s2) : ZS X cls W (.If c a b pos) (sIf t s1 s2) :=
  PS.of (ps_if hc ha hb) fun E σ H ⟨B, A, ρ, μ, rel, re, w⟩ => tV_stepS rel re w fun v d A1 H1 μ1 _ r1 re1 p1 st w1 => by
    obtain rfl := show v = d from p1
    cases v with
    | true => exact (if_pos rfl).mpr ⟨B, A1, ρ, μ1, r1, re1, w1⟩
    | false => exact (if_neg Bool.false_ne_true).mpr ⟨B, A1, ρ, μ1, r1, re1, w1⟩
/-! targets -/
theorem PG.of {tg : Expr} {t t' : TG} (h : PG X tg t) (w : ∀ v σ H Q, t' v σ H Q → t v σ H Q) : PG X tg t' := ⟨fun pins s σ H v u Q I r q => h.run pins s σ H v u Q I r (w v σ H Q q)⟩
theorem PGs.of {tg : List Expr} {t t' : TGs} (h : PGs X tg t) (w : ∀ v σ H Q, t' v σ H Q → t v σ H Q) : PGs X tg t' := ⟨fun pins s σ H v u Q I r q => h.run pins s σ H v u Q I r (w v σ H Q q)⟩
theorem g_name {i : Nat} {x : Str} (hN : X.N.Nodup) (hi : X.N[i]? = some x := by rfl) (hx : Loc X.env.scope x := by first | exact Or.inl rfl | exact Or.inr rfl) (hf : X.fn x = true ∨ X.env.scope.names.lookup x = some .local := by first | exact .inl rfl | exact .inr rfl) :
    ZG X cls (.Name x pos) [i] (gN i) :=
  PG.of (pg_name hN hi hx hf) fun v σ H Q ⟨B, A, ρ, μ, d, ρ', rel, re, p, hT, q⟩ => by
    obtain rfl := Option.some.inj hT
    exact q _ (re.set i p) fun vs h => wipe_set (h i (by simp))
theorem gs_nil : ZGs X cls [] [] (gTs []) := PGs.of pgs_nil fun v σ H Q ⟨B, A, ρ, μ, d, ρ', rel, re, p, hT, q⟩ => by
  cases d with
  | nil => obtain rfl := Option.some.inj hT; exact ⟨p, q σ re fun _ _ => rfl⟩
  | cons _ _ => cases hT
theorem gs_cons {tg : Expr} {tgs : List Expr} {is js : List Nat} {T : Tg} {Ts : List Tg} (h1 : ZG X cls tg is T) (h2 : ZGs X cls tgs js (gTs Ts)) (hs : (assignEach (tg :: tgs) X.env).map (·.2) = assign tg X.env :: (assignEach tgs X.env).map (·.2) := by rfl) :
    ZGs X cls (tg :: tgs) (is ++ js) (gTs (T :: Ts)) := PGs.of (pgs_cons h1 h2 hs) fun v σ H Q ⟨B, A, ρ, μ, d, ρ', rel, re, p, hT, q⟩ => by
  cases d with
  | nil => cases hT
  | cons d ds =>
    obtain ⟨x, r, rfl, p1, p2⟩ := p
    unfold gTs at hT
    split at hT
    · rename_i ρ1 e1
      exact ⟨x, r, rfl, B, A, ρ, μ, d, ρ1, rel, re, p1, e1, fun σ1 re1 k1 => ⟨B, A, ρ1, μ, ds, ρ', rel, re1, p2, hT, fun σ2 re2 k2 => q σ2 re2 fun vs hv => (k2 vs fun i hi => hv i (by simp [hi])).trans (k1 vs fun i hi => hv i (by simp [hi]))⟩⟩
    · cases hT
theorem g_tup {es : List Expr} {kk : Nat} {is : List Nat} {Ts : List Tg} {n : Nat} (hc : X.calm = true) (h : ZGs X cls es is (gTs Ts)) (hl : Ts.length = n := by rfl)
    (hn : (assignEach es X.env).length = n := by rfl) (hst : (assignEach es X.env).findIdx? (·.1) = none := by rfl) : ZG X cls (.Tuple es kk pos) is (gT Ts) :=
  PG.of (pg_tup hc h hn hst) fun v σ H Q ⟨B, A, ρ, μ, d, ρ', rel, re, p, hT, q⟩ => by
    unfold gT at hT
    split at hT
    · rename_i ds
      obtain ⟨a, vs, rfl, h1, h2⟩ := p
      refine ⟨a, vs, rfl, hide_sub.sqt h1, ?_, B, A, ρ, μ, ds, ρ', rel, re, h2, hT, q⟩
      rw [h2.length, ← hl]
      have : ∀ (Ts : List Tg) (ds : List D) (ρ ρ' : Env'), gTs Ts ds ρ = some ρ' → ds.length = Ts.length := by
        intro Ts
        induction Ts with
        | nil => intro ds ρ ρ' h; cases ds with
          | nil => rfl
          | cons _ _ => cases h
        | cons t ts ih => intro ds ρ ρ' h; cases ds with
          | nil => cases h
          | cons d ds =>
            unfold gTs at h
            split at h
            · simp [ih _ _ _ h]
            · cases h
      exact this _ _ _ _ hT
    · cases hT
theorem s_asg {tg : Expr} {is : List Nat} {T : Tg} (he : ZE X cls W e f) (hg : ZG X cls tg is T) (hs : swapsWithSole [tg] e pos.line X.env = pure false := by rfl) (hw : swappedStores [tg] e X.env = pure none := by rfl)
    (h1 : (assignEach [tg] X.env).map (·.2) = [assign tg X.env] := by rfl) : ZS X cls W (.Assign [tg] e pos) (sAsg f T) :=
  PS.of (ps_asg he hg hs hw h1) fun E σ H ⟨B, A, ρ, μ, rel, re, w⟩ => tV_stepS rel re w fun v d A1 H1 μ1 _ r1 re1 p1 st w1 => by
    unfold outO at w1
    split at w1
    · rename_i ρ' e'
      exact ⟨B, A1, ρ, μ1, d, ρ', r1, re1, p1, e', fun σ' re' _ => w1 σ' A1 H1 r1 re' (Step.refl _ _ _ _)⟩
    · exact w1.elim
/-! loops -/
theorem s_for {tg iter : Expr} {body : List Stmt} {src : Ev Srcs} {is : List Nat} {T : Tg} (z : ZX X W k) (hi : ZI X cls W tg iter src) (hg : ZG X cls tg is T) (hb : ZSs X cls W body s1)
    (hs : ∀ x, foldedSetIterable iter X.env x = pure x := by intro _; rfl) : ZS X cls W (.For tg iter body [] pos) (sFor src T s1) :=
  PS.of (ps_for z.own z.calm hi hg hb hs) fun E σ H ⟨B, A, ρ, μ, rel, re, w⟩ => tV_stepS rel re w fun J p A1 H1 μ1 _ r1 re1 ok1 st1 w1 => by
    refine ⟨fun i m σ2 H2 => m = p.1.length - i ∧ i ≤ p.1.length ∧ ∃ A2 ρ2 μ2, RelS (gx X cls) B A2 H2 μ2 ∧ RelE (gx X cls) A2 (hide B H2 A2 μ2) σ2 ρ2 ∧ Step B A1 H1 μ1 A2 H2 μ2 ∧ WantS (gx X cls) W B A2 H2 μ2 (loopF p T s1 (p.1.drop i) ρ2 μ2) E, ⟨p.1.length, by simp, Nat.zero_le _, A1, ρ, μ1, r1, re1, Step.refl _ _ _ _, w1⟩, ?_⟩
    rintro i m σ2 H2 ⟨rfl, hi, A2, ρ2, μ2, r2, re2, st2, w2⟩
    by_cases hlt : i < p.1.length
    · rw [List.drop_eq_getElem_cons hlt] at w2
      unfold loopF at w2
      split at w2
      · rename_i hg
        obtain ⟨z1, _⟩ := ok1 B A2 H2 μ2 r2 st2.pre st2.sub hg i
        obtain ⟨go, y⟩ := z1 _ (List.getElem?_eq_getElem hlt)
        split at w2
        · exact w2.elim
        · rename_i ρ3 e3
          refine .inr ⟨go, fun σ' H' => ∃ A2 ρ2 μ2, RelS (gx X cls) B A2 H' μ2 ∧ RelE (gx X cls) A2 (hide B H' A2 μ2) σ' ρ2 ∧ Step B A1 H1 μ1 A2 H' μ2 ∧ WantS (gx X cls) W B A2 H' μ2 (loopF p T s1 (p.1.drop (i + 1)) ρ2 μ2) E, fun σ' H' h => ⟨_, by omega, rfl, hlt, h⟩, fun x H3 hy => ?_⟩
          obtain ⟨A3, r3, st3, p3⟩ := y x H3 hy
          refine ⟨B, A3, ρ2, μ2, _, ρ3, r3, re2.mono st3, p3, e3, fun σ4 re4 _ => ⟨B, A3, ρ3, μ2, r3, re4, ?_⟩⟩
          have w3 := WantS.step w2 st3
          cases e5 : s1 ρ3 μ2 with
          | nx ρ5 μ5 => rw [e5] at w3; exact fun σ5 A5 H5 r5 re5 st5 => ⟨A5, ρ5, μ5, r5, re5, (st2.trans st3).trans st5, WantS.step w3 st5⟩
          | ct ρ5 μ5 => rw [e5] at w3; exact fun σ5 A5 H5 r5 re5 st5 => ⟨A5, ρ5, μ5, r5, re5, (st2.trans st3).trans st5, WantS.step w3 st5⟩
          | bk ρ5 μ5 => rw [e5] at w3; exact w3
          | rt d μ5 => rw [e5] at w3; exact w3
          | exc c ds ρ5 μ5 => rw [e5] at w3; exact w3
          | bad => rw [e5] at w3; exact w3
      · exact w2.elim
    · rw [List.drop_eq_nil_of_le (by omega)] at w2
      unfold loopF at w2
      split at w2
      · rename_i hg
        obtain ⟨_, z2⟩ := ok1 B A2 H2 μ2 r2 st2.pre st2.sub hg i
        exact .inl ⟨z2 (by omega), w2 σ2 A2 H2 r2 re2 (Step.refl _ _ _ _)⟩
      · exact w2.elim
theorem s_while {body : List Stmt} {n : Nat} (z : ZX X W k) (hc : ZT X cls W c t) (hb : ZSs X cls W body s1) : ZS X cls W (.While c body [] pos) (sWhile n t s1) :=
  PS.of (ps_while z.own hc hb) fun E σ H ⟨B, A, ρ, μ, rel, re, w⟩ => by
    refine ⟨fun m σ2 H2 => ∃ A2 ρ2 μ2, RelS (gx X cls) B A2 H2 μ2 ∧ RelE (gx X cls) A2 (hide B H2 A2 μ2) σ2 ρ2 ∧ WantS (gx X cls) W B A2 H2 μ2 (whileF t s1 m ρ2 μ2) E, ⟨n, A, ρ, μ, rel, re, w⟩, ?_⟩
    rintro m σ2 H2 ⟨A2, ρ2, μ2, r2, re2, w2⟩
    cases m with
    | zero => exact w2.elim
    | succ m =>
      unfold whileF at w2
      refine tV_stepS r2 re2 w2 fun v d A3 H3 μ3 _ r3 re3 p3 st3 w3 => ?_
      obtain rfl := show v = d from p3
      cases v with
      | false => exact (if_neg Bool.false_ne_true).mpr (w3 σ2 A3 H3 r3 re3 (Step.refl _ _ _ _))
      | true =>
        refine (if_pos rfl).mpr ⟨fun σ' H' => ∃ A2 ρ2 μ2, RelS (gx X cls) B A2 H' μ2 ∧ RelE (gx X cls) A2 (hide B H' A2 μ2) σ' ρ2 ∧ WantS (gx X cls) W B A2 H' μ2 (whileF t s1 m ρ2 μ2) E, fun σ' H' h => ⟨m, Nat.lt_succ_self m, h⟩, B, A3, ρ2, μ3, r3, re3, ?_⟩
        simp only [if_true] at w3
        cases e5 : s1 ρ2 μ3 with
        | nx ρ5 μ5 => rw [e5] at w3; exact fun σ5 A5 H5 r5 re5 st5 => ⟨A5, ρ5, μ5, r5, re5, WantS.step w3 st5⟩
        | ct ρ5 μ5 => rw [e5] at w3; exact fun σ5 A5 H5 r5 re5 st5 => ⟨A5, ρ5, μ5, r5, re5, WantS.step w3 st5⟩
        | bk ρ5 μ5 => rw [e5] at w3; exact w3
        | rt d μ5 => rw [e5] at w3; exact w3
        | exc c ds ρ5 μ5 => rw [e5] at w3; exact w3
        | bad => rw [e5] at w3; exact w3
end
end Z

/-! a[b] = c -/
namespace Z
open PySem PySem.Spec PyProof.Rows L2 SlX

/-- the entries behind d[k] = v -/
def putV (es : List EntV) (k : NK) (kx vx : V) : List EntV := match es.findIdx? fun e => decide (e.1 = k) with
  | some i => es.modify i fun e => (e.1, e.2.1, vx)
  | none => es ++ [(k, kx, vx)]
theorem paired_modify {α β : Type} {R : α → β → Prop} {f : α → α} {g : β → β} (hfg : ∀ a b, R a b → R (f a) (g b)) : ∀ {xs : List α} {ys : List β}, Paired R xs ys → ∀ i, Paired R (xs.modify i f) (ys.modify i g)
  | _, _, .nil, i => by cases i <;> exact .nil
  | _, _, .cons r t, 0 => by simp only [List.modify_zero_cons]; exact .cons (hfg _ _ r) t
  | _, _, .cons r t, i + 1 => by simp only [List.modify_succ_cons]; exact .cons r (paired_modify hfg t i)
theorem paired_append {α β : Type} {R : α → β → Prop} : ∀ {xs xs' : List α} {ys ys' : List β}, Paired R xs ys → Paired R xs' ys' → Paired R (xs ++ xs') (ys ++ ys')
  | _, _, _, _, .nil, t => t
  | _, _, _, _, .cons r t, u => .cons r (paired_append t u)
theorem fnd_V {es : List EntV} {xs : List Ent} (r : Paired EV es xs) (k : NK) : fnd xs k = es.findIdx? fun e => decide (e.1 = k) := by
  unfold fnd
  induction r with
  | nil => rfl
  | cons p t ih => simp only [List.findIdx?_cons, ih, p.1]
theorem put_pair {es : List EntV} {xs : List Ent} (r : Paired EV es xs) {k : NK} {kx vx : V} {key v : Value} (rk : RelV kx key) (rv : RelV vx v) : Paired EV (putV es k kx vx) (putN xs k key v) := by
  unfold putV putN
  rw [fnd_V r]
  cases (es.findIdx? fun e => decide (e.1 = k)) with
  | some i => exact paired_modify (f := fun e : EntV => (e.1, e.2.1, vx)) (g := fun e : Ent => (e.1, e.2.1, v)) (fun a b h => ⟨h.1, h.2.1, rv⟩) r _
  | none => exact paired_append r (.cons (show EV (k, kx, vx) (k, key, v) from ⟨rfl, rk, rv⟩) .nil)
theorem putV_len (es : List EntV) (k : NK) (kx vx : V) : (putV es k kx vx).length ≤ es.length + 1 := by
  unfold putV
  split <;> simp
section
variable {X : Cx} {cls : Str → Option CI} {pins : List (Addr × Obj)} {σ : L2.St} {H : Hp} {s : Shared}
/-- d[k] = v, at the dict d that is told by its entries -/
theorem dset_at {d : Addr} {es : List EntV} {k : NK} {key v : Value} {kx vx : V} {E : Value → Shared → Prop} {Q : Hp → Prop} (hu : X.A.units + 100 < cLine) (I : Inv X pins σ H s) (h : H d = some (DicO X.w d es)) (ks : ∀ xs, DObj X.w s.heap d xs → Paired EV es xs → KsOk s.heap xs)
    (hkey : KIs s.heap k key) (rk : RelV kx key) (rv : RelV vx v) (hz : es.length < lim ∨ (es.findIdx? fun e => decide (e.1 = k)) ≠ none) (q : Q (upd H d (DicO X.w d (putV es k kx vx)))) :
    wpAny (model X.prog X.w) X.A (setItem (.ref d) key v) (fun _ s' => ∃ H', Inv X pins σ H' s' ∧ Q H') E s := by
  obtain ⟨hl, hs, xs, ho, hp⟩ := dic_at I (.inl h)
  have le : es.length = xs.length := paired_len hp
  refine setItem_N (by omega) hkey ho (ks xs ho hp) (by omega) fun h' ho' sb => ?_
  refine ⟨_, I.write (x := d) (e := d) (by rw [h]; trivial) (.inl rfl) (fun b u hb e => (sb.2 b hb).trans e) ?_ ?_, q⟩
  · obtain ⟨o, _, _, e, _⟩ := ho'; exact ⟨o, e⟩
  · refine dicO_ok ?_ hs ho' (put_pair hp rk rv)
    rcases hz with z | z
    · have := putV_len es k kx vx
      have := lim_lt z
      omega
    · unfold putV
      split
      · simpa using hl
      · rename_i e; exact absurd e z
end
theorem keys_append : ∀ {as bs : List D} {ks ls : List NK}, D.keys as = some ks → D.keys bs = some ls → D.keys (as ++ bs) = some (ks ++ ls)
  | [], _, _, _, h, h' => by cases h; exact h'
  | a :: as, bs, ks, ls, h, h' => by
    simp only [D.keys] at h
    cases hk : D.key a with
    | none => rw [hk] at h; cases h
    | some k =>
      cases hks : D.keys as with
      | none => rw [hk, hks] at h; cases h
      | some ks' =>
        rw [hk, hks] at h; cases h
        show D.keys (a :: (as ++ bs)) = _
        simp only [D.keys, hk, keys_append hks h']
        rfl
theorem modify_mapQ {α β : Type} (f : α → α) (g : α → β) (h : ∀ a, g (f a) = g a) : ∀ (l : List α) (i : Nat), (l.modify i f).map g = l.map g
  | [], i => by cases i <;> rfl
  | a :: l, 0 => by simp [h]
  | a :: l, i + 1 => by simp [modify_mapQ f g h l i]
theorem modify_map_set {α β : Type} (f : α → α) (g : α → β) (b : β) (h : ∀ a, g (f a) = b) : ∀ (l : List α) (i : Nat), (l.modify i f).map g = (l.map g).set i b
  | [], i => by cases i <;> rfl
  | a :: l, 0 => by simp [h]
  | a :: l, i + 1 => by simp [modify_map_set f g b h l i]
section
variable {G : Gx} {A : Al} {F : Hp}
/-- the data of a dict behind d[k] = v -/
theorem put_data {es : List EntV} {ks vs : List D} {k : NK} {kx vx : V} {kd vd : D} (h1 : Reps G A F (es.map (·.2.1)) ks) (h2 : Reps G A F (es.map (·.2.2)) vs) (h3 : D.keys ks = some (es.map (·.1))) (h4 : (es.map (·.1)).Nodup) (h5 : ∀ e ∈ es, e.1.depth ≤ 8)
    (hk : kd.kk = some k) (rk : Rep G A F kx kd) (rv : Rep G A F vx vd) {ks' vs' : List D} (e : (ks', vs') = match D.ixOf ks k with | some j => (ks, vs.set j vd) | none => (ks ++ [kd], vs ++ [vd])) :
    Reps G A F ((putV es k kx vx).map (·.2.1)) ks' ∧ Reps G A F ((putV es k kx vx).map (·.2.2)) vs' ∧ D.keys ks' = some ((putV es k kx vx).map (·.1)) ∧ ((putV es k kx vx).map (·.1)).Nodup ∧ ∀ e ∈ putV es k kx vx, e.1.depth ≤ 8 := by
  have ix : D.ixOf ks k = es.findIdx? fun e => decide (e.1 = k) := by
    rw [find_map_idx h3, List.findIdx?_map]; rfl
  rw [ix] at e
  unfold putV
  split at e
  · rename_i j ej
    injection e with e1 e2; subst e1; subst e2
    rw [modify_mapQ (fun e : EntV => (e.1, e.2.1, vx)) (fun e => e.2.1) (fun a => rfl), modify_mapQ (fun e : EntV => (e.1, e.2.1, vx)) (fun e => e.1) (fun a => rfl), modify_map_set (fun e : EntV => (e.1, e.2.1, vx)) (fun e => e.2.2) vx (fun a => rfl)]
    refine ⟨h1, h2.set j rv, h3, h4, fun x hx => ?_⟩
    have : x.1 ∈ (es.modify j fun e => (e.1, e.2.1, vx)).map (·.1) := List.mem_map.mpr ⟨x, hx, rfl⟩
    rw [modify_mapQ (fun e : EntV => (e.1, e.2.1, vx)) (fun e => e.1) (fun a => rfl)] at this
    obtain ⟨y, hy, hyx⟩ := List.mem_map.mp this
    rw [← hyx]; exact h5 y hy
  · rename_i ej
    injection e with e1 e2; subst e1; subst e2
    rw [List.map_append, List.map_append, List.map_append]
    refine ⟨h1.append (.cons rk .nil), h2.append (.cons rv .nil), keys_append h3 ?_, ?_, fun x hx => ?_⟩
    · simp only [D.keys, (kk_key hk).1]; rfl
    · rw [List.nodup_append]
      refine ⟨h4, by simp, fun a ha b hb hab => ?_⟩
      simp only [List.map_cons, List.map_nil, List.mem_singleton] at hb
      subst hb; subst hab
      obtain ⟨y, hy, hyx⟩ := List.mem_map.mp ha
      have := List.findIdx?_eq_none_iff.mp ej y hy
      simp [hyx] at this
    · rcases List.mem_append.mp hx with z | z
      · exact h5 x z
      · simp at z; subst z; exact (kk_key hk).2
end
def tSetZ (G : Gx) : TSet := fun o i v H Q => ∃ (B : Addr → Prop) (A : Al) (μ : Sto) (a b c : D) (μ' : Sto), RelS G B A H μ ∧ Rep G A (hide B H A μ) o a ∧ Rep G A (hide B H A μ) i b ∧ Rep G A (hide B H A μ) v c ∧ setO a b c μ = some μ' ∧
  ∀ H', RelS G B A H' μ' → Step B A H μ A H' μ' → Q H'
section
variable {X : Cx} {cls : Str → Option CI} {W : WX} {f a b : Ev D} {pos : Pos}
theorem set_z (hu : X.A.units + 100 < cLine) : PSet X (tSetZ (gx X cls)) := by
  intro pins s σ H o i v ov iv u Q I ro ri rv ⟨B, A, μ, x, y, c, μ', rel, ra, rb, rc, e, q⟩
  unfold setO at e
  split at e
  · rename_i h
    obtain ⟨p, hp, rfl⟩ := ra
    split at e
    · rename_i ds hn
      obtain ⟨pe, vs, h1, h2⟩ := rel.node h p _ hp hn
      split at e
      · rename_i k
        split at e
        · rename_i j hj
          obtain rfl := Option.some.inj e
          obtain rfl := show i = _ from rb
          obtain ⟨r1, st⟩ := rel.change (H' := upd H p.1 (.lst (vs.set j v))) hp hn (fun b hb _ => upd_ne hb) (n' := .lst (ds.set j c)) ⟨pe, _, upd_same, h2.set j rc⟩
          exact set_list pins s σ H _ _ v ov iv u Q I ro ri rv ⟨p.1, vs, k, j, rfl, rfl, h1, by rw [h2.length]; exact hj, q _ r1 st⟩
        · cases e
      · cases e
    · rename_i ks vs hn
      obtain ⟨pe, es, h1, h2, h3, h4, h5, h6⟩ := rel.node h p _ hp hn
      split at e
      · rename_i k hk
        obtain rfl := show ov = _ from ro
        have ix : D.ixOf ks k = es.findIdx? fun e => decide (e.1 = k) := by
          rw [find_map_idx h4, List.findIdx?_map]; rfl
        have hl : ks.length = es.length := by have := h2.length; simp at this; omega
        have go : ∀ ks' vs', (ks', vs') = (match D.ixOf ks k with | some j => (ks, vs.set j c) | none => (ks ++ [y], vs ++ [c])) → μ' = μ.set h (some (.dct ks' vs')) → (es.length < lim ∨ (es.findIdx? fun e => decide (e.1 = k)) ≠ none) →
            wpAny (model X.prog X.w) X.A (setItem (.ref p.1) iv u) (fun _ s' => ∃ H', Inv X pins σ H' s' ∧ Q H') X.xe s := fun ks' vs' e1 e2 hz => by
          obtain ⟨d1, d2, d3, d4, d5⟩ := put_data h2 h3 h4 h5 h6 hk rb rc e1
          obtain ⟨r1, st⟩ := rel.change (H' := upd H p.1 (DicO X.w p.1 (putV es k i v))) hp hn (fun b hb _ => upd_ne hb) (n' := .dct ks' vs') ⟨pe, _, upd_same, d1, d2, d3, d4, d5⟩
          subst e2
          exact dset_at hu I h1 (fun xs _ hx => ksOk_of I (G := gx X cls) rfl hide_sub hx h2 h4 h5 h6) (kis_of I hide_sub rb ri hk) ri rv hz (q _ r1 st)
        split at e
        · rename_i j hj
          obtain rfl := Option.some.inj e
          exact go _ _ (by rw [hj]) rfl (.inr (by rw [← ix, hj]; simp))
        · rename_i hj
          split at e
          · rename_i hlt
            obtain rfl := Option.some.inj e
            exact go _ _ (by rw [hj]) rfl (.inl (by omega))
          · cases e
      · cases e
    · cases e
  · cases e
theorem s_set {o i e : Expr} {k : Nat} {pos' : Pos} (z : ZX X W k) (ho : ZE X cls W o a) (hi : ZE X cls W i b) (he : ZE X cls W e f)
    (ha : ∀ v, assign (.Subscript o i pos') X.env v = (do
      let ov ← holding [v] (eval o X.env)
      let iv ← holding [v, ov] (eval i X.env)
      standAt pos'
      holding [v, ov, iv] (setItem ov iv v)
      release [v, ov, iv] []) := by intro _; rfl) (hs : swapsWithSole [.Subscript o i pos'] e pos.line X.env = pure false := by rfl) (hw : swappedStores [.Subscript o i pos'] e X.env = pure none := by rfl)
    (h1 : (assignEach [.Subscript o i pos'] X.env).map (·.2) = [assign (.Subscript o i pos') X.env] := by rfl) : ZS X cls W (.Assign [.Subscript o i pos'] e pos) (sSet f a b) :=
  PS.of (ps_asg he (pg_sub ho hi (set_z (cls := cls) z.u) ha) hs hw h1) fun E σ H ⟨B, A, ρ, μ, rel, re, w⟩ => tV_stepS rel re w fun v d A1 H1 μ1 _ r1 re1 p1 st w1 =>
    tV_stepS r1 re1 w1 fun x dx A2 H2 μ2 _ r2 re2 p2 st2 w2 => tV_stepS r2 re2 w2 fun y dy A3 H3 μ3 _ r3 re3 p3 st3 w3 => by
      unfold outM at w3
      split at w3
      · rename_i μ4 e4
        exact ⟨B, A3, μ3, dx, dy, d, μ4, r3, p2.mono st3.pre st3.sub, p3, p1.mono (st2.trans st3).pre (st2.trans st3).sub, e4, fun H4 r4 st4 => w3 σ A3 H4 r4 (re3.mono st4) st4⟩
      · exact w3.elim
end
end Z

/-! what loops and comprehensions walk -/
namespace Z
open PySem PySem.Spec PyProof.Rows L2 SlX

/-! ### a dict that is not changed any more -/
section
variable {X : Cx} {pins : List (Addr × Obj)} {σ : L2.St} {H : Hp} {s : Shared}
theorem frzN (I : Inv X pins σ H s) {d : Addr} {o : Obj} {es : List EntV} (h : H d = some (.frz o (DicO X.w d es))) :
    (d == sysModules) = false ∧ s.heap.get? d = some o ∧ o.ExactDict ∧ ∃ ar ep, o.data = .dict ar ep ∧ ar.size = es.length ∧ ∀ (i : Nat) e, es[i]? = some e → ∃ hi : i < ar.size, RelV e.2.1 ar[i].key ∧ RelV e.2.2 ar[i].val := by
  obtain ⟨h1, ⟨h2, h3, xs, ho, hp⟩, _⟩ := I.hok d _ h
  obtain ⟨o', ar, ep, e1, e2, e3, e4⟩ := ho
  rw [h1] at e1; cases e1
  have le : es.length = xs.length := paired_len hp
  have sz := ent_size e4
  refine ⟨h3, h1, e2, ar, ep, e3, by omega, fun i e he => ?_⟩
  have hlt := (List.getElem?_eq_some_iff.mp he).1
  have hx : xs[i]? = some xs[i] := List.getElem?_eq_getElem (by omega)
  obtain ⟨p, hp1, hp2⟩ := pairedEV_get hp hx
  rw [he] at hp1; cases hp1
  have hi : i < ar.size := by omega
  have ea := ent_at e4 i
  rw [hx, Array.getElem?_eq_getElem hi] at ea
  have ea : ar[i] = entN X.w xs[i] := Option.some.inj ea
  exact ⟨hi, by rw [ea]; exact hp2.2.1, by rw [ea]; exact hp2.2.2⟩
end
theorem raw_of {h : Heap} {d : Addr} {o : Obj} {ar : Array DictEntry} {ep : Nat} (h1 : h.get? d = some o) (h2 : o.ExactDict) (h3 : o.data = .dict ar ep) : h.DictRaw d ar ep := ⟨o, h1, h2, h3⟩
def ItK (w : World) (d : Addr) (o : Obj) (es : List EntV) : It :=
  ⟨fun i H => H d = some (.frz o (DicO w d es)) ∧ i < es.length, fun i H x H' => H' = H ∧ ∃ e, es[i]? = some e ∧ x = e.2.1, fun i H => H d = some (.frz o (DicO w d es)) ∧ es.length ≤ i⟩
def ItV (w : World) (d : Addr) (o : Obj) (es : List EntV) : It :=
  ⟨fun i H => H d = some (.frz o (DicO w d es)) ∧ i < es.length, fun i H x H' => H' = H ∧ ∃ e, es[i]? = some e ∧ x = e.2.2, fun i H => H d = some (.frz o (DicO w d es)) ∧ es.length ≤ i⟩
def ItI (w : World) (d : Addr) (o : Obj) (es : List EntV) : It :=
  ⟨fun i H => H d = some (.frz o (DicO w d es)) ∧ i < es.length, fun i H x H' => ∃ T e, es[i]? = some e ∧ x = .ref T ∧ H T = none ∧ H' = upd H T (.tup [e.2.1, e.2.2]), fun i H => H d = some (.frz o (DicO w d es)) ∧ es.length ≤ i⟩
section
variable {P : Program} {w : World} {K : PySem.W.Frag} {tg : Expr} {d : Addr} {o : Obj} {ar : Array DictEntry} {ep : Nat} {es : List EntV}
theorem turnK (it : Addr) (hod : o.data = .dict ar ep) (hsz : ar.size = es.length) : Turn P w K tg (ItK w d o es) [it] it (fun i h => h.IsKeyIter it d i ar.size ep) where
  mem := by simp
  obj := fun i h st b hb => by
    have e : b = it := by simpa using hb
    subst e
    obtain ⟨oi, e, c, dd⟩ := st
    exact ⟨oi, e, fun v z => by rw [dd] at z; cases z⟩
  keep := fun i h h' st k => st.at fun oi e => k it (by simp) oi e
  item := by
    intro X hP hw hK hc i pins s σ H E I hf st hg
    subst hP hw hK
    obtain ⟨hd, hi⟩ := hg
    obtain ⟨f0, f1, f2, f3, f4, f5⟩ := hf it (by simp)
    obtain ⟨hs, hgd, hx, ar', ep', hdt, hsz', hrel⟩ := frzN I hd
    obtain ⟨rfl, rfl⟩ := dict_ep hod hdt
    obtain ⟨hia, r1, _⟩ := hrel i _ (List.getElem?_eq_getElem hi)
    refine wpAny_pyNext_keys_item_raw st (raw_of hgd hx hdt) hia fun h' st' sb => ?_
    have I1 : Inv X pins σ H { s with heap := h' } := I.turned (t' := s.toks) (fun b ob hb e => (sb.2 b hb).trans e) f0 f1 f3 f4 f5
    obtain ⟨oi, e, c, dd⟩ := id st'
    exact ⟨_, rfl, go_of (s := { s with heap := h' }) e c dd (by decide) ⟨_, H, I1, r1, ⟨rfl, _, List.getElem?_eq_getElem hi, rfl⟩, st', fun b hb => (hf b hb).1⟩⟩
  done := by
    intro X hP hw hK hc i pins s σ H E I hf st hg
    subst hP hw hK
    obtain ⟨hd, hi⟩ := hg
    obtain ⟨f0, f1, f2, f3, f4, f5⟩ := hf it (by simp)
    obtain ⟨hs, hgd, hx, ar', ep', hdt, hsz', hrel⟩ := frzN I hd
    obtain ⟨rfl, rfl⟩ := dict_ep hod hdt
    exact wpAny_pyNext_keys_end_raw (I.ok.hd hc) st (raw_of hgd hx hdt) (by omega) fun h' eb => ⟨rfl, I.turned (t' := s.toks) (fun b ob hb e => eb b ob hb e) f0 f1 f3 f4 f5⟩
  self := fun A i s Q E st h => wpAny_pyIter_keyiter st h
theorem turnV (it : Addr) (hod : o.data = .dict ar ep) (hsz : ar.size = es.length) : Turn P w K tg (ItV w d o es) [it] it (fun i h => h.IsValIter it d i ar.size ep) where
  mem := by simp
  obj := fun i h st b hb => by
    have e : b = it := by simpa using hb
    subst e
    obtain ⟨oi, e, c, dd⟩ := st
    exact ⟨oi, e, fun v z => by rw [dd] at z; cases z⟩
  keep := fun i h h' st k => st.at fun oi e => k it (by simp) oi e
  item := by
    intro X hP hw hK hc i pins s σ H E I hf st hg
    subst hP hw hK
    obtain ⟨hd, hi⟩ := hg
    obtain ⟨f0, f1, f2, f3, f4, f5⟩ := hf it (by simp)
    obtain ⟨hs, hgd, hx, ar', ep', hdt, hsz', hrel⟩ := frzN I hd
    obtain ⟨rfl, rfl⟩ := dict_ep hod hdt
    obtain ⟨hia, _, r1⟩ := hrel i _ (List.getElem?_eq_getElem hi)
    refine wpAny_pyNext_values_item_raw st (raw_of hgd hx hdt) hia fun h' st' sb => ?_
    have I1 : Inv X pins σ H { s with heap := h' } := I.turned (t' := s.toks) (fun b ob hb e => (sb.2 b hb).trans e) f0 f1 f3 f4 f5
    obtain ⟨oi, e, c, dd⟩ := id st'
    exact ⟨_, rfl, go_of (s := { s with heap := h' }) e c dd (by decide) ⟨_, H, I1, r1, ⟨rfl, _, List.getElem?_eq_getElem hi, rfl⟩, st', fun b hb => (hf b hb).1⟩⟩
  done := by
    intro X hP hw hK hc i pins s σ H E I hf st hg
    subst hP hw hK
    obtain ⟨hd, hi⟩ := hg
    obtain ⟨f0, f1, f2, f3, f4, f5⟩ := hf it (by simp)
    obtain ⟨hs, hgd, hx, ar', ep', hdt, hsz', hrel⟩ := frzN I hd
    obtain ⟨rfl, rfl⟩ := dict_ep hod hdt
    exact wpAny_pyNext_values_end_raw (I.ok.hd hc) st (raw_of hgd hx hdt) (by omega) fun h' eb => ⟨rfl, I.turned (t' := s.toks) (fun b ob hb e => eb b ob hb e) f0 f1 f3 f4 f5⟩
  self := fun A i s Q E st h => wpAny_pyIter_valiter st h
theorem turnI {elts : List Expr} {kk : Nat} {tpos : Pos} (it : Addr) (hod : o.data = .dict ar ep) (hsz : ar.size = es.length) :
    Turn P w K (.Tuple elts kk tpos) (ItI w d o es) [it] it (fun i h => ∃ ok ov, IsItemIter h it d i ar.size ep ok ov) where
  mem := by simp
  obj := fun i h st b hb => by
    have e : b = it := by simpa using hb
    subst e
    obtain ⟨ok, ov, e⟩ := st
    exact ⟨_, e, fun v z => nomatch z⟩
  keep := fun i h h' st k => let ⟨ok, ov, e⟩ := st; ⟨ok, ov, k it (by simp) _ e⟩
  item := by
    intro X hP hw hK hc i pins s σ H E I hf st hg
    subst hP hw hK
    obtain ⟨hd, hi⟩ := hg
    obtain ⟨hs, hgd, hx, ar', ep', hdt, hsz', hrel⟩ := frzN I hd
    obtain ⟨rfl, rfl⟩ := dict_ep hod hdt
    obtain ⟨hia, r1, r2⟩ := hrel i _ (List.getElem?_eq_getElem hi)
    obtain ⟨ok, ov, he⟩ := st
    have hlt : it < s.heap.objs.size := Heap.lt_size he
    refine wpAny_pyNext_items_item_raw he (raw_of hgd hx hdt) hia fun h' ho hT hz hk => ?_
    refine ⟨_, rfl, wpAny_letOwnedTupleGo_items (s := { s with heap := h' }) ho fun h'' he' sb => ?_⟩
    have hT2 : h''.get? s.heap.objs.size = some { cls := .type "tuple", data := .seq #[ar'[i].key, ar'[i].val] } := (sb.2 _ (Nat.ne_of_gt hlt)).trans hT
    have new : ObjOk X.prog X.w (upd H s.heap.objs.size (.tup [es[i].2.1, es[i].2.2])) h'' s.heap.objs.size (.tup [es[i].2.1, es[i].2.2]) :=
      ⟨by show 2 ≤ sizeLine; decide, [ar'[i].key, ar'[i].val], .cons r1 (.cons r2 .nil), ⟨_, hT2, rfl, _, rfl⟩⟩
    have I1 : Inv X pins σ (upd H s.heap.objs.size (.tup [es[i].2.1, es[i].2.2])) { s with heap := h'' } :=
      I.turnedNew (t' := s.toks) (ch := [it]) (fun b ob hb e => (sb.2 b (by simpa using hb)).trans (hk b ob (by simpa using hb) e)) hf (Nat.le_refl _) new
    refine ⟨.ref s.heap.objs.size, _, I1, rfl, ⟨_, _, List.getElem?_eq_getElem hi, rfl, I.hok.fresh (Nat.le_refl _), rfl⟩, ⟨_, _, he'⟩, fun b hb => ?_⟩
    have e : b = it := by simpa using hb
    rw [e, upd_ne (Nat.ne_of_lt hlt)]
    exact (hf it (by simp)).1
  done := by
    intro X hP hw hK hc i pins s σ H E I hf st hg
    subst hP hw hK
    obtain ⟨hd, hi⟩ := hg
    obtain ⟨f0, f1, f2, f3, f4, f5⟩ := hf it (by simp)
    obtain ⟨hs, hgd, hx, ar', ep', hdt, hsz', hrel⟩ := frzN I hd
    obtain ⟨rfl, rfl⟩ := dict_ep hod hdt
    obtain ⟨ok, ov, he⟩ := st
    exact wpAny_pyNext_items_end_raw (I.ok.hd hc) he (raw_of hgd hx hdt) (by omega) fun h' eb => ⟨rfl, I.turned (t' := s.toks) (fun b ob hb e => eb b ob hb e) f0 f1 f3 f4 f5⟩
  self := fun A i s Q E st h => let ⟨_, _, e⟩ := st; PySem.W.kcp_self e h
end

/-! ### the readings -/
/-- what is walked of a value -/
def srcO (d : D) (μ : Sto) : Option Srcs := match d with
  | .tup ds => some (ds, none)
  | .lst ds => some (ds, none)
  | .dct ks _ => some (ks, none)
  | .str x => some (x.cps.toList.map fun c => .str ⟨#[c]⟩, none)
  | .hd h => match μ[h]? with
    | some (some (.lst ds)) => some (ds, some h)
    | _ => none
  | _ => none
def okO {α : Type} (o : Option α) (μ : Sto) : Res α := match o with
  | some a => .ok a μ
  | none => .bad
def zSrc (f : Ev D) : Ev Srcs := fun ρ μ => (f ρ μ).bind fun d μ1 => okO (srcO d μ1) μ1
def valsO (d : D) : Option Srcs := match d with | .dct _ vs => some (vs, none) | _ => none
def itemsO (d : D) : Option Srcs := match d with | .dct ks vs => some ((ks.zip vs).map fun p => .tup [p.1, p.2], none) | _ => none
def zVals (f : Ev D) : Ev Srcs := fun ρ μ => (f ρ μ).bind fun d μ1 => okO (valsO d) μ1
def zItems (f : Ev D) : Ev Srcs := fun ρ μ => (f ρ μ).bind fun d μ1 => okO (itemsO d) μ1
def rng1O (ds : List D) : Option Srcs := match ds with
  | [.int j] => if -(2 ^ 62) ≤ j ∧ j < 2 ^ 62 then some ((List.range j.toNat).map fun i : Nat => .int i, none) else none
  | _ => none
def rng2O (ds : List D) : Option Srcs := match ds with
  | [.int i, .int j] => if -(2 ^ 62) ≤ i ∧ i < 2 ^ 62 ∧ -(2 ^ 62) ≤ j ∧ j < 2 ^ 62 then some ((List.range (j - i).toNat).map fun n : Nat => .int (i + n), none) else none
  | _ => none
def zRng1 (f : Ev (List D)) : Ev Srcs := fun ρ μ => (f ρ μ).bind fun ds μ1 => okO (rng1O ds) μ1
def zRng2 (f : Ev (List D)) : Ev Srcs := fun ρ μ => (f ρ μ).bind fun ds μ1 => okO (rng2O ds) μ1
section
variable {G : Gx} {A : Al} {F : Hp}
/-- a walk that makes nothing new, over what does not change -/
theorem IterOk.plain {J : It} {ds : List D} {vs : List V} (P : Hp → Prop) (hP : ∀ B A H μ, RelS G B A H μ → Sub F (hide B H A μ) → P H) (hv : Reps G A F vs ds)
    (go : ∀ H i v, P H → vs[i]? = some v → J.go i H) (yl : ∀ H i x H', i < vs.length → P H → J.yld i H x H' → H' = H ∧ vs[i]? = some x) (st : ∀ H i, P H → vs.length ≤ i → J.stop i H) : IterOk G A F J (ds, none) := by
  intro B A' H μ rel pa pf _ i
  have p := hP B A' H μ rel pf
  refine ⟨fun d hd => ?_, fun hi => st H i p (by rw [hv.length]; exact hi)⟩
  obtain ⟨v, h1, h2⟩ := hv.get hd
  refine ⟨go H i v p h1, fun x H3 y => ?_⟩
  obtain ⟨rfl, h3⟩ := yl H i x H3 (List.getElem?_eq_some_iff.mp h1).1 p y
  rw [h1] at h3; cases h3
  exact ⟨A', rel, Step.refl _ _ _ _, h2.mono pa pf⟩
end
section
variable {X : Cx} {cls : Str → Option CI} {W : WX} {tg e c : Expr} {es : List Expr} {f : Ev D} {fs : Ev (List D)} {p pos apos cpos : Pos}
theorem okO_want {α α' β' : Type} {R' : Al → Hp → β' → α' → Prop} {o : Option α} {G : Gx} {B : Addr → Prop} {A : Al} {H : Hp} {μ : Sto} {σ : L2.St} {Q : β' → Hp → Prop} {k : α → Sto → Res α'} (w : Want G W R' B A H μ σ ((okO o μ).bind k) Q) : ∃ a, o = some a ∧ Want G W R' B A H μ σ (k a μ) Q := by
  unfold okO at w
  split at w
  · exact ⟨_, rfl, w⟩
  · exact w.elim
theorem okO_want1 {α β : Type} {R : Al → Hp → β → α → Prop} {o : Option α} {G : Gx} {B : Addr → Prop} {A : Al} {H : Hp} {μ : Sto} {σ : L2.St} {Q : β → Hp → Prop} (w : Want G W R B A H μ σ (okO o μ) Q) : ∃ a, o = some a ∧ ∀ v, R A (hide B H A μ) v a → RelS G B A H μ → Q v H := by
  unfold okO at w
  split at w
  · exact ⟨_, rfl, fun v r rel => w v A H rel r (Step.refl _ _ _ _)⟩
  · exact w.elim
theorem sql_mono {K : PySem.W.Frag} {F H : Hp} {B : Addr → Prop} {A : Al} {μ : Sto} {a : Addr} {xs : List V} (h : SqL K F a xs) (s : Sub F (hide B H A μ)) : SqL K H a xs := hide_sub.sql (s.sql h)
theorem iter_lst {G : Gx} {A : Al} {F : Hp} {a : Addr} {vs : List V} {ds : List D} (h : SqL G.K F a vs) (r : Reps G A F vs ds) : IterOk G A F (Itl G.K a) (ds, none) :=
  IterOk.plain (fun H => SqL G.K H a vs) (fun B A H μ _ pf => sql_mono h pf) r (fun H i v q e => ⟨vs, v, q, e⟩) (fun H i x H' _ q y => ⟨y.1, y.2 vs q⟩) (fun H i q e => ⟨vs, q, e⟩)
theorem iter_tup {G : Gx} {A : Al} {F : Hp} {a : Addr} {vs : List V} {ds : List D} (h : SqT G.K F a vs) (r : Reps G A F vs ds) : IterOk G A F (Itt G.K a) (ds, none) :=
  IterOk.plain (fun H => SqT G.K H a vs) (fun B A H μ _ pf => hide_sub.sqt (pf.sqt h)) r (fun H i v q e => ⟨vs, v, q, e⟩) (fun H i x H' _ q y => ⟨y.1, y.2 vs q⟩) (fun H i q e => ⟨vs, q, e⟩)
theorem iter_hd {G : Gx} {A : Al} {F : Hp} {h : Nat} {p : Addr × Addr} {ds : List D} (hp : A[h]? = some p) : IterOk G A F (Itl G.K p.1) (ds, some h) := by
  intro B A' H μ rel pa pf g i
  have g : μ[h]? = some (some (.lst ds)) := g
  obtain ⟨_, vs, h1, h2⟩ := rel.node h p _ (pa h p hp) g
  have q : SqL G.K H p.1 vs := SqL.of h1
  refine ⟨fun d hd => ?_, fun hi => ⟨vs, q, by rw [h2.length]; exact hi⟩⟩
  obtain ⟨v, e1, e2⟩ := h2.get hd
  refine ⟨⟨vs, v, q, e1⟩, fun x H3 y => ?_⟩
  obtain ⟨rfl, h3⟩ := y
  have h3 := h3 vs q
  rw [e1] at h3; cases h3
  exact ⟨A', rel, Step.refl _ _ _ _, e2⟩
theorem reps_map {G : Gx} {A : Al} {F : Hp} {α : Type} (g : α → V) (k : α → D) (h : ∀ a, Rep G A F (g a) (k a)) : ∀ l : List α, Reps G A F (l.map g) (l.map k)
  | [] => rfl
  | a :: l => ⟨g a, l.map g, rfl, h a, reps_map g k h l⟩
theorem iter_str {G : Gx} {A : Al} {F : Hp} {x : Str} : IterOk G A F (Its x) (x.cps.toList.map fun c => .str ⟨#[c]⟩, none) :=
  IterOk.plain (fun _ => True) (fun _ _ _ _ _ _ => trivial) (reps_map (fun c => V.str ⟨#[c]⟩) (fun c => D.str ⟨#[c]⟩) (fun _ => rfl) x.cps.toList)
    (fun H i v _ e => by
      have := (List.getElem?_eq_some_iff.mp e).1
      exact (by simpa using this : i < x.cps.size))
    (fun H i v H' hi _ y => ⟨y.1, by
      obtain ⟨_, c, h1, h2⟩ := y
      rw [List.getElem?_map, Array.getElem?_toList, h1, h2]; rfl⟩)
    (fun H i _ e => by
      have e' : x.cps.size ≤ i := by simpa using e
      exact e')
theorem iter_rng {G : Gx} {A : Al} {F : Hp} {lo : Int} {n : Nat} : IterOk G A F (Itr lo n) ((List.range n).map fun i : Nat => .int (lo + i), none) :=
  IterOk.plain (fun _ => True) (fun _ _ _ _ _ _ => trivial) (reps_map (fun i : Nat => V.int (lo + i)) (fun i : Nat => D.int (lo + i)) (fun _ => rfl) (List.range n))
    (fun H i v _ e => by
      have := (List.getElem?_eq_some_iff.mp e).1
      exact (by simpa using this : i < n))
    (fun H i v H' hi _ y => ⟨y.1, by
      obtain ⟨_, h2⟩ := y
      rw [List.getElem?_map, List.getElem?_range (by simpa using hi), h2]; rfl⟩)
    (fun H i _ e => by
      have e' : n ≤ i := by simpa using e
      exact e')
theorem iter_dct {G : Gx} {A : Al} {F : Hp} {d : Addr} {o : Obj} {es : List EntV} {ks : List D} (h : F d = some (.frz o (DicO G.w d es))) (r : Reps G A F (es.map (·.2.1)) ks) : IterOk G A F (ItK G.w d o es) (ks, none) :=
  IterOk.plain (fun H => H d = some (.frz o (DicO G.w d es))) (fun B A H μ _ pf => hide_sub _ _ (pf _ _ h)) r
    (fun H i v q e => ⟨q, by have := (List.getElem?_eq_some_iff.mp e).1; simpa using this⟩)
    (fun H i x H' _ q y => ⟨y.1, by obtain ⟨_, e, h1, h2⟩ := y; rw [List.getElem?_map, h1, h2]; rfl⟩)
    (fun H i q e => ⟨q, by simpa using e⟩)
theorem iter_vals {G : Gx} {A : Al} {F : Hp} {d : Addr} {o : Obj} {es : List EntV} {vs : List D} (h : F d = some (.frz o (DicO G.w d es))) (r : Reps G A F (es.map (·.2.2)) vs) : IterOk G A F (ItV G.w d o es) (vs, none) :=
  IterOk.plain (fun H => H d = some (.frz o (DicO G.w d es))) (fun B A H μ _ pf => hide_sub _ _ (pf _ _ h)) r
    (fun H i v q e => ⟨q, by have := (List.getElem?_eq_some_iff.mp e).1; simpa using this⟩)
    (fun H i x H' _ q y => ⟨y.1, by obtain ⟨_, e, h1, h2⟩ := y; rw [List.getElem?_map, h1, h2]; rfl⟩)
    (fun H i q e => ⟨q, by simpa using e⟩)
theorem iter_items {G : Gx} {A : Al} {F : Hp} {d : Addr} {o : Obj} {es : List EntV} {ks vs : List D} (h : F d = some (.frz o (DicO G.w d es))) (r1 : Reps G A F (es.map (·.2.1)) ks) (r2 : Reps G A F (es.map (·.2.2)) vs) :
    IterOk G A F (ItI G.w d o es) ((ks.zip vs).map fun p => .tup [p.1, p.2], none) := by
  intro B A' H μ rel pa pf _ i
  have q : H d = some (.frz o (DicO G.w d es)) := hide_sub _ _ (pf _ _ h)
  have l1 := r1.length
  have l2 := r2.length
  simp only [List.length_map] at l1 l2
  refine ⟨fun e he => ?_, fun hi => ⟨q, by simp only [List.length_map, List.length_zip] at hi; omega⟩⟩
  rw [List.getElem?_map, Option.map_eq_some_iff] at he
  obtain ⟨⟨k, v⟩, h1, rfl⟩ := he
  rw [List.getElem?_zip_eq_some] at h1
  obtain ⟨u1, e1, p1⟩ := r1.get h1.1
  obtain ⟨u2, e2, p2⟩ := r2.get h1.2
  refine ⟨⟨q, by have := (List.getElem?_eq_some_iff.mp e1).1; simpa using this⟩, fun x H3 y => ?_⟩
  obtain ⟨T, en, h3, rfl, hT, rfl⟩ := y
  rw [List.getElem?_map, h3] at e1 e2
  obtain rfl := Option.some.inj e1
  obtain rfl := Option.some.inj e2
  obtain ⟨r1', st, hh⟩ := rel.frozen (o := .tup [en.2.1, en.2.2]) hT
  exact ⟨A', r1', st, rep_tup hh st.sub (.cons (p1.mono pa pf) (.cons (p2.mono pa pf) .nil))⟩

/-- what a value is walked as -/
theorem i_val (he : ZE X cls W e f) : ZI X cls W tg e (zSrc f) := by
  refine ⟨fun pins s σ H R I ⟨B, A, ρ, μ, rel, re, w⟩ => ev1 he I rel re w fun v s1 x d A1 H1 μ1 I1 rx r1 re1 p1 st w1 => ?_⟩
  obtain ⟨pr, e1, q⟩ := okO_want1 w1
  have q := fun v r => q v r r1
  unfold srcO at e1
  split at e1
  · obtain rfl := Option.some.inj e1
    obtain ⟨a, vs, rfl, h1, h2⟩ := p1
    cases rx
    obtain ⟨its, rv, pp, hz⟩ := I1.tuple (hide_sub.sqt h1)
    refine wpAny_pyIter_tuple (show s1.heap.IsTuple a its.toArray from pp) ?_
    exact pi_one (tk := s1.toks) I1 _ (turn_tuple a _) ⟨_, Heap.get?_push_size _ rfl, rfl, rfl⟩ (q _ (iter_tup h1 h2))
  · obtain rfl := Option.some.inj e1
    obtain ⟨a, vs, rfl, h1, h2⟩ := p1
    cases rx
    obtain ⟨its, rv, pp, hz⟩ := I1.list (hide_sub.sql h1)
    refine wpAny_pyIter_list pp.isList ?_
    exact pi_one (tk := s1.toks) I1 _ (turn_list a _) ⟨_, Heap.get?_push_size _ rfl, rfl, rfl⟩ (q _ (iter_lst h1 h2))
  · obtain rfl := Option.some.inj e1
    obtain ⟨d, es, rfl, ⟨o, h1⟩, h2, h3, _⟩ := p1
    obtain rfl : v = Value.ref d := rx
    obtain ⟨hs, hgd, hx, ar, ep, hdt, hsz, hrel⟩ := frzN I1 (hide_sub _ _ h1)
    exact iter_keys hs hgd hx hdt (pi_one (tk := s1.toks) I1 _ (turnK _ hdt hsz) ⟨_, Heap.get?_push_size _ rfl, rfl, rfl⟩ (q _ (iter_dct h1 h2)))
  · rename_i y
    obtain rfl := Option.some.inj e1
    obtain rfl := show x = _ from p1
    obtain ⟨t, rfl⟩ := rx
    cases ha : y.cps.all (· < 128)
    · exact wpAny_pyIter_wide ha (pi_one (tk := s1.toks) I1 _ (turn_str _ y t "str_iterator" (.inr rfl)) ⟨_, Heap.get?_push_size _ rfl, rfl, rfl⟩ (q _ iter_str))
    · exact wpAny_pyIter_ascii ha (pi_one (tk := s1.toks) I1 _ (turn_str _ y t "str_ascii_iterator" (.inl rfl)) ⟨_, Heap.get?_push_size _ rfl, rfl, rfl⟩ (q _ iter_str))
  · rename_i h
    split at e1
    · rename_i ds hn
      obtain rfl := Option.some.inj e1
      obtain ⟨p, hp, rfl⟩ := p1
      cases rx
      obtain ⟨_, vs, h1, h2⟩ := r1.node h p _ hp hn
      obtain ⟨its, rv, pp, hz⟩ := I1.list (SqL.of (K := X.K) h1)
      refine wpAny_pyIter_list pp.isList ?_
      exact pi_one (tk := s1.toks) I1 _ (turn_list p.1 _) ⟨_, Heap.get?_push_size _ rfl, rfl, rfl⟩ (q _ (iter_hd hp))
    · cases e1
  · cases e1
theorem i_rng1 {a : Expr} (hg : Gl X "range") (hm : X.mg "range" = none) (ha : ZA X cls W [a] fs) (hs : starEach [a] X.env = [(false, eval a X.env)] := by rfl) : ZI X cls W tg (.Call (.Name "range" p) [a] [] pos) (zRng1 fs) := by
  refine ⟨fun pins s σ H R I h => (pi_range1 hg hm ha hs).run pins s σ H R I ?_⟩
  obtain ⟨B, A, ρ, μ, rel, re, w⟩ := h
  refine tV_step rel re w fun vs ds A1 H1 μ1 hev r1 re1 p1 st w1 => ?_
  clear hev
  obtain ⟨pr, e1, q⟩ := okO_want1 w1
  unfold rng1O at e1
  split at e1
  · rename_i n
    split at e1
    · rename_i hb
      obtain rfl := Option.some.inj e1
      obtain ⟨v, r, rfl, rfl, rfl⟩ := p1
      have := iter_rng (G := gx X cls) (A := A1) (F := hide B H1 A1 μ1) (lo := 0) (n := n.toNat)
      simp only [Int.zero_add] at this
      exact ⟨n, rfl, hb.1, hb.2, q _ this r1⟩
    · cases e1
  · cases e1
theorem i_rng2 {a b : Expr} (hg : Gl X "range") (hm : X.mg "range" = none) (ha : ZA X cls W [a, b] fs) (hs : starEach [a, b] X.env = [(false, eval a X.env), (false, eval b X.env)] := by rfl) (hs2 : starEach [b] X.env = [(false, eval b X.env)] := by rfl) :
    ZI X cls W tg (.Call (.Name "range" p) [a, b] [] pos) (zRng2 fs) := by
  refine ⟨fun pins s σ H R I h => (pi_range2 hg hm ha hs hs2).run pins s σ H R I ?_⟩
  obtain ⟨B, A, ρ, μ, rel, re, w⟩ := h
  refine tV_step rel re w fun vs ds A1 H1 μ1 hev r1 re1 p1 st w1 => ?_
  clear hev
  obtain ⟨pr, e1, q⟩ := okO_want1 w1
  unfold rng2O at e1
  split at e1
  · rename_i n m
    split at e1
    · rename_i hb
      obtain rfl := Option.some.inj e1
      obtain ⟨v, r, rfl, rfl, v2, r2, rfl, rfl, rfl⟩ := p1
      exact ⟨n, m, rfl, hb, q _ iter_rng r1⟩
    · cases e1
  · cases e1
/-- the values, the pairs of a dict -/
theorem i_vals (he : ZE X cls W e f) (hbase : attributeBase e "values" X.env (eval e X.env) = eval e X.env := by rfl) (hline : (apos.endLine == cpos.line) = true := by rfl) : ZI X cls W tg (.Call (.Attribute e "values" apos) [] [] cpos) (zVals f) := by
  refine ⟨fun pins s σ H R I ⟨B, A, ρ, μ, rel, re, w⟩ => ?_⟩
  refine wpAny_Call_method (T := "dict") (id := "dict.values") hbase rfl hline F.plainAttrs_dict F.slot_dict_values F.type_dict_values (ev1 he I rel re w fun u s1 x d A1 H1 μ1 I1 rx r1 re1 p1 st w1 => ?_)
  obtain ⟨pr, e1, q⟩ := okO_want1 w1
  have q := fun v r => q v r r1
  unfold valsO at e1
  split at e1
  · obtain rfl := Option.some.inj e1
    obtain ⟨d, es, rfl, ⟨o, h1⟩, h2, h3, _⟩ := p1
    obtain rfl : u = Value.ref d := rx
    obtain ⟨hs, hgd, hx, ar, ep, hdt, hsz, hrel⟩ := frzN I1 (hide_sub _ _ h1)
    have hm : s1.heap.DictRaw d ar ep := raw_of hgd hx hdt
    refine ⟨hm.typeIs, fun a ea => ⟨o, by cases ea; exact hgd, hx.2.1⟩, ?_⟩
    have I2 : Inv X pins σ H1 { s1 with heap := s1.heap.push { cls := .type "dict_values", data := .fields #[.ref d] } } := I1.kept (t' := s1.toks) fun b ob q => Heap.get?_push_of_some _ q
    have fin : wpAny (model X.prog X.w) X.A (pyIter (.ref s1.heap.objs.size)) (PIE X pins σ tg R) X.xe { s1 with heap := s1.heap.push { cls := .type "dict_values", data := .fields #[.ref d] } } := by
      exact wpAny_pyIter_values_raw (d := d) ⟨_, Heap.get?_push_size _ rfl, rfl, rfl⟩ (hm.at fun o e => Heap.get?_push_of_some _ e) (pi_one (tk := s1.toks) I2 _ (turnV _ hdt hsz) ⟨_, Heap.get?_push_size _ rfl, rfl, rfl⟩ (q _ (iter_vals h1 h3)))
    show wpAny _ _ (callWith cpos (.builtin "dict.values") [.ref d] [] []) _ X.xe s1
    exact method_meetsIn F.slot_dict_values F.entry_dict_values rfl (PySem.evalArgs_none ⟨rfl, hm.typeIs, F.args_dict_values_1 _, _, meets_dict_values_raw d hs, ⟨⟨ar, ep, hm⟩, fin⟩⟩)
  · cases e1
theorem i_items {elts : List Expr} {kk : Nat} {tpos : Pos} (he : ZE X cls W e f) (hbase : attributeBase e "items" X.env (eval e X.env) = eval e X.env := by rfl) (hline : (apos.endLine == cpos.line) = true := by rfl) :
    ZI X cls W (.Tuple elts kk tpos) (.Call (.Attribute e "items" apos) [] [] cpos) (zItems f) := by
  refine ⟨fun pins s σ H R I ⟨B, A, ρ, μ, rel, re, w⟩ => ?_⟩
  refine wpAny_Call_method (T := "dict") (id := "dict.items") hbase rfl hline F.plainAttrs_dict F.slot_dict_items F.type_dict_items (ev1 he I rel re w fun u s1 x d A1 H1 μ1 I1 rx r1 re1 p1 st w1 => ?_)
  obtain ⟨pr, e1, q⟩ := okO_want1 w1
  have q := fun v r => q v r r1
  unfold itemsO at e1
  split at e1
  · obtain rfl := Option.some.inj e1
    obtain ⟨d, es, rfl, ⟨o, h1⟩, h2, h3, _⟩ := p1
    obtain rfl : u = Value.ref d := rx
    obtain ⟨hs, hgd, hx, ar, ep, hdt, hsz, hrel⟩ := frzN I1 (hide_sub _ _ h1)
    have hm : s1.heap.DictRaw d ar ep := raw_of hgd hx hdt
    refine ⟨hm.typeIs, fun a ea => ⟨o, by cases ea; exact hgd, hx.2.1⟩, ?_⟩
    have I2 : Inv X pins σ H1 { s1 with heap := s1.heap.push { cls := .type "dict_items", data := .fields #[.ref d] } } := I1.kept (t' := s1.toks) fun b ob q => Heap.get?_push_of_some _ q
    have fin : wpAny (model X.prog X.w) X.A (pyIter (.ref s1.heap.objs.size)) (PIE X pins σ (.Tuple elts kk tpos) R) X.xe { s1 with heap := s1.heap.push { cls := .type "dict_items", data := .fields #[.ref d] } } := by
      exact wpAny_pyIter_items_raw (d := d) ⟨_, Heap.get?_push_size _ rfl, rfl, rfl⟩ (hm.at fun o e => Heap.get?_push_of_some _ e) (pi_one (tk := s1.toks) I2 _ (turnI _ hdt hsz) ⟨.none, .none, Heap.get?_push_size _ rfl⟩ (q _ (iter_items h1 h2 h3)))
    show wpAny _ _ (callWith cpos (.builtin "dict.items") [.ref d] [] []) _ X.xe s1
    exact method_meetsIn F.slot_dict_items F.entry_dict_items rfl (PySem.evalArgs_none ⟨rfl, hm.typeIs, F.args_dict_items_1 _, _, meets_dict_items_raw d hs, ⟨⟨ar, ep, hm⟩, fin⟩⟩)
  · cases e1
end
end Z

/-! comprehensions -/
namespace Z
open PySem PySem.Spec PyProof.Rows L2 SlX

abbrev W0 : WX := fun _ _ _ _ => False
theorem takes00 {X : Cx} : Takes X W0 := fun _ _ x => by
  obtain ⟨_, _, _, _, _, _, _, _, _, _, _, _, _, _, _, _, z⟩ := x
  exact z.elim
theorem ZX.blk {X : Cx} {W : WX} {k : Nat} (z : ZX X W k) (s : Shared) (H : Hp) (scope : Scope) (cenv : Env) (fp : List Addr) : ZX (X.blk s H scope cenv fp) W0 k := ⟨z.calm, z.nd, z.room, takes00, PassesOwn.never⟩

def wipeE (ρ : Env') : List Nat → Env'
  | [] => ρ
  | v :: vs => (wipeE ρ vs).set v none
theorem wipeE_length (ρ : Env') : ∀ vs : List Nat, (wipeE ρ vs).length = ρ.length
  | [] => rfl
  | v :: vs => by unfold wipeE; rw [List.length_set, wipeE_length ρ vs]
theorem RelE.clear {G : Gx} {A : Al} {F : Hp} {σ : L2.St} {ρ : Env'} (i : Nat) (h : RelE G A F σ ρ) : RelE G A F (σ.set i none) (ρ.set i none) := by
  refine ⟨by simp [h.1], fun j e hj => ?_⟩
  by_cases z : j = i
  · subst z
    have hl : j < ρ.length := by have := (List.getElem?_eq_some_iff.mp hj).1; simpa using this
    rw [List.getElem?_set_self hl] at hj
    cases hj
  · rw [List.getElem?_set_ne (Ne.symm z)] at hj
    obtain ⟨u, h1, h2⟩ := h.2 j e hj
    exact ⟨u, by rw [List.getElem?_set_ne (Ne.symm z)]; exact h1, h2⟩
theorem RelE.wipe {G : Gx} {A : Al} {F : Hp} {σ : L2.St} {ρ : Env'} (h : RelE G A F σ ρ) : ∀ vs : List Nat, RelE G A F (wipe σ vs) (wipeE ρ vs)
  | [] => h
  | v :: vs => (h.wipe vs).clear v
theorem wipe_wipe (σ : L2.St) (vs : List Nat) : L2.wipe (L2.wipe σ vs) vs = L2.wipe σ vs := by
  apply List.ext_getElem?
  intro j
  by_cases hj : j ∈ vs
  · by_cases hl : j < σ.length
    · rw [wipe_none hj hl, wipe_none hj (by rw [wipe_length]; exact hl)]
    · rw [List.getElem?_eq_none (by rw [wipe_length, wipe_length]; simpa using hl), List.getElem?_eq_none (by rw [wipe_length]; simpa using hl)]
  · rw [wipe_get hj, wipe_get hj]

/-! ### a thing in the making: its place is nobody's -/
section
variable {G : Gx} {B : Addr → Prop} {A : Al} {H : Hp} {μ : Sto} {p : Addr} {o : HO}
abbrev plus (B : Addr → Prop) (p : Addr) : Addr → Prop := fun b => B b ∨ b = p
theorem hide_plus (hp : H p = none) : hide (plus B p) (upd H p o) A μ = hide B H A μ := by
  funext b
  by_cases hb : b = p
  · subst hb
    have : hide B H A μ b = none := by
      unfold hide
      split
      · rfl
      · exact hp
    rw [this]
    unfold hide
    rw [if_pos (.inl (.inr rfl))]
  · unfold hide
    by_cases h : B b ∨ fpH A μ b
    · rw [if_pos h, if_pos (h.imp .inl id)]
    · rw [if_neg h, if_neg (fun z => z.elim (fun z => z.elim (fun z => h (.inl z)) hb) fun z => h (.inr z)), upd_ne hb]
theorem RelS.own (rel : RelS G B A H μ) (hp : H p = none) : RelS G (plus B p) A (upd H p o) μ := by
  refine ⟨rel.len, rel.inj, fun i q n h1 h2 => ?_, fun b hb => ?_, fun i q n h1 h2 => ?_⟩
  · obtain ⟨b1, b2⟩ := rel.out i q n h1 h2
    obtain ⟨⟨o1, e1⟩, o2, e2⟩ := (rel.node i q n h1 h2).there
    exact ⟨fun z => z.elim b1 fun z => (by rw [z, hp] at e1; cases e1), fun z => z.elim b2 fun z => (by rw [z, hp] at e2; cases e2)⟩
  · rcases hb with hb | rfl
    · obtain ⟨u, e⟩ := rel.bex b hb
      exact ⟨u, by rw [upd_ne (ne_of_none e hp)]; exact e⟩
    · exact ⟨o, upd_same⟩
  · have nd := rel.node i q n h1 h2
    obtain ⟨⟨o1, e1⟩, o2, e2⟩ := nd.there
    rw [hide_plus hp]
    exact nd.mono (Pre.refl A) (Sub.refl _) (upd_ne (ne_of_none e1 hp)) (upd_ne (ne_of_none e2 hp))
theorem plus_sub : Sub (hide (plus B p) H A μ) (hide B H A μ) := fun b u h => by
  obtain ⟨h1, h2, h3⟩ := of_hide h
  rw [hide_eq (fun z => h2 (.inl z)) h3]; exact h1
/-- it is written -/
theorem RelS.write (rel : RelS G (plus B p) A H μ) (hb : ¬ B p) : RelS G (plus B p) A (upd H p o) μ ∧ hide (plus B p) (upd H p o) A μ = hide (plus B p) H A μ := by
  have hs : hide (plus B p) (upd H p o) A μ = hide (plus B p) H A μ := by
    funext b
    by_cases e : b = p
    · subst e
      unfold hide
      rw [if_pos (.inl (.inr rfl)), if_pos (.inl (.inr rfl))]
    · unfold hide
      rw [upd_ne e]
  refine ⟨⟨rel.len, rel.inj, rel.out, fun b hb => ?_, fun i q n h1 h2 => ?_⟩, hs⟩
  · by_cases e : b = p
    · subst e; exact ⟨o, upd_same⟩
    · obtain ⟨u, e'⟩ := rel.bex b hb
      exact ⟨u, by rw [upd_ne e]; exact e'⟩
  · obtain ⟨b1, b2⟩ := rel.out i q n h1 h2
    rw [hs]
    exact (rel.node i q n h1 h2).mono (Pre.refl A) (Sub.refl _) (upd_ne fun z => b1 (.inr z)) (upd_ne fun z => b2 (.inr z))
/-- it is done, and not changed any more -/
theorem RelS.done (rel : RelS G (plus B p) A H μ) (hb : ¬ B p) : RelS G B A H μ ∧ hide B H A μ p = H p := by
  have nf : ¬ fpH A μ p := fun ⟨i, q, n, h1, h2, h3⟩ => by
    obtain ⟨b1, b2⟩ := rel.out i q n h1 h2
    rcases h3 with h3 | h3
    · exact b1 (.inr h3.symm)
    · exact b2 (.inr h3.symm)
  refine ⟨⟨rel.len, rel.inj, fun i q n h1 h2 => ?_, fun b hb => rel.bex b (.inl hb), fun i q n h1 h2 => ?_⟩, hide_eq hb nf⟩
  · obtain ⟨b1, b2⟩ := rel.out i q n h1 h2
    exact ⟨fun z => b1 (.inl z), fun z => b2 (.inl z)⟩
  · exact (rel.node i q n h1 h2).mono (Pre.refl A) plus_sub rfl rfl
/-- it is done, and a new handle -/
theorem RelS.adopt {n : Node} (rel : RelS G (plus B p) A H μ) (hb : ¬ B p) (nd : NodeAt G (A ++ [(p, p)]) (hide (plus B p) H A μ) H (p, p) n) : RelS G B (A ++ [(p, p)]) H (μ ++ [some n]) ∧ hide B H (A ++ [(p, p)]) (μ ++ [some n]) = hide (plus B p) H A μ := by
  have hs : hide B H (A ++ [(p, p)]) (μ ++ [some n]) = hide (plus B p) H A μ := by
    funext b
    have e : (B b ∨ fpH (A ++ [(p, p)]) (μ ++ [some n]) b) ↔ (plus B p b ∨ fpH A μ b) := by
      rw [fpH_push rel.len]
      constructor
      · rintro (h | h | h | h)
        · exact .inl (.inl h)
        · exact .inr h
        · exact .inl (.inr h)
        · exact .inl (.inr h)
      · rintro ((h | h) | h)
        · exact .inl h
        · exact .inr (.inr (.inl h))
        · exact .inr (.inl h)
    unfold hide
    by_cases h : plus B p b ∨ fpH A μ b
    · rw [if_pos h, if_pos (e.mpr h)]
    · rw [if_neg h, if_neg (fun z => h (e.mp z))]
  have get : ∀ {i : Nat} {q : Addr × Addr} {m : Node}, (A ++ [(p, p)])[i]? = some q → (μ ++ [some n])[i]? = some (some m) → (A[i]? = some q ∧ μ[i]? = some (some m)) ∨ (i = A.length ∧ q = (p, p) ∧ m = n) := fun {i q m} e1 e2 => by
    by_cases hi : i < A.length
    · rw [List.getElem?_append_left hi] at e1
      rw [List.getElem?_append_left (by rw [← rel.len]; exact hi)] at e2
      exact .inl ⟨e1, e2⟩
    · have hi' : i < A.length + 1 := by have := (List.getElem?_eq_some_iff.mp e1).1; simpa using this
      have : i = A.length := by omega
      subst this
      have e1 : (p, p) = q := by simpa using e1
      rw [rel.len] at e2
      have e2 : n = m := by simpa using e2
      exact .inr ⟨rfl, e1.symm, e2.symm⟩
  refine ⟨⟨by simp [rel.len], fun i j q r m k e1 e2 e3 e4 e5 => ?_, fun i q m e1 e2 => ?_, fun b hb => rel.bex b (.inl hb), fun i q m e1 e2 => ?_⟩, hs⟩
  · rcases get e1 e3 with ⟨y1, y2⟩ | ⟨y1, y2, y3⟩
    · obtain ⟨b1, b2⟩ := rel.out i q m y1 y2
      rcases get e2 e4 with ⟨x1, x2⟩ | ⟨x1, x2, x3⟩
      · exact rel.inj i j q r m k y1 x1 y2 x2 e5
      · rw [x2] at e5
        rcases e5 with z | z | z | z
        · exact absurd (.inr z) b1
        · exact absurd (.inr z) b1
        · exact absurd (.inr z) b2
        · exact absurd (.inr z) b2
    · rcases get e2 e4 with ⟨x1, x2⟩ | ⟨x1, x2, x3⟩
      · obtain ⟨b1, b2⟩ := rel.out j r k x1 x2
        rw [y2] at e5
        rcases e5 with z | z | z | z
        · exact absurd (.inr z.symm) b1
        · exact absurd (.inr z.symm) b2
        · exact absurd (.inr z.symm) b1
        · exact absurd (.inr z.symm) b2
      · rw [y1, x1]
  · rcases get e1 e2 with ⟨y1, y2⟩ | ⟨y1, y2, y3⟩
    · obtain ⟨b1, b2⟩ := rel.out i q m y1 y2
      exact ⟨fun z => b1 (.inl z), fun z => b2 (.inl z)⟩
    · rw [y2]; exact ⟨hb, hb⟩
  · rw [hs]
    rcases get e1 e2 with ⟨y1, y2⟩ | ⟨y1, y2, y3⟩
    · exact (rel.node i q m y1 y2).mono (pre_push A _) (Sub.refl _) rfl rfl
    · rw [y2, y3]; exact nd
end

/-! ### [f for T in src if tt] -/
def Res.nox {α : Type} (r : Res α) : Res α := match r with
  | .exc _ _ _ => .bad
  | r => r
open Classical in
noncomputable def lcF (p : Srcs) (T : Tg) (tt : Ev Bool) (f : Ev D) (ρ : Env') : List D → Sto → List D → Res (List D)
  | [], μ, acc => if grd p μ then .ok acc μ else .bad
  | d :: r, μ, acc => if grd p μ then (match T d ρ with
    | none => .bad
    | some ρ1 => (tt ρ1 μ).nox.bind fun b μ1 => if b then (f ρ1 μ1).nox.bind fun y μ2 => if acc.length < lim then lcF p T tt f ρ r μ2 (acc ++ [y]) else .bad else lcF p T tt f ρ r μ1 acc) else .bad
noncomputable def zLc (m : Bool) (src : Ev Srcs) (T : Tg) (tt : Ev Bool) (f : Ev D) (own : List Nat) : Ev D := fun ρ μ => (src ρ μ).bind fun p μ1 => (lcF p T tt f (wipeE ρ own) p.1 μ1 []).bind fun acc μ2 => mkL m acc μ2
def zYes : Ev Bool := fun _ μ => .ok true μ
abbrev ZIf (X : Cx) (cls : Str → Option CI) (W : WX) (ifs : List Expr) (f : Ev Bool) : Prop := PTs X ifs (tT (gx X cls) W f)
section
variable {X : Cx} {cls : Str → Option CI} {W : WX} {k : Nat} {pos : Pos}
theorem if_nil : ZIf X cls W [] zYes := ⟨fun pins s σ H Q I ⟨B, A, ρ, μ, rel, re, w⟩ => pts_nil.run pins s σ H Q I (w true A H rel rfl (Step.refl _ _ _ _))⟩
theorem if_one {c : Expr} {p : Ev Bool} (h : ZT X cls W c p) : ZIf X cls W [c] p := pts_one h
/-- the list is done -/
theorem Want.mkLd {G : Gx} {W : WX} {m : Bool} {ds : List D} {vs : List V} {B : Addr → Prop} {A A1 : Al} {H H1 : Hp} {μ μ1 : Sto} {σ : L2.St} {Q : VK} {p : Addr} (w : Want G W (RD G) B A H μ σ (Z.mkL m ds μ1) Q) (rel : RelS G (plus B p) A1 H1 μ1) (hb : ¬ B p) (st : Step B A H μ A1 H1 μ1)
    (hs : Sub (hide B H A μ) (hide (plus B p) H1 A1 μ1)) (hp : H1 p = some (.lst vs)) (r : Reps G A1 (hide (plus B p) H1 A1 μ1) vs ds) : Q (.ref p) H1 := by
  unfold Z.mkL at w
  cases m with
  | false =>
    obtain ⟨r1, e⟩ := rel.done hb
    exact w (.ref p) A1 H1 r1 (rep_lst (e.trans hp) plus_sub r) st
  | true =>
    obtain ⟨r1, e⟩ := rel.adopt (n := .lst ds) hb ⟨rfl, vs, hp, r.mono (pre_push A1 _) (Sub.refl _)⟩
    exact w (.ref p) _ H1 r1 ⟨(p, p), by rw [← rel.len]; simp, rfl⟩ ⟨st.pre.trans (pre_push A1 _), by rw [e]; exact hs, st.keep⟩
theorem lc_want {m : Bool} {src : Ev Srcs} {is own : List Nat} {T : Tg} {tt : Ev Bool} {f : Ev D} (hi : ∀ i ∈ is, i ∈ own) {σ : L2.St} {H : Hp} {Q : VK} (h : tX (gx X cls) W (zLc m src T tt f own) σ H Q) :
    tLc (tV (gx X cls) W (fun A F J p => IterOk (gx X cls) A F J p) src) (tG (gx X cls) is T) (tT (gx X cls) W0 tt) (tX (gx X cls) W0 f) own σ H Q := by
  obtain ⟨B, A, ρ, μ, rel, re, w⟩ := h
  refine tV_step rel re w fun J p A1 H1 μ1 _ r1 re1 ok1 st1 w1 D hD => ?_
  have nB : ¬ B D := fun z => by obtain ⟨u, e⟩ := r1.bex D z; rw [hD] at e; cases e
  obtain ⟨r0, hr0⟩ : ∃ r, r = lcF p T tt f (wipeE ρ own) p.1 μ1 [] := ⟨_, rfl⟩
  rw [← hr0] at w1
  let St := fun (i : Nat) (H2 : Hp) => ∃ A2 μ2 acc vs, H2 D = some (.lst vs) ∧ RelS (gx X cls) (plus B D) A2 H2 μ2 ∧ Reps (gx X cls) A2 (hide (plus B D) H2 A2 μ2) vs acc ∧ Pre A1 A2 ∧ Sub (hide B H1 A1 μ1) (hide (plus B D) H2 A2 μ2) ∧ (∀ b o, B b → H1 b = some o → H2 b = some o) ∧
    r0 = lcF p T tt f (wipeE ρ own) (p.1.drop i) μ2 acc
  refine ⟨fun i m H2 => m = p.1.length - i ∧ i ≤ p.1.length ∧ St i H2, ⟨p.1.length, by simp, Nat.zero_le _, A1, μ1, [], [], upd_same, r1.own hD, rfl, Pre.refl _, by rw [hide_plus hD]; exact Sub.refl _, fun b o hb e => by rw [upd_ne (fun z : b = D => nB (by rw [← z]; exact hb))]; exact e, by simpa using hr0⟩, ?_⟩
  rintro i m H2 ⟨rfl, hi', A2, μ2, acc, vs, hD2, r2, hv, pre, sub, keep, er⟩
  by_cases hlt : i < p.1.length
  · rw [List.drop_eq_getElem_cons hlt] at er
    unfold lcF at er
    split at er
    case isFalse => rw [er] at w1; exact w1.elim
    rename_i hg
    obtain ⟨z1, _⟩ := ok1 (plus B D) A2 H2 μ2 r2 pre sub hg i
    obtain ⟨go, y⟩ := z1 _ (List.getElem?_eq_getElem hlt)
    split at er
    · rw [er] at w1; exact w1.elim
    rename_i ρ3 e3
    refine .inr ⟨go, St (i + 1), fun H' h => ⟨_, by omega, rfl, hlt, h⟩, fun x H3 hy => ?_⟩
    obtain ⟨A3, r3, st3, p3⟩ := y x H3 hy
    have re3 : RelE (gx X cls) A3 (hide (plus B D) H3 A3 μ2) (L2.wipe σ own) (wipeE ρ own) := RelE.wipe ⟨re1.1, fun j d hj => let ⟨v, h1, h2⟩ := re1.2 j d hj; ⟨v, h1, h2.mono (pre.trans st3.pre) (sub.trans st3.sub)⟩⟩ own
    refine ⟨plus B D, A3, wipeE ρ own, μ2, _, ρ3, r3, re3, p3, e3, fun σ4 re4 hw => ⟨by rw [hw own hi, wipe_wipe], plus B D, A3, ρ3, μ2, r3, re4, ?_⟩⟩
    cases e5 : tt ρ3 μ2 with
    | bad => rw [e5] at er; have er : r0 = .bad := er; rw [er] at w1; exact w1.elim
    | exc c ds μ5 => rw [e5] at er; have er : r0 = .bad := er; rw [er] at w1; exact w1.elim
    | ok b μ5 =>
      rw [e5] at er
      intro b' A5 H5 r5 eb st5
      obtain rfl := show b' = b from eb
      have er : r0 = if b' then (f ρ3 μ5).nox.bind fun y μ2 => if acc.length < lim then lcF p T tt f (wipeE ρ own) (p.1.drop (i + 1)) μ2 (acc ++ [y]) else .bad else lcF p T tt f (wipeE ρ own) (p.1.drop (i + 1)) μ5 acc := er
      have hD5 : H5 D = some (.lst vs) := st5.keep D _ (.inr rfl) (st3.keep D _ (.inr rfl) hD2)
      cases b' with
      | false =>
        rw [if_neg Bool.false_ne_true] at er ⊢
        exact ⟨A5, μ5, acc, vs, hD5, r5, hv.mono (st3.trans st5).pre (st3.trans st5).sub, pre.trans (st3.trans st5).pre, sub.trans (st3.trans st5).sub, fun b o hb e => (st3.trans st5).keep b o (.inl hb) (keep b o hb e), er⟩
      | true =>
        rw [if_pos rfl] at er ⊢
        refine ⟨plus B D, A5, ρ3, μ5, r5, re4.mono st5, ?_⟩
        cases e6 : f ρ3 μ5 with
        | bad => rw [e6] at er; have er : r0 = .bad := er; rw [er] at w1; exact w1.elim
        | exc c ds μ6 => rw [e6] at er; have er : r0 = .bad := er; rw [er] at w1; exact w1.elim
        | ok y μ6 =>
          rw [e6] at er
          have er : r0 = if acc.length < lim then lcF p T tt f (wipeE ρ own) (p.1.drop (i + 1)) μ6 (acc ++ [y]) else .bad := er
          intro yv A6 H6 r6 py st6
          have st : Step (plus B D) A2 H2 μ2 A6 H6 μ6 := (st3.trans st5).trans st6
          have hD6 : H6 D = some (.lst vs) := st6.keep D _ (.inr rfl) hD5
          split at er
          · rename_i hl
            have lv := hv.length
            obtain ⟨r7, h7⟩ := r6.write (o := .lst (vs ++ [yv])) nB
            refine ⟨vs, hD6, by rw [lv]; exact lim_lt hl, A6, μ6, acc ++ [y], vs ++ [yv], upd_same, r7, ?_, pre.trans st.pre, ?_, fun b o hb e => ?_, er⟩
            · rw [h7]; exact (hv.mono st.pre st.sub).append (.cons py .nil)
            · rw [h7]; exact sub.trans st.sub
            · rw [upd_ne (fun z : b = D => nB (by rw [← z]; exact hb))]; exact st.keep b o (.inl hb) (keep b o hb e)
          · rw [er] at w1; exact w1.elim
  · rw [List.drop_eq_nil_of_le (by omega)] at er
    unfold lcF at er
    split at er
    case isFalse => rw [er] at w1; exact w1.elim
    rename_i hg
    obtain ⟨_, z2⟩ := ok1 (plus B D) A2 H2 μ2 r2 pre sub hg i
    refine .inl ⟨z2 (by omega), ?_⟩
    rw [er] at w1
    exact Want.mkLd w1 r2 nB ⟨pre, sub.trans plus_sub, keep⟩ sub hD2 hv
section
variable {elt tg iter : Expr} {ifs : List Expr} {scope : Scope} {own : List (Str × Nat)} {m : Bool} {src : Ev Srcs} {is : List Nat} {T : Tg} {tt : Ev Bool} {f : Ev D}
theorem e_lc (z : ZX X W k) (hi : ZI X cls W tg iter src) (ok : blkC X.N X.env.scope scope own = true)
    (hg : ∀ (s : Shared) (H : Hp) (C : Addr) (cl : List (Str × Addr)) (fp : List Addr), ZG (X.blk s H scope (compEnvC scope cl C X.env) fp) cls tg is T)
    (ht : ∀ (s : Shared) (H : Hp) (C : Addr) (cl : List (Str × Addr)) (fp : List Addr), ZIf (X.blk s H scope (compEnvC scope cl C X.env) fp) cls W0 ifs tt)
    (he : ∀ (s : Shared) (H : Hp) (C : Addr) (cl : List (Str × Addr)) (fp : List Addr), ZE (X.blk s H scope (compEnvC scope cl C X.env) fp) cls W0 elt f)
    (hs : ∀ x, foldedSetIterable iter X.env x = pure x := by intro _; rfl) (hw : ∀ i ∈ is, i ∈ own.map (·.2) := by decide) : ZE X cls W (.ListComp elt [⟨tg, iter, ifs, 0⟩] scope pos) (zLc m src T tt f (own.map (·.2))) :=
  PE.of (pe_lc z.calm z.nd hi (blkOk_by ok) hg ht he hs) fun σ H Q w => lc_want hw w
/-- name = [..] on one line -/
theorem s_asgLc {i : Nat} {y : Str} {py spos : Pos} (z : ZX X W k) (hi : ZI X cls W tg iter src) (ok : blkC X.N X.env.scope scope own = true)
    (hg : ∀ (s : Shared) (H : Hp) (C : Addr) (cl : List (Str × Addr)) (fp : List Addr), ZG (X.blk s H scope (compEnvC scope cl C X.env) fp) cls tg is T)
    (ht : ∀ (s : Shared) (H : Hp) (C : Addr) (cl : List (Str × Addr)) (fp : List Addr), ZIf (X.blk s H scope (compEnvC scope cl C X.env) fp) cls W0 ifs tt)
    (he : ∀ (s : Shared) (H : Hp) (C : Addr) (cl : List (Str × Addr)) (fp : List Addr), ZE (X.blk s H scope (compEnvC scope cl C X.env) fp) cls W0 elt f)
    (hy : X.N[i]? = some y := by rfl) (hyl : X.env.scope.names.lookup y = some .local := by rfl)
    (hsw : swapsWith (.ListComp elt [⟨tg, iter, ifs, 0⟩] scope pos) (some (.Name y py)) spos.line X.env = pure true := by rfl)
    (hs : ∀ x, foldedSetIterable iter X.env x = pure x := by intro _; rfl) (hw : ∀ i ∈ is, i ∈ own.map (·.2) := by decide) :
    ZS X cls W (.Assign [.Name y py] (.ListComp elt [⟨tg, iter, ifs, 0⟩] scope pos) spos) (sAsg (zLc m src T tt f (own.map (·.2))) (gN i)) :=
  PS.of (ps_setLc z.calm z.nd hy hyl hsw hi (blkOk_by ok) hg ht he hs) fun E σ H ⟨B, A, ρ, μ, rel, re, w⟩ =>
    lc_want (cls := cls) (W := W) (m := m) hw (tV_stepS rel re w fun v d A1 H1 μ1 _ r1 re1 p1 st w1 => w1 _ A1 H1 r1 (re1.set i p1) (Step.refl _ _ _ _))
end
end
end Z

/-! functions -/
namespace Z
open PySem PySem.Spec PyProof.Rows L2 SlX

abbrev Fn := List D → Sto → Res D
/-- what a function does with data by value -/
def spZ (G : Gx) (n : Nat) (F : Fn) : Sp := fun vs H Q E => vs.length = n ∧ ∃ (B : Addr → Prop) (A : Al) (μ : Sto) (ds : List D), RelS G B A H μ ∧ Reps G A (hide B H A μ) vs ds ∧ Want G (fun c o _ H' => E c o H') (RD G) B A H μ [] (F ds μ) Q
/-- the body of a function -/
def runF (n : Nat) (body : Ex) : Fn := fun ds μ => match body (ds.map some ++ List.replicate (n - ds.length) none) μ with
  | .nx _ μ' => .ok .non μ'
  | .rt d μ' => .ok d μ'
  | .exc c ds' _ μ' => .exc c ds' μ'
  | _ => .bad
theorem relE_start {G : Gx} {A : Al} {F : Hp} {N : List Str} {vs : List V} {ds : List D} (r : Reps G A F vs ds) : RelE G A F (L2.start N vs) (ds.map some ++ List.replicate (N.length - ds.length) none) := by
  have hl := r.length
  refine ⟨by simp [L2.start, hl], fun i d h => ?_⟩
  by_cases hi : i < ds.length
  · rw [List.getElem?_append_left (by simpa using hi), List.getElem?_map, Option.map_eq_some_iff] at h
    obtain ⟨e, h1, h2⟩ := h
    injection h2 with h2; subst h2
    obtain ⟨v, h3, h4⟩ := r.get h1
    exact ⟨v, by unfold L2.start; rw [List.getElem?_append_left (by simp [hl]; exact hi), List.getElem?_map, h3]; rfl, h4⟩
  · rw [List.getElem?_append_right (by simpa using hi), List.getElem?_replicate] at h
    split at h
    · cases h
    · cases h
section
variable {P : Program} {w : World} {K : PySem.W.Frag} {mg : Str → Option Value} {base : Heap} {cls : Str → Option CI}
/-- where a function's body runs -/
abbrev cxF (P : Program) (w : World) (K : PySem.W.Frag) (mg : Str → Option Value) (base : Heap) (N : List Str) (qual : Str) (scope : Scope) (f : Addr) (cd : Value) (A : Around) (outer : List Env) (s : Shared) (H : Hp) (E : XK) : Cx := cxOf (L2.CX P w) P w K mg base N qual scope f cd A outer s H E
abbrev wxF (E : XK) : WX := fun c d _ H => E c d H
abbrev FOk (P : Program) (w : World) (K : PySem.W.Frag) (mg : Str → Option Value) (base : Heap) (cls : Str → Option CI) (k : Nat) (f : Addr) (fd : FuncData) (ps : List Str) (F : Fn) : Prop := FnOk P w K mg base (L2.CX P w) k f fd ps (spZ ⟨P, w, K, mg, cls⟩ ps.length F)
theorem fn_z {x qual : Str} {params : Arguments} {body : List Stmt} {scope : Scope} {dvs : List V} {kws : List (Str × V)} {f : Addr} {fd : FuncData} {N ps : List Str} {k : Nat} {ex : Ex} (Fd : FunD K x qual params body scope dvs kws f fd) (S : FnScope N ps scope)
    (hbody : ∀ (cdv : Value) (A : Around) (outer : List Env) (s : Shared) (H : Hp) (E : XK), ZX (cxF P w K mg base N qual scope f cdv A outer s H E) (wxF E) k → ZSs (cxF P w K mg base N qual scope f cdv A outer s H E) cls (wxF E) body ex) :
    FOk P w K mg base cls (k + 1) f fd ps (runF N.length ex) := by
  refine Fd.ok S (fun vs H Q E h => h.1) fun cdv A outer s H vs Q E hr ⟨hl, B, Al, μ, ds, rel, r, w⟩ => ⟨_, hbody cdv A outer s H E ⟨rfl, S.nd, hr, takes_of rfl rfl rfl rfl, passes_of rfl⟩, B, Al, _, μ, rel, relE_start r, ?_⟩
  unfold runF at w
  cases e : ex (ds.map some ++ List.replicate (N.length - ds.length) none) μ with
  | nx ρ' μ' => rw [e] at w; exact fun σ' A' H' r1 _ st => w .non A' H' r1 rfl st
  | rt d μ' => rw [e] at w; exact fun v A' H' r1 p1 st => w v A' H' r1 p1 st
  | bk ρ' μ' => rw [e] at w; exact w.elim
  | ct ρ' μ' => rw [e] at w; exact w.elim
  | exc c ds ρ' μ' => rw [e] at w; exact fun cl o σ' A' H' r1 _ x1 st => w cl o A' H' r1 x1 st
  | bad => rw [e] at w; exact w.elim
/-- a function may be told otherwise, where it is told -/
theorem FOk.as {k : Nat} {f : Addr} {fd : FuncData} {ps : List Str} {F F' : Fn} (h : FOk P w K mg base cls k f fd ps F) (hF : ∀ ds μ, F' ds μ = F ds μ ∨ F' ds μ = .bad) : FOk P w K mg base cls k f fd ps F' :=
  h.imp fun vs H Q E ⟨hl, B, A, μ, ds, rel, r, w⟩ => ⟨hl, B, A, μ, ds, rel, r, by
    rcases hF ds μ with e | e
    · rw [← e]; exact w
    · rw [e] at w; exact w.elim⟩
/-! ### a function that has no part in what goes on outside -/
def pureR (r : Res D) (μ : Sto) : Res D := match r with
  | .ok d _ => if d.cl then .ok d μ else .bad
  | .exc c ds _ => if D.cls ds then .exc c ds μ else .bad
  | .bad => .bad
def purF (F : Fn) : Fn := fun ds μ => if D.cls ds then pureR (F ds []) μ else .bad
abbrev shut (B : Addr → Prop) (A : Al) (μ : Sto) : Addr → Prop := fun b => B b ∨ fpH A μ b
theorem no_fp {b : Addr} {μ : Sto} : ¬ fpH [] μ b := fun ⟨i, p, n, h1, _, _⟩ => by simp at h1
theorem hide_shut {B : Addr → Prop} {A : Al} {H : Hp} {μ : Sto} : hide (shut B A μ) H [] [] = hide B H A μ := by
  funext b
  unfold hide
  by_cases h : B b ∨ fpH A μ b
  · rw [if_pos h, if_pos (.inl h)]
  · rw [if_neg h, if_neg (fun z => z.elim h no_fp)]
theorem RelS.shut {G : Gx} {B : Addr → Prop} {A : Al} {H : Hp} {μ : Sto} (rel : RelS G B A H μ) : RelS G (Z.shut B A μ) [] H [] :=
  ⟨rfl, fun i j p q n m h1 => by simp at h1, fun i p n h1 => by simp at h1, fun b hb => by
    rcases hb with hb | ⟨i, p, n, h1, h2, h3⟩
    · exact rel.bex b hb
    · obtain ⟨e1, e2⟩ := (rel.node i p n h1 h2).there
      rcases h3 with h3 | h3
      · rw [h3]; exact e1
      · rw [h3]; exact e2, fun i p n h1 => by simp at h1⟩
theorem RelS.unshut {G : Gx} {B : Addr → Prop} {A A2 : Al} {H H2 : Hp} {μ μ2 : Sto} (rel : RelS G B A H μ) (st : Step (Z.shut B A μ) [] H [] A2 H2 μ2) : RelS G B A H2 μ ∧ Step B A H μ A H2 μ ∧ Sub (hide (Z.shut B A μ) H2 A2 μ2) (hide B H2 A μ) := by
  have kp : ∀ b o, fpH A μ b → H b = some o → H2 b = some o := fun b o hb e => st.keep b o (.inr hb) e
  have sb : Sub (hide B H A μ) (hide B H2 A μ) := fun b o e => by
    obtain ⟨h1, h2, h3⟩ := of_hide e
    have e' : hide (Z.shut B A μ) H [] [] b = some o := by rw [hide_shut]; exact e
    obtain ⟨h4, _, _⟩ := of_hide (st.sub b o e')
    rw [hide_eq h2 h3]; exact h4
  refine ⟨⟨rel.len, rel.inj, rel.out, fun b hb => ?_, fun i p n h1 h2 => ?_⟩, ⟨Pre.refl A, sb, fun b o hb e => st.keep b o (.inl hb) e⟩, fun b o e => ?_⟩
  · obtain ⟨o, e⟩ := rel.bex b hb
    exact ⟨o, st.keep b o (.inl hb) e⟩
  · have nd := rel.node i p n h1 h2
    obtain ⟨⟨o1, e1⟩, o2, e2⟩ := nd.there
    exact nd.mono (Pre.refl A) sb ((kp _ _ ⟨i, p, n, h1, h2, .inl rfl⟩ e1).trans e1.symm) ((kp _ _ ⟨i, p, n, h1, h2, .inr rfl⟩ e2).trans e2.symm)
  · obtain ⟨h1, h2, h3⟩ := of_hide e
    rw [hide_eq (fun z => h2 (.inl z)) (fun z => h2 (.inr z))]; exact h1
theorem ExcAt.mono {G : Gx} {A A' : Al} {F F' : Hp} {c : Str} {ds : List D} {cl : Value} {o : Option Addr} (h : ExcAt G A F c ds cl o) (s : Sub F F') (hr : ∀ vs, Reps G A F vs ds → Reps G A' F' vs ds) : ExcAt G A' F' c ds cl o := by
  obtain ⟨ci, C, h1, h2, h3, h4⟩ := h
  refine ⟨ci, C, h1, h2, h3, ?_⟩
  split at h4
  · exact h4
  · obtain ⟨d, vs, h5, h6, h7, h8⟩ := h4
    exact ⟨d, vs, h5, s _ _ h6, h7, hr vs h8⟩
theorem FOk.pur {k : Nat} {f : Addr} {fd : FuncData} {ps : List Str} {F : Fn} (h : FOk P w K mg base cls k f fd ps F) : FOk P w K mg base cls k f fd ps (purF F) :=
  h.imp fun vs H Q E ⟨hl, B, A, μ, ds, rel, r, w⟩ => by
    unfold purF at w
    split at w
    · rename_i hc
      refine ⟨hl, shut B A μ, [], [], ds, rel.shut, by rw [hide_shut]; exact Reps.any ds vs hc r, ?_⟩
      cases e : F ds [] with
      | ok d μ2 =>
        rw [e] at w
        unfold pureR at w
        dsimp only at w
        split at w
        · rename_i hd
          intro v A2 H2 r2 p2 st
          obtain ⟨r3, st3, sb⟩ := rel.unshut st
          exact w v A H2 r3 (Rep.any d v hd (Rep.mono (Pre.refl A2) sb d v p2)) st3
        · exact w.elim
      | exc c es μ2 =>
        rw [e] at w
        unfold pureR at w
        dsimp only at w
        split at w
        · rename_i hd
          intro cl o A2 H2 r2 x2 st
          obtain ⟨r3, st3, sb⟩ := rel.unshut st
          exact w cl o A H2 r3 (x2.mono sb fun vs h => Reps.any es vs hd (h.mono (Pre.refl A2) sb)) st3
        · exact w.elim
      | bad => rw [e] at w; exact w.elim
    · exact w.elim
/-! ### a function whose own new things are forgotten -/
mutual
/-- all handles are below n -/
def D.hb (n : Nat) : D → Bool
  | .non => true | .bl _ => true | .int _ => true | .str _ => true
  | .tup ds => D.hbs n ds | .lst ds => D.hbs n ds | .set ds => D.hbs n ds
  | .dct ks vs => D.hbs n ks && D.hbs n vs
  | .ins _ ds => D.hbs n ds
  | .hd i => decide (i < n)
def D.hbs (n : Nat) : List D → Bool
  | [] => true
  | d :: ds => D.hb n d && D.hbs n ds
end
def Node.hb (n : Nat) : Node → Bool
  | .lst ds => D.hbs n ds
  | .dct ks vs => D.hbs n ks && D.hbs n vs
  | .ins _ fs => D.hbs n (fs.map (·.2))
def stoB (n : Nat) (μ : Sto) : Bool := (μ.take n).all fun o => match o with | some m => m.hb n | none => true
def trimR (n : Nat) (r : Res D) : Res D := match r with
  | .ok d μ => if d.hb n && stoB n μ then .ok d (μ.take n) else .bad
  | .exc c ds μ => if D.hbs n ds && stoB n μ then .exc c ds (μ.take n) else .bad
  | .bad => .bad
def trimF (F : Fn) : Fn := fun ds μ => trimR μ.length (F ds μ)
mutual
theorem Rep.take {G : Gx} {A : Al} {F : Hp} {n : Nat} : ∀ (d : D) (v : V), d.hb n = true → Rep G A F v d → Rep G (A.take n) F v d
  | .non, _, _, h => h
  | .bl _, _, _, h => h
  | .int _, _, _, h => h
  | .str _, _, _, h => h
  | .tup ds, _, hc, h => by
    obtain ⟨a, vs, h1, h2, h3⟩ := h
    exact ⟨a, vs, h1, h2, Reps.takeA ds vs hc h3⟩
  | .lst ds, _, hc, h => by
    obtain ⟨a, vs, h1, h2, h3⟩ := h
    exact ⟨a, vs, h1, h2, Reps.takeA ds vs hc h3⟩
  | .set _, _, _, h => h
  | .dct ks vs, _, hc, h => by
    obtain ⟨a, es, h1, h2, h3, h4, h5⟩ := h
    simp only [D.hb, Bool.and_eq_true] at hc
    exact ⟨a, es, h1, h2, Reps.takeA ks _ hc.1 h3, Reps.takeA vs _ hc.2 h4, h5⟩
  | .ins c ds, _, hc, h => by
    obtain ⟨a, vs, h1, h2, h3⟩ := h
    exact ⟨a, vs, h1, h2, Reps.takeA ds vs hc h3⟩
  | .hd i, _, hc, h => by
    obtain ⟨p, h1, h2⟩ := h
    exact ⟨p, by rw [List.getElem?_take_of_lt (of_decide_eq_true hc)]; exact h1, h2⟩
theorem Reps.takeA {G : Gx} {A : Al} {F : Hp} {n : Nat} : ∀ (ds : List D) (vs : List V), D.hbs n ds = true → Reps G A F vs ds → Reps G (A.take n) F vs ds
  | [], _, _, h => h
  | d :: ds, _, hc, h => by
    obtain ⟨v, r, h1, h2, h3⟩ := h
    simp only [D.hbs, Bool.and_eq_true] at hc
    exact ⟨v, r, h1, Rep.take d v hc.1 h2, Reps.takeA ds r hc.2 h3⟩
end
theorem hide_take {B : Addr → Prop} {A : Al} {H : Hp} {μ : Sto} {n : Nat} : Sub (hide B H A μ) (hide B H (A.take n) (μ.take n)) := fun b o e => by
  obtain ⟨h1, h2, h3⟩ := of_hide e
  refine (hide_eq h2 fun ⟨i, p, m, e1, e2, e3⟩ => h3 ⟨i, p, m, ?_, ?_, e3⟩).trans h1
  · rw [List.getElem?_take] at e1
    split at e1
    · exact e1
    · cases e1
  · rw [List.getElem?_take] at e2
    split at e2
    · exact e2
    · cases e2
theorem lookup_mem {α : Type} {f : Str} {d : α} : ∀ {l : List (Str × α)}, l.lookup f = some d → d ∈ l.map (·.2)
  | [], h => by cases h
  | (g, e) :: l, h => by
    rw [List.lookup_cons] at h
    split at h
    · injection h with h; subst h; simp
    · exact List.mem_cons_of_mem _ (lookup_mem h)
theorem hbs_mem {n : Nat} {d : D} : ∀ {ds : List D}, D.hbs n ds = true → d ∈ ds → d.hb n = true
  | [], _, h => by simp at h
  | e :: ds, h, hm => by
    simp only [D.hbs, Bool.and_eq_true] at h
    rcases List.mem_cons.mp hm with rfl | hm
    · exact h.1
    · exact hbs_mem h.2 hm
theorem NodeAt.take {G : Gx} {A : Al} {F F' H : Hp} {p : Addr × Addr} {m : Node} {n : Nat} (s : Sub F F') (hb : m.hb n = true) (h : NodeAt G A F H p m) : NodeAt G (A.take n) F' H p m := by
  cases m with
  | lst ds =>
    obtain ⟨e, vs, h, r⟩ := h
    exact ⟨e, vs, h, Reps.takeA ds vs hb (r.mono (Pre.refl A) s)⟩
  | dct ks vs =>
    obtain ⟨e, es, h, r1, r2, r3⟩ := h
    simp only [Node.hb, Bool.and_eq_true] at hb
    exact ⟨e, es, h, Reps.takeA ks _ hb.1 (r1.mono (Pre.refl A) s), Reps.takeA vs _ hb.2 (r2.mono (Pre.refl A) s), r3⟩
  | ins c fs =>
    obtain ⟨e, h2, ci, C, h3, h4, h⟩ := h
    refine ⟨e, h2, ci, C, h3, h4, ?_⟩
    by_cases hs : ci.slots = true
    · rw [if_pos hs] at h ⊢
      obtain ⟨svs, h, r⟩ := h
      refine ⟨svs, h, fun f d hf => ?_⟩
      obtain ⟨q, i, v, z1, z2, z3⟩ := r f d hf
      exact ⟨q, i, v, z1, z2, Rep.take d v (hbs_mem hb (lookup_mem hf)) (z3.mono (Pre.refl A) s)⟩
    · rw [if_neg hs] at h ⊢
      obtain ⟨vs, h, r⟩ := h
      exact ⟨vs, h, Reps.takeA _ vs hb (r.mono (Pre.refl A) s)⟩
theorem RelS.take {G : Gx} {B : Addr → Prop} {A : Al} {H : Hp} {μ : Sto} {n : Nat} (rel : RelS G B A H μ) (hb : stoB n μ = true) : RelS G B (A.take n) H (μ.take n) := by
  have gA : ∀ {i : Nat} {p}, (A.take n)[i]? = some p → A[i]? = some p ∧ i < n := fun {i p} e => by
    rw [List.getElem?_take] at e
    split at e
    · rename_i h; exact ⟨e, h⟩
    · cases e
  have gM : ∀ {i : Nat} {p}, (μ.take n)[i]? = some p → μ[i]? = some p := fun {i p} e => by
    rw [List.getElem?_take] at e
    split at e
    · exact e
    · cases e
  refine ⟨by simp [rel.len], fun i j p q m k h1 h2 h3 h4 => rel.inj i j p q m k (gA h1).1 (gA h2).1 (gM h3) (gM h4), fun i p m h1 h2 => rel.out i p m (gA h1).1 (gM h2), rel.bex, fun i p m h1 h2 => ?_⟩
  refine (rel.node i p m (gA h1).1 (gM h2)).take hide_take ?_
  have := List.all_eq_true.mp hb _ (List.mem_of_getElem? h2)
  exact this
theorem step_take {B : Addr → Prop} {A A2 : Al} {H H2 : Hp} {μ μ2 : Sto} (hl : A.length = μ.length) (st : Step B A H μ A2 H2 μ2) : Step B A H μ (A2.take μ.length) H2 (μ2.take μ.length) :=
  ⟨fun i p e => by rw [List.getElem?_take_of_lt (by rw [← hl]; exact (List.getElem?_eq_some_iff.mp e).1)]; exact st.pre i p e, st.sub.trans hide_take, st.keep⟩
theorem FOk.trim {k : Nat} {f : Addr} {fd : FuncData} {ps : List Str} {F : Fn} (h : FOk P w K mg base cls k f fd ps F) : FOk P w K mg base cls k f fd ps (trimF F) :=
  h.imp fun vs H Q E ⟨hl, B, A, μ, ds, rel, r, w⟩ => ⟨hl, B, A, μ, ds, rel, r, by
    unfold trimF at w
    cases e : F ds μ with
    | ok d μ2 =>
      rw [e] at w
      unfold trimR at w
      dsimp only at w
      split at w
      · rename_i hc
        simp only [Bool.and_eq_true] at hc
        intro v A2 H2 r2 p2 st
        exact w v _ H2 (r2.take hc.2) (Rep.take d v hc.1 (Rep.mono (Pre.refl A2) hide_take d v p2)) (step_take rel.len st)
      · exact w.elim
    | exc c es μ2 =>
      rw [e] at w
      unfold trimR at w
      dsimp only at w
      split at w
      · rename_i hc
        simp only [Bool.and_eq_true] at hc
        intro cl o A2 H2 r2 x2 st
        exact w cl o _ H2 (r2.take hc.2) (x2.mono hide_take fun vs h => Reps.takeA es vs hc.1 (h.mono (Pre.refl A2) hide_take)) (step_take rel.len st)
      · exact w.elim
    | bad => rw [e] at w; exact w⟩
end
/-! ### calls -/
def zCall (n : Nat) (F : Fn) (fs : Ev (List D)) : Ev D := fun ρ μ => (fs ρ μ).bind fun ds μ1 => if ds.length = n then F ds μ1 else .bad
section
variable {X : Cx} {cls : Str → Option CI} {W : WX} {k j : Nat} {f : Addr} {fd : FuncData} {ps : List Str} {F : Fn} {x : Str} {p pos : Pos} {e : Expr} {es : List Expr} {fs : Ev (List D)}
/-- what the readings of calls ask -/
theorem call_want {G : Gx} {B : Addr → Prop} {A : Al} {H : Hp} {μ : Sto} {σ : L2.St} {Q : VK} {vs : List V} {ds : List D} {n : Nat} (rel : RelS G B A H μ) (r : Reps G A (hide B H A μ) vs ds) (w : Want G W (RD G) B A H μ σ (if ds.length = n then F ds μ else .bad) Q) : spZ G n F vs H Q (WE W σ) := by
  split at w
  · rename_i hl
    refine ⟨r.length.trans hl, B, A, μ, ds, rel, r, ?_⟩
    cases e : F ds μ with
    | ok d μ' => rw [e] at w; exact w
    | exc c es μ' => rw [e] at w; exact w
    | bad => rw [e] at w; exact w
  · exact w.elim
theorem e_call (z : ZX X W k) (h : FOk X.prog X.w X.K X.mg X.base cls j f fd ps F) (hg : Gl X x) (hm : X.mg x = some (.ref f)) (hk : PySem.W.keepIn X.K (.ref f) = true) (hb : Binds X.K fd ps []) (ha : ZA X cls W (e :: es) fs) (hj : j ≤ k := by decide)
    (hdb : (x == ("__debug__" : Str)) = false := by decide) (he : starEach (e :: es) X.env = (false, eval e X.env) :: starEach es X.env := by rfl) (hpl : (backTo pos (starEach es X.env)).any (·.1) = false := by rfl) :
    ZE X cls W (.Call (.Name x p) (e :: es) [] pos) (zCall ps.length F fs) :=
  PE.of (pe_callS h (z.room.mono hj) hg hm hk hb (fun σ => passAt z.takes σ) ha hdb he hpl) fun σ H Q ⟨B, A, ρ, μ, rel, re, w⟩ => tV_step rel re w fun vs ds A1 H1 μ1 _ r1 re1 p1 st w1 => call_want r1 p1 w1
end
end Z

/-! exceptions -/
namespace Z
open PySem PySem.Spec PyProof.Rows L2 SlX

/-- what the __init__ of an exception does that keeps its arguments under the names fs -/
def spX (C : Addr) (fs : List Str) : Sp := fun vs H Q _ => ∃ (a : Addr) (ys : List V), vs = .ref a :: ys ∧ ys.length = fs.length ∧ H a = some (exo a C none) ∧ ∀ dx, H dx = none → dx ≠ a → Q .non (upd (upd H dx (exd dx (fs.zip ys).reverse)) a (exo a C (some dx)))
section
variable {P : Program} {w : World} {K : PySem.W.Frag} {mg : Str → Option Value} {base : Heap} {C : Addr} {k : Nat}
theorem x1_ok {qual f : Str} {params : Arguments} {q1 q2 q3 q4 : Pos} {scope : Scope} {fI : Addr} {fd : FuncData} (Fd : FunD K "__init__" qual params [.Assign [.Attribute (.Name "self" q1) f q2] (.Name f q3) q4] scope [] [] fI fd) (S : FnScope ["self", f] ["self", f] scope)
    (T : OexC K C) (hno : PySem.W.findIn K (.ref C) f = some none) (hd : (f == ("__debug__" : Str)) = false := by decide) (hcd : (f == ("__classdict__" : Str)) = false := by decide) : FnOk P w K mg base (L2.CX P w) (k + 1) fI fd ["self", f] (spX C [f]) := by
  refine Fd.ok S (fun vs H Q E ⟨a, ys, e, hl, _⟩ => by rw [e]; simp [hl]) fun cdv A outer s H vs Q E hr ⟨a, ys, ev, hl, ha, q⟩ => ?_
  refine ⟨_, pss_one (ps_ost (pe_var (i := 0) rfl ?_) (pe_var (i := 1) rfl ?_ hd hcd)), ?_⟩
  · rcases S.par "self" (by simp) with h | h
    · exact .inl h
    · exact .inr (.inl h)
  · rcases S.par f (by simp) with h | h
    · exact .inl h
    · exact .inr (.inl h)
  · match ys, hl with
    | [y], _ =>
      subst ev
      exact ⟨y, rfl, .ref a, rfl, a, C, rfl, T, hno, .inl ⟨ha, fun dx h1 h2 => q dx h1 h2⟩⟩
theorem upd_comm {H : Hp} {a b : Addr} {o u : HO} (h : a ≠ b) : upd (upd H a o) b u = upd (upd H b u) a o := by
  funext c
  unfold upd
  by_cases e1 : c = b
  · subst e1
    rw [if_pos rfl, if_neg (Ne.symm h), if_pos rfl]
  · rw [if_neg e1]
    by_cases e2 : c = a
    · rw [if_pos e2, if_pos e2]
    · rw [if_neg e2, if_neg e2, if_neg e1]
theorem x2_ok {qual f g : Str} {params : Arguments} {q1 q2 q3 q4 q5 q6 q7 q8 : Pos} {scope : Scope} {fI : Addr} {fd : FuncData}
    (Fd : FunD K "__init__" qual params [.Assign [.Attribute (.Name "self" q1) f q2] (.Name f q3) q4, .Assign [.Attribute (.Name "self" q5) g q6] (.Name g q7) q8] scope [] [] fI fd) (S : FnScope ["self", f, g] ["self", f, g] scope)
    (T : OexC K C) (hno : PySem.W.findIn K (.ref C) f = some none) (hno2 : PySem.W.findIn K (.ref C) g = some none) (hd : (f == ("__debug__" : Str)) = false := by decide) (hcd : (f == ("__classdict__" : Str)) = false := by decide)
    (hd2 : (g == ("__debug__" : Str)) = false := by decide) (hcd2 : (g == ("__classdict__" : Str)) = false := by decide) : FnOk P w K mg base (L2.CX P w) (k + 1) fI fd ["self", f, g] (spX C [f, g]) := by
  refine Fd.ok S (fun vs H Q E ⟨a, ys, e, hl, _⟩ => by rw [e]; simp [hl]) fun cdv A outer s H vs Q E hr ⟨a, ys, ev, hl, ha, q⟩ => ?_
  have vis : ∀ x ∈ (["self", f, g] : List Str), Vis scope x := fun x hx => by
    rcases S.par x hx with h | h
    · exact .inl h
    · exact .inr (.inl h)
  refine ⟨_, pss_cons (ps_ost (pe_var (i := 0) rfl (vis _ (by simp))) (pe_var (i := 1) rfl (vis _ (by simp)) hd hcd)) (pss_one (ps_ost (pe_var (i := 0) rfl (vis _ (by simp))) (pe_var (i := 2) rfl (vis _ (by simp)) hd2 hcd2))), ?_⟩
  match ys, hl with
  | [y, z], _ =>
    subst ev
    refine ⟨y, rfl, .ref a, rfl, a, C, rfl, T, hno, .inl ⟨ha, fun dx h1 h2 => ⟨z, rfl, .ref a, rfl, a, C, rfl, T, hno2, .inr ⟨dx, [(f, y)], upd_same, ?_, by simp, ?_⟩⟩⟩⟩
    · rw [upd_ne h2, upd_same]
    · have := q dx h1 h2
      rw [upd_comm h2, upd_upd]
      have e : (List.zip [f, g] [y, z]).reverse = [(g, z), (f, y)] := rfl
      rw [e] at this
      rw [upd_comm h2] at this
      exact this
end

/-- an exception class of the package that keeps its arguments: its __init__ -/
structure XcK (K : PySem.W.Frag) (C fI : Addr) : Prop where
  oex : OexC K C
  iC : PySem.W.findIn K (.ref C) "__init__" = some (some (.ref fI))
  tI : PySem.W.typeIn K (.ref fI) = some (.type "function")
def sRaise (c : Str) (n : Nat) (fs : Ev (List D)) : Ex := fun ρ μ => (fs ρ μ).out ρ fun ds μ1 => if ds.length = n then .exc c ds.reverse ρ μ1 else .bad
theorem zip_rev {α β : Type} : ∀ {xs : List α} {ys : List β}, xs.length = ys.length → (xs.zip ys).reverse = xs.reverse.zip ys.reverse
  | [], [], _ => rfl
  | x :: xs, y :: ys, h => by
    have h : xs.length = ys.length := by simpa using h
    rw [List.zip_cons_cons, List.reverse_cons, List.reverse_cons, List.reverse_cons, zip_rev h, List.zip_append (by simpa using h)]
    rfl
  | [], _ :: _, h => by simp at h
  | _ :: _, [], h => by simp at h
theorem Reps.rev {G : Gx} {A : Al} {F : Hp} {vs : List V} {ds : List D} (r : Reps G A F vs ds) : Reps G A F vs.reverse ds.reverse := r.reverse
section
variable {X : Cx} {cls : Str → Option CI} {W : WX} {k j : Nat} {C fI : Addr} {fd : FuncData} {ps : List Str} {x : Str} {p pos pos2 : Pos} {e : Expr} {es : List Expr} {fs : Ev (List D)} {ns : List Str}
theorem s_raise (z : ZX X W k) (T : XcK X.K C fI) (F1 : FnOk X.prog X.w X.K X.mg X.base (L2.CX X.prog X.w) j fI fd ps (spX C ns)) (hb : Binds X.K fd ps []) (hg : Gl X x) (hm : X.mg x = some (.ref C)) {ci : CI} (hc : cls x = some ci) (ho : ci.order = ns.reverse) (hns : ns ≠ [])
    (ha : ZA X cls W (e :: es) fs) (hj : j + 1 ≤ k := by decide) (hdb : (x == ("__debug__" : Str)) = false := by decide) (he : starEach (e :: es) X.env = (false, eval e X.env) :: starEach es X.env := by rfl) (hpl : (backTo pos (starEach es X.env)).any (·.1) = false := by rfl) (hlen : ns.length ≤ 1000 := by decide) :
    ZS X cls W (.Raise (some (.Call (.Name x p) (e :: es) [] pos)) none pos2) (sRaise x ns.length fs) :=
  PS.of (ps_raise z.calm z.takes (pmk_oex T.oex T.iC T.tI F1 (z.room.mono hj) hb .nil (passes_call z.takes fun _ _ _ _ h => h.elim) hg hm ha hdb he hpl)) fun E σ H ⟨B, A, ρ, μ, rel, re, w⟩ => tV_stepS rel re w fun vs ds A1 H1 μ1 _ r1 re1 p1 st w1 => by
    have hl := p1.length
    split at w1
    · rename_i hn
      refine ⟨by omega, fun a ha => ⟨a, vs, by simp, by omega, upd_same, fun dx hdx hne => ⟨rfl, dx, (ns.zip vs).reverse, upd_same, ?_, ?_, ?_⟩⟩⟩
      · rw [upd_ne hne, upd_same]
      · rw [upd_ne hne] at hdx; exact hdx
      · have e : upd (del (upd (upd (upd H1 a (exo a C none)) dx (exd dx (ns.zip vs).reverse)) a (exo a C (some dx))) a) dx (.xd (ns.zip vs).reverse) = upd H1 dx (.xd (ns.zip vs).reverse) := by
          funext b
          by_cases e1 : b = dx
          · subst e1; rw [upd_same, upd_same]
          · rw [upd_ne e1, upd_ne e1]
            by_cases e2 : b = a
            · subst e2; rw [del_same, ha]
            · rw [del_ne e2, upd_ne e2, upd_ne e1, upd_ne e2]
        have hdx1 : H1 dx = none := by rw [upd_ne hne] at hdx; exact hdx
        rw [e]
        obtain ⟨r2, st2, hh⟩ := r1.frozen (o := .xd (ns.zip vs).reverse) hdx1
        refine w1 (.ref C) (some dx) σ A1 _ r2 (re1.mono st2) ⟨ci, C, hc, hm, rfl, ?_⟩ st2
        rw [ho]
        have hne : ns.reverse ≠ [] := by simpa using hns
        have hv : vs.reverse.length = ns.reverse.length := by simp; omega
        split
        · rename_i e0; exact absurd e0 hne
        · exact ⟨dx, vs.reverse, rfl, by rw [hh, zip_rev (by omega)], hv, (p1.mono st2.pre st2.sub).rev⟩
    · exact w1.elim
end
end Z

/-! try -/
namespace Z
open PySem PySem.Spec PyProof.Rows L2 SlX
section
open PySem.W PySem.Calls
variable {prog : Program} {w : World} {A : Around} {E : Value → Shared → Prop} {s : Shared} {K : Frag} {x D : Addr} {ox : Obj} {od : Option Obj}
theorem findObj_dataO {C : Addr} {name : Str} {a g : Value} (hc : (clsIn K C).isSome = true) (ha : findIn K (.ref C) name = some (some a)) (hg : specialIn K a "__get__" = some (some g)) (ht : takesIn K a = some true) : findObj K C od name = some (.bind g a) := by
  obtain ⟨cd, hc⟩ := Option.isSome_iff_exists.mp hc
  unfold findObj
  rw [hc, Option.bind_some, ha, Option.bind_some]
  simp [hg, ht]
theorem kin_classO {Q : Option Value → Shared → Prop} (c : ExcC K D)
    (X : K.In s.heap) (I : InstAt s.heap x ox D od) (h : Q (some (.ref D)) { s with toks := s.toks + 1 }) : wpAny (model prog w) A (getAttr? (.ref x) "__class__") Q E s := by
  obtain ⟨hga, hgt, hsub, hdct, ha, hn, htk, hm⟩ := c
  have hf : findObj K D od "__class__" = some (.bind (.builtin "getset_descriptor.__get__") (.builtin "object.__class__")) := findObj_dataO (by obtain ⟨cd, hc, _⟩ := any_some hdct; rw [hc]; rfl) ha hn htk
  obtain ⟨hp, g, d, t, os⟩ := s
  have L0 := I.type (M := model prog w)
  have L1 := looks_findIn (M := model prog w) X hga
  have L2 := looks_findIn (M := model prog w) X hgt
  have L3 := looks_find (M := model prog w) X I hf
  have sub : Looks (model prog w) hp (isInstance (.ref x) (.type "BaseException")) true := L0.andThen (looks_subIn X hsub)
  have hx0 : (false && onTheHeap (Value.builtin "BaseException.__getattribute__")) = false := rfl
  have hx2 : (Value.builtin "BaseException.__getattribute__" == Value.builtin "object.__getattribute__") = false := by decide +kernel
  have hx1 : (onTheHeap (Value.ref D) && Value.builtin "BaseException.__getattribute__" == Value.builtin "object.__getattribute__") = false := by rw [hx2]; rfl
  unfold getAttr? getAttrBy? getAttrBy
  refine wpAny_bind (wpAny_mkText (wpAny_bind (wpAny_attempt (wpAny_holding (wpAny_bind (L0.at (wpAny_bind (L1.at ?_))))))))
  show wpAny _ _ (if (onTheHeap (Value.ref D) && Value.builtin "BaseException.__getattribute__" == Value.builtin "object.__getattribute__") = true then _ else _) _ _ _
  rw [hx1, if_neg Bool.false_ne_true]
  unfold getAttrByItsOwn hookBefore
  refine wpAny_bind ?_
  rw [if_pos (show onTheHeap (Value.ref D) = true from rfl)]
  refine L2.at ?_
  refine wpAny_bind (wpAny_attempt (wpAny_holding ?_))
  unfold callGetattribute
  rw [hx0, if_neg Bool.false_ne_true]
  unfold boundAndCalled
  rw [PySem.F.excAttr_ValueError.ga.bind (.ref x)]
  refine wpAny_bind (wpAny_pure ?_)
  show wpAny _ _ (call (.builtin "BaseException.__getattribute__") [.ref x, .str "__class__" t]) _ _ _
  refine wpAny_call (codeAny_call_builtin PySem.F.excAttr_ValueError.ga.plain PySem.F.entry_bexc_ga ?_)
  refine @check_slot (model prog w) _ _ ⟨hp, g, d, t + 1, os⟩ "BaseException.__getattribute__" "BaseException" "__getattribute__" (.ref x) [.str "__class__" t] [] _ (by decide +kernel) (by decide +kernel) sub (PySem.F.args_bexc_ga (.ref x) (.str "__class__" t)) ?_
  unfold Builtin.«object.__getattribute__»
  refine wpAny_bind (wpAny_of_eq (a := ((Value.ref x : Value), [Value.str "__class__" t])) (by first | rfl | (simp only [slotArgs]; rfl)) ?_)
  refine wpAny_bind (wpAny_pure (wpAny_bind (L0.at (wpAny_bind (L3.at ?_)))))
  show wpAny _ _ (holding [Value.builtin "object.__class__"] (call (.builtin "getset_descriptor.__get__") [.builtin "object.__class__", .ref x, .ref D]) >>= ret) _ _ _
  refine wpAny_bind (wpAny_holding (wpAny_call (class_get (s := ⟨hp, g, d, t + 1, os⟩) (ox := ox) (od := od) X I hm ?_)))
  refine wpAny_pure ?_
  show wpAny _ _ (handedOut (.ref D)) _ _ _
  rw [handedOut_of (v := .ref D) rfl]
  first
    | exact wpAny_pure (wpAny_pure h)
    | exact wpAny_pure h
    | exact wpAny_pure (wpAny_bind (wpAny_pure (wpAny_pure h)))
theorem kitx_excO (c : ExcC K D) : KitX K (.ref x) (.ref D) (fun h => ∃ od, InstAt h x ox D od) where
  ty := fun _ _ _ ⟨od, I⟩ => I.type
  it := fun _ _ X _ => by
    obtain ⟨cdD, hcD, _⟩ := any_some c.hd
    unfold clsIn at hcD
    split at hcD
    · rename_i c' d' cd' sl' ho
      intro A' Q' E' s' k q
      unfold isType loadHead
      exact wpAny_bind (wpAny_loadPart (k _ _ (X _ _ ho)) (wpAny_pure q))
    · cases hcD
  ne := fun h tp dd its n sl X htp => by
    obtain ⟨cdD, hcD, _⟩ := any_some c.hd
    refine Bool.eq_false_iff.mpr fun q => ?_
    have e : D = tp := Value.ref.inj (beq_iff_eq.mp q)
    subst e
    unfold clsIn at hcD
    split at hcD
    · rename_i c' d' cd' sl' ho
      have z := (X _ _ ho).symm.trans htp
      cases z
    · cases hcD
  ca := fun X ⟨od, I⟩ k => kin_classO c X I k
end

/-! ### the readings of an except suite: the exception's class and its fields are told -/
def tVx {α β : Type} (G : Gx) (i : Nat) (R : Al → Hp → β → α → Prop) (f : Str → List D → Ev α) (a : Addr) (cl : Value) (d : Option Addr) : L2.St → Hp → (β → Hp → Prop) → Prop := fun σ H Q =>
  ∃ (B : Addr → Prop) (A : Al) (ρ : Env') (μ : Sto) (c : Str) (ds : List D), RelS G B A H μ ∧ RelE G A (hide B H A μ) σ ρ ∧ ExcAt G A (hide B H A μ) c ds cl d ∧ σ[i]? = some (some (.ref a)) ∧ Want G W0 R B A H μ σ (f c ds ρ μ) Q
abbrev tXx (G : Gx) (i : Nat) (f : Str → List D → Ev D) (a : Addr) (cl : Value) (d : Option Addr) : TE := tVx G i (fun A F v d => Rep G A F v d) f a cl d
abbrev tLx (G : Gx) (i : Nat) (f : Str → List D → Ev (List D)) (a : Addr) (cl : Value) (d : Option Addr) : TA := tVx G i (fun A F v d => Reps G A F v d) f a cl d
abbrev tTx (G : Gx) (i : Nat) (f : Str → List D → Ev Bool) (a : Addr) (cl : Value) (d : Option Addr) : TT := tVx G i (fun _ _ v d => v = d) f a cl d
def tSx (G : Gx) (i : Option Nat) (f : Str → List D → Ex) (a : Addr) (cl : Value) (d : Option Addr) : TS := fun E σ H => ∃ (B : Addr → Prop) (A : Al) (ρ : Env') (μ : Sto) (c : Str) (ds : List D), RelS G B A H μ ∧ RelE G A (hide B H A μ) σ ρ ∧ ExcAt G A (hide B H A μ) c ds cl d ∧
  (∀ j, i = some j → σ[j]? = some (some (.ref a))) ∧ WantS G W0 B A H μ (f c ds ρ μ) E
theorem ExcAt.step {G : Gx} {B : Addr → Prop} {A A1 : Al} {H H1 : Hp} {μ μ1 : Sto} {c : Str} {ds : List D} {cl : Value} {o : Option Addr} (h : ExcAt G A (hide B H A μ) c ds cl o) (st : Step B A H μ A1 H1 μ1) : ExcAt G A1 (hide B H1 A1 μ1) c ds cl o :=
  h.mono st.sub fun vs r => r.mono st.pre st.sub
/-- a part is evaluated, then the rest -/
theorem tVx_step {α β α' β' : Type} {G : Gx} {i : Nat} {a : Addr} {cl : Value} {d : Option Addr} {R : Al → Hp → β → α → Prop} {R' : Al → Hp → β' → α' → Prop} {B : Addr → Prop} {A : Al} {H : Hp} {σ : L2.St} {ρ : Env'} {μ : Sto} {c : Str} {ds : List D} {f : Str → List D → Ev α} {k : α → Sto → Res α'} {Q : β' → Hp → Prop} {Q1 : β → Hp → Prop}
    (rel : RelS G B A H μ) (re : RelE G A (hide B H A μ) σ ρ) (xa : ExcAt G A (hide B H A μ) c ds cl d) (sl : σ[i]? = some (some (.ref a))) (w : Want G W0 R' B A H μ σ ((f c ds ρ μ).bind k) Q)
    (h : ∀ v r A1 H1 μ1, RelS G B A1 H1 μ1 → RelE G A1 (hide B H1 A1 μ1) σ ρ → ExcAt G A1 (hide B H1 A1 μ1) c ds cl d → R A1 (hide B H1 A1 μ1) v r → Step B A H μ A1 H1 μ1 → Want G W0 R' B A1 H1 μ1 σ (k r μ1) Q → Q1 v H1) : tVx G i R f a cl d σ H Q1 := by
  refine ⟨B, A, ρ, μ, c, ds, rel, re, xa, sl, ?_⟩
  cases e : f c ds ρ μ with
  | ok r μ1 =>
    rw [e] at w
    exact fun v A1 H1 r1 p1 s1 => h v r A1 H1 μ1 r1 (re.mono s1) (xa.step s1) p1 s1 (Want.step w s1)
  | exc c ds μ1 =>
    rw [e] at w
    exact w
  | bad =>
    rw [e] at w
    exact w
def zXA (c0 : Str) (j : Nat) : Str → List D → Ev D := fun c ds _ μ => if c = c0 then (match ds[j]? with | some d => .ok d μ | none => .bad) else .bad
def zXIs (c0 : Str) (b : Bool) : Str → List D → Ev Bool := fun c _ _ μ => if c = c0 then .ok b μ else .bad
theorem lookup_zip {n : Str} : ∀ {order : List Str} {vs : List V} {j : Nat}, order.Nodup → order[j]? = some n → vs.length = order.length → (order.zip vs).lookup n = vs[j]?
  | [], _, _, _, h, _ => by simp at h
  | o :: os, [], _, _, _, hl => by simp at hl
  | o :: os, v :: vs, 0, nd, h, hl => by
    have : o = n := by simpa using h
    subst this
    simp
  | o :: os, v :: vs, j + 1, nd, h, hl => by
    have h : os[j]? = some n := by simpa using h
    have hne : (n == o) = false := by
      have nd := (List.nodup_cons.mp nd).1
      simp only [beq_eq_false_iff_ne]
      rintro rfl
      exact nd (List.mem_of_getElem? h)
    rw [List.zip_cons_cons, List.lookup_cons, hne]
    simpa using lookup_zip (List.nodup_cons.mp nd).2 h (by simpa using hl)
section
variable {X : Cx} {cls : Str → Option CI} {i : Nat} {a : Addr} {oe : Obj} {cl : Value} {d : Option Addr} {pn : List (Addr × Obj)} {pos p1 p2 p3 : Pos} {e e2 : Expr} {es : List Expr}
abbrev ZEx (X : Cx) (cls : Str → Option CI) (i : Nat) (a : Addr) (oe : Obj) (cl : Value) (d : Option Addr) (pn : List (Addr × Obj)) (e : Expr) (f : Str → List D → Ev D) : Prop := PE (X.suite a ((a, oe) :: pn)) e (tXx (gx X cls) i f a cl d)
theorem x_lift {f : Ev D} (h : ZE (X.suite a ((a, oe) :: pn)) cls W0 e f) : ZEx X cls i a oe cl d pn e (fun _ _ => f) :=
  PE.of h fun σ H Q ⟨B, A, ρ, μ, c, ds, rel, re, xa, sl, w⟩ => ⟨B, A, ρ, μ, rel, re, w⟩
theorem x_attr {C : Addr} {n c0 : Str} {ci : CI} {j : Nat} (T : XfC X.K C) (hno : PySem.W.findIn X.K (.ref C) n = some none) (hm : X.mg c0 = some (.ref C)) (hc : cls c0 = some ci) (hj : ci.order[j]? = some n) (nd : ci.order.Nodup)
    (hz : Zc cl d oe) (hf : ∃ vs, oe.data = .fields vs) {y : Str} (hN : X.N[i]? = some y := by rfl) (hv : Vis X.env.scope y := by first | exact Or.inl rfl | exact Or.inr (Or.inl rfl) | exact Or.inr (Or.inr rfl)) (hd : (y == ("__debug__" : Str)) = false := by decide) (hcd : (y == ("__classdict__" : Str)) = false := by decide)
    (hb : attributeBase (.Name y p1) n X.env (eval (.Name y p1) X.env) = eval (.Name y p1) X.env := by rfl) : ZEx X cls i a oe cl d pn (.Attribute (.Name y p1) n pos) (zXA c0 j) :=
  PE.of (pe_xf T hno hz hf (pe_var (X := X.suite a ((a, oe) :: pn)) (i := i) hN hv hd hcd) hb) fun σ H Q ⟨B, A, ρ, μ, c, ds, rel, re, xa, sl, w⟩ => by
    unfold zXA at w
    split at w
    · rename_i ec
      subst ec
      split at w
      · rename_i dj hdj
        obtain ⟨ci', C', h1, h2, h3, h4⟩ := xa
        have h1 : cls c = some ci' := h1
        have h2 : X.mg c = some (.ref C') := h2
        rw [hc] at h1; cases h1
        rw [hm] at h2; cases h2
        split at h4
        · rename_i e0; rw [e0] at hj; simp at hj
        · obtain ⟨dd, vs, h5, h6, h7, h8⟩ := h4
          obtain ⟨v, h9, h10⟩ := h8.get hdj
          exact ⟨_, sl, rfl, h3, dd, _, v, h5, hide_sub _ _ h6, by rw [lookup_zip nd hj h7]; exact h9, w.here rel h10⟩
      · exact w.elim
    · exact w.elim
theorem xa_nil : PA (X.suite a ((a, oe) :: pn)) [] (tLx (gx X cls) i (fun _ _ => zNil) a cl d) := PA.of pa_nil fun σ H Q ⟨B, A, ρ, μ, c, ds, rel, re, xa, sl, w⟩ => w [] A H rel rfl (Step.refl _ _ _ _)
theorem xa_cons {f : Str → List D → Ev D} {fs : Str → List D → Ev (List D)} (ha : ZEx X cls i a oe cl d pn e f) (hr : PA (X.suite a ((a, oe) :: pn)) es (tLx (gx X cls) i fs a cl d)) (hs : starEach (e :: es) X.env = (false, eval e X.env) :: starEach es X.env := by rfl) :
    PA (X.suite a ((a, oe) :: pn)) (e :: es) (tLx (gx X cls) i (fun c ds => zCons (f c ds) (fs c ds)) a cl d) :=
  PA.of (pa_cons ha hr hs) fun σ H Q ⟨B, A, ρ, μ, c, ds, rel, re, xa, sl, w⟩ => tVx_step rel re xa sl w fun v r A1 H1 μ1 r1 re1 xa1 p1 st w1 => tVx_step r1 re1 xa1 sl w1 fun vs rs A2 H2 μ2 r2 re2 xa2 p2 st2 w2 => w2 (v :: vs) A2 H2 r2 (.cons (p1.mono st2.pre st2.sub) p2) (Step.refl _ _ _ _)
theorem x_tup {fs : Str → List D → Ev (List D)} {k} (h : PA (X.suite a ((a, oe) :: pn)) es (tLx (gx X cls) i fs a cl d)) : ZEx X cls i a oe cl d pn (.Tuple es k pos) (fun c ds => zTup (fs c ds)) :=
  PE.of (pe_tup h) fun σ H Q ⟨B, A, ρ, μ, c, ds, rel, re, xa, sl, w⟩ => tVx_step rel re xa sl w fun vs rs A1 H1 μ1 r1 re1 xa1 p1 st w1 => by
    split at w1
    · rename_i hl
      have hl' := p1.length
      exact ⟨by rw [hl']; exact lim_le hl, fun p hp => w1.new r1 hp fun h s => rep_tup h s p1⟩
    · exact w1.elim
theorem x_if {f g : Str → List D → Ev D} {q : Str → List D → Ev Bool} {c : Expr} (hc : PT (X.suite a ((a, oe) :: pn)) c (tTx (gx X cls) i q a cl d)) (ha : ZEx X cls i a oe cl d pn e f) (hb : ZEx X cls i a oe cl d pn e2 g) : ZEx X cls i a oe cl d pn (.IfExp c e e2 pos) (fun c ds => zIf (q c ds) (f c ds) (g c ds)) :=
  PE.of (pe_ifExp hc ha hb) fun σ H Q ⟨B, A, ρ, μ, c, ds, rel, re, xa, sl, w⟩ => tVx_step rel re xa sl w fun v r A1 H1 μ1 r1 re1 xa1 p1 st w1 => by
    obtain rfl := show v = r from p1
    cases v with
    | true => exact (if_pos rfl).mpr ⟨B, A1, ρ, μ1, c, ds, r1, re1, xa1, sl, w1⟩
    | false => exact (if_neg Bool.false_ne_true).mpr ⟨B, A1, ρ, μ1, c, ds, r1, re1, xa1, sl, w1⟩
/-- isinstance(e, T), e the exception that the suite holds -/
theorem x_is {C Ct : Addr} {c0 T y : Str} {b : Bool} {ci : CI} (Tc : ExcC X.K C) (hm : X.mg c0 = some (.ref C)) (hc : cls c0 = some ci) (hne : ci.order ≠ []) (hk : PySem.W.kitOne X.K (.ref C) (.ref Ct) = some b) (hg : Gl X T) (hT : X.mg T = some (.ref Ct)) (hgi : Gl X "isinstance") (hmi : X.mg "isinstance" = none)
    (hz : Zc cl d oe) (hf : ∃ vs, oe.data = .fields vs) (hN : X.N[i]? = some y := by rfl) (hv : Vis X.env.scope y := by first | exact Or.inl rfl | exact Or.inr (Or.inl rfl) | exact Or.inr (Or.inr rfl)) (hd : (y == ("__debug__" : Str)) = false := by decide) (hcd : (y == ("__classdict__" : Str)) = false := by decide) (hd2 : (T == ("__debug__" : Str)) = false := by decide)
    (he : starEach [.Name y p1, .Name T p2] X.env = (false, eval (.Name y p1) X.env) :: starEach [.Name T p2] X.env := by rfl) (hpl : (backTo pos (starEach [.Name T p2] X.env)).any (·.1) = false := by rfl) (hs : starEach [.Name T p2] X.env = (false, eval (.Name T p2) X.env) :: starEach [] X.env := by rfl)
    (hi : ∀ whole, isTrue (.Call (.Name "isinstance" p3) [.Name y p1, .Name T p2] [] pos) X.env whole = (do let v ← whole; standAt (Expr.pos (.Call (.Name "isinstance" p3) [.Name y p1, .Name T p2] [] pos)); holding [v] (truthy v)) := by intro _; rfl) :
    PT (X.suite a ((a, oe) :: pn)) (.Call (.Name "isinstance" p3) [.Name y p1, .Name T p2] [] pos) (tTx (gx X cls) i (zXIs c0 b) a cl d) := by
  refine PT.of (pt_val (pe_callB (X := X.suite a ((a, oe) :: pn)) (r := fun xs H Q => xs = [.ref a, .ref Ct] ∧ cl = .ref C ∧ (∃ dd dfs, d = some dd ∧ H dd = some (.xd dfs)) ∧ Q (.bl b) H) ?_ hgi hmi Boot.«isinstance» (pa_cons (pe_var hN hv hd hcd) (pa_cons (pe_glob (v := .ref Ct) hg hT rfl hd2) pa_nil hs) he) (by decide) (by decide) he hpl) hi) fun σ H Q ⟨B, A, ρ, μ, c, ds, rel, re, xa, sl, w⟩ => ?_
  · intro pins s σ H xs us Q I r ⟨ex, ec, ⟨dd, dfs, ed, hd⟩, q⟩
    subst ex; subst ec; subst ed
    cases r with
    | cons rx rr =>
      cases rr with
      | cons rt rr =>
        cases rr
        cases rx
        rename_i u
        obtain rfl := show u = Value.ref Ct from rt
        obtain ⟨hget, _⟩ := I.pin (a, oe) (List.mem_append.mpr (.inl List.mem_cons_self))
        obtain ⟨vs, hv⟩ := hf
        have hx : ObjOk X.prog X.w H s.heap dd (.xd dfs) := I.hok dd _ hd
        obtain ⟨mA, ⟨o, _, _, ho, _⟩, _⟩ := hx
        have J : PySem.W.InstAt s.heap a oe C (some o) := ⟨hget, hz.1, by unfold PySem.W.notCls; rw [hv] <;> rfl, by rw [hz.2]; exact ho⟩
        exact PySem.W.kia_one (kitx_excO Tc) I.kIn ⟨_, J⟩ hk (fun z => nomatch z) fun tk => ⟨.bl b, H, I.kept (t' := tk) fun _ _ z => z, rfl, q⟩
  · unfold zXIs at w
    split at w
    · rename_i ec
      subst ec
      refine ⟨_, sl, rfl, ?_⟩
      obtain ⟨ci', C', h1, h2, h3, h4⟩ := xa
      have h2 : X.mg c = some (.ref C') := h2
      rw [hm] at h2; cases h2
      have h1 : cls c = some ci' := h1
      rw [hc] at h1; cases h1
      refine ⟨h3, ?_, b, rfl, w b A H rel rfl (Step.refl _ _ _ _)⟩
      split at h4
      · rename_i e0; exact absurd e0 hne
      · obtain ⟨dd, vs, h5, h6, _⟩ := h4
        exact ⟨dd, _, h5, hide_sub _ _ h6⟩
    · exact w.elim
/-! the statements of a suite -/
abbrev ZSx (X : Cx) (cls : Str → Option CI) (i : Option Nat) (a : Addr) (oe : Obj) (cl : Value) (d : Option Addr) (pn : List (Addr × Obj)) (st : Stmt) (f : Str → List D → Ex) : Prop := PS (X.suite a ((a, oe) :: pn)) st (tSx (gx X cls) i f a cl d)
abbrev ZSsx (X : Cx) (cls : Str → Option CI) (i : Option Nat) (a : Addr) (oe : Obj) (cl : Value) (d : Option Addr) (pn : List (Addr × Obj)) (st : List Stmt) (f : Str → List D → Ex) : Prop := PSs (X.suite a ((a, oe) :: pn)) st (tSx (gx X cls) i f a cl d)
theorem xs_asg {f : Str → List D → Ev D} {m : Nat} {y : Str} (he : ZEx X cls i a oe cl d pn e f) (hN : X.N.Nodup) (hi : X.N[m]? = some y := by rfl) (hx : Loc X.env.scope y := by first | exact Or.inl rfl | exact Or.inr rfl) (hf : X.fn y = true ∨ X.env.scope.names.lookup y = some .local := by first | exact .inl rfl | exact .inr rfl)
    (hs : swapsWithSole [.Name y p1] e pos.line X.env = pure false := by rfl) (hw : swappedStores [.Name y p1] e X.env = pure none := by rfl) (h1 : (assignEach [.Name y p1] X.env).map (·.2) = [assign (.Name y p1) X.env] := by rfl) :
    ZSx X cls (some i) a oe cl d pn (.Assign [.Name y p1] e pos) (fun c ds => sAsg (f c ds) (gN m)) :=
  PS.of (ps_asg he (pg_name (X := X.suite a ((a, oe) :: pn)) (i := m) hN hi hx hf) hs hw h1) fun E σ H ⟨B, A, ρ, μ, c, ds, rel, re, xa, sl, w⟩ => by
    refine ⟨B, A, ρ, μ, c, ds, rel, re, xa, sl i rfl, ?_⟩
    have w : WantS (gx X cls) W0 B A H μ ((f c ds ρ μ).out ρ fun d μ1 => outO (gN m d ρ) μ1) E := w
    cases e : f c ds ρ μ with
    | ok r μ1 =>
      rw [e] at w
      exact fun v A1 H1 r1 p1 s1 => w _ A1 H1 r1 ((re.mono s1).set m p1) s1
    | exc c' ds' μ1 =>
      rw [e] at w
      exact fun cl' o' A1 H1 r1 x1 s1 => w cl' o' σ A1 H1 r1 (re.mono s1) x1 s1
    | bad =>
      rw [e] at w
      exact w
theorem xs_lift {st : Stmt} {j : Option Nat} {f : Ex} (h : ZS (X.suite a ((a, oe) :: pn)) cls W0 st f) : ZSx X cls j a oe cl d pn st (fun _ _ => f) :=
  PS.of h fun E σ H ⟨B, A, ρ, μ, c, ds, rel, re, xa, sl, w⟩ => ⟨B, A, ρ, μ, rel, re, w⟩
theorem xss_lift {st : List Stmt} {j : Option Nat} {f : Ex} (h : ZSs (X.suite a ((a, oe) :: pn)) cls W0 st f) : ZSsx X cls j a oe cl d pn st (fun _ _ => f) :=
  PSs.of h fun E σ H ⟨B, A, ρ, μ, c, ds, rel, re, xa, sl, w⟩ => ⟨B, A, ρ, μ, rel, re, w⟩
theorem xss_one {st : Stmt} {j : Option Nat} {f : Str → List D → Ex} (h : ZSx X cls j a oe cl d pn st f) : ZSsx X cls j a oe cl d pn [st] f := pss_one h
end

/-! ### try -/
def clearI (i : Option Nat) (o : Out) : Out := match i with
  | none => o
  | some i => match o with
    | .nx ρ μ => .nx (ρ.set i none) μ
    | .bk ρ μ => .bk (ρ.set i none) μ
    | .ct ρ μ => .ct (ρ.set i none) μ
    | o => o
def setI (i : Option Nat) (ρ : Env') : Env' := match i with
  | none => ρ
  | some i => ρ.set i none
def inI (i : Option Nat) (ρ : Env') : Bool := match i with
  | none => true
  | some i => decide (i < ρ.length)
/-- try: body / except X as e: h. m: whether the class is caught -/
def sTry (m : Str → Option Bool) (i : Option Nat) (body : Ex) (h : Str → List D → Ex) : Ex := fun ρ μ => match body ρ μ with
  | .exc c ds ρ1 μ1 => match m c with
    | some true => if inI i ρ1 then clearI i (h c ds (setI i ρ1) μ1) else .bad
    | some false => .exc c ds ρ1 μ1
    | none => .bad
  | o => o
theorem RelE.hole {G : Gx} {A : Al} {F : Hp} {σ : L2.St} {ρ : Env'} (i : Nat) (v : Option V) (h : RelE G A F σ ρ) : RelE G A F (σ.set i v) (ρ.set i none) := by
  refine ⟨by simp [h.1], fun j e hj => ?_⟩
  by_cases z : j = i
  · subst z
    have hl : j < ρ.length := by have := (List.getElem?_eq_some_iff.mp hj).1; simpa using this
    rw [List.getElem?_set_self hl] at hj
    cases hj
  · rw [List.getElem?_set_ne (Ne.symm z)] at hj
    obtain ⟨u, h1, h2⟩ := h.2 j e hj
    exact ⟨u, by rw [List.getElem?_set_ne (Ne.symm z)]; exact h1, h2⟩
theorem WantS.exc0 {G : Gx} {W : WX} {B : Addr → Prop} {A : Al} {H : Hp} {μ : Sto} {o : Out} {E : Ends} (h : ∀ c ds ρ μ, o ≠ .exc c ds ρ μ) (w : WantS G W B A H μ o E) : WantS G W0 B A H μ o E := by
  cases o with
  | exc c ds ρ μ => exact absurd rfl (h c ds ρ μ)
  | nx _ _ => exact w
  | rt _ _ => exact w
  | bk _ _ => exact w
  | ct _ _ => exact w
  | bad => exact w
/-- what a suite gives: no exception -/
def noX (o : Out) : Out := match o with
  | .exc _ _ _ _ => .bad
  | o => o
theorem noX_ne (o : Out) : ∀ c ds ρ μ, noX o ≠ .exc c ds ρ μ := by
  intro c ds ρ μ
  cases o <;> simp [noX]
section
variable {X : Cx} {cls : Str → Option CI} {W : WX} {k i : Nat} {x n : Str} {body suite : List Stmt} {b₀ : Stmt} {np pos pos' : Pos} {f : Ex} {h : Str → List D → Ex} {m : Str → Option Bool}
/-- the clause: which classes are caught -/
def Catches (X : Cx) (cls : Str → Option CI) (c0 : Value) (m : Str → Option Bool) : Prop := ∀ c ci C b, cls c = some ci → X.mg c = some (.ref C) → m c = some b → PySem.W.exmOne X.K (.ref C) c0 = some b
theorem ZX.tr (z : ZX X W k) {W' : WX} {pn : List (Addr × Obj)} {xe : Value → Shared → Prop} (tk : Takes (X.tr pn xe) W') (ow : PassesOwn (model X.prog X.w) X.A X.env xe) : ZX (X.tr pn xe) W' k := ⟨z.calm, z.nd, z.room, tk, ow⟩
theorem s_try {c0 : Value} (z : ZX X W k) (hs : X.stack = X.env :: X.outer) (hf : X.env.frame = some X.env.locals) (hi : X.N[i]? = some n) (hln : X.env.kindOf n = some .local) (hc : Names X x c0) (hm : Catches X cls c0 m)
    (hb : ∀ (W' : WX) (pn : List (Addr × Obj)) (xe : Value → Shared → Prop), ZX (X.tr pn xe) W' k → ZSs (X.tr pn xe) cls W' body f)
    (hsu : ∀ (a : Addr) (oe : Obj) (cl : Value) (d : Option Addr) (pn : List (Addr × Obj)), Zc cl d oe → (∃ vs, oe.data = .fields vs) → ZSsx X cls (some i) a oe cl d pn (b₀ :: suite) h) :
    ZS X cls W (.Try body [.ExceptHandler (some (.Name x np)) (some n) (b₀ :: suite) pos'] [] [] pos) (sTry m (some i) f (fun c ds ρ μ => noX (h c ds ρ μ))) := by
  refine PS.of (ps_try_as (tb := fun W' => tS (gx X cls) W' f) hs hf z.nd hi hln hc z.takes (fun W' pn xe tk ow => hb W' pn xe (z.tr tk ow)) hsu) fun E σ H ⟨B, A, ρ, μ, rel, re, w⟩ => ⟨B, A, ρ, μ, rel, re, ?_⟩
  unfold sTry at w
  cases e : f ρ μ with
  | exc c ds ρ1 μ1 =>
    rw [e] at w
    intro cl o σ1 A1 H1 r1 re1 xa st
    dsimp only at w
    obtain ⟨ci, C, h1, h2, h3, h4⟩ := id xa
    split at w
    · rename_i em
      split at w
      case isFalse => exact w.elim
      rename_i hin
      have hil : i < σ1.length := by rw [← re1.1]; exact of_decide_eq_true hin
      refine ⟨true, by rw [h3]; exact hm c ci C true h1 h2 em, fun _ a ha => ?_, fun q => Bool.noConfusion q⟩
      refine ⟨B, A1, ρ1.set i none, μ1, c, ds, r1, re1.hole i _, xa, fun j hj => by cases hj; exact List.getElem?_set_self hil, ?_⟩
      have w := WantS.step w st
      cases e5 : h c ds (ρ1.set i none) μ1 with
      | nx ρ5 μ5 =>
        unfold clearI setI at w
        dsimp only at w
        rw [e5] at w
        exact fun σ5 A5 H5 r5 re5 st5 => w _ A5 H5 r5 (re5.hole i none) st5
      | bk ρ5 μ5 =>
        unfold clearI setI at w
        dsimp only at w
        rw [e5] at w
        exact fun σ5 A5 H5 r5 re5 st5 => w _ A5 H5 r5 (re5.hole i none) st5
      | ct ρ5 μ5 =>
        unfold clearI setI at w
        dsimp only at w
        rw [e5] at w
        exact fun σ5 A5 H5 r5 re5 st5 => w _ A5 H5 r5 (re5.hole i none) st5
      | rt d μ5 =>
        unfold clearI setI at w
        dsimp only at w
        rw [e5] at w
        exact w
      | exc c5 ds5 ρ5 μ5 =>
        unfold clearI setI at w
        dsimp only at w
        rw [e5] at w
        exact w.elim
      | bad =>
        unfold clearI setI at w
        dsimp only at w
        rw [e5] at w
        exact w.elim
    · rename_i em
      exact ⟨false, by rw [h3]; exact hm c ci C false h1 h2 em, fun q => Bool.noConfusion q, fun _ => w cl o σ1 A1 H1 r1 re1 xa st⟩
    · exact w.elim
  | nx ρ1 μ1 => rw [e] at w; exact w
  | rt d μ1 => rw [e] at w; exact w
  | bk ρ1 μ1 => rw [e] at w; exact w
  | ct ρ1 μ1 => rw [e] at w; exact w
  | bad => rw [e] at w; exact w
end
end Z

/-! items, slices, minus -/
namespace Z
open PySem PySem.Spec PyProof.Rows L2 SlX

def negO (a : D) (μ : Sto) : Res D := match a with
  | .int i => .ok (.int (-i)) μ
  | _ => .bad
def itemO (a b : D) (μ : Sto) : Option D := match a, b with
  | .str z, .int i => if z.length ≤ lim then (atI z.cps.toList i).map fun c => .str ⟨#[c]⟩ else none
  | .tup ds, .int i => atI ds i
  | a, b => match asL μ a with
    | some ds => match b with
      | .int i => atI ds i
      | _ => none
    | none => match asD μ a, b.kk with
      | some (ks, vs), some k => D.look ks vs k
      | _, _ => none
def zIx (f g : Ev D) : Ev D := zBin (fun a b μ => okO (itemO a b μ) μ) f g
def cutA {α : Type} (xs : List α) (lo hi : Option Int) : List α := (xs.drop (HT.sIx xs.length 0 lo)).take (HT.sIx xs.length xs.length hi - HT.sIx xs.length 0 lo)
def cutO (m : Bool) (d : D) (lo hi : Option Int) (μ : Sto) : Res D := match d with
  | .str z => if z.length ≤ lim then .ok (.str (cutS z lo hi)) μ else .bad
  | .tup ds => .ok (.tup (cutA ds lo hi)) μ
  | d => match asL μ d with
    | some ds => mkL m (cutA ds lo hi) μ
    | none => .bad
def zPart (f : Ev D) : Ev (Option Int) := fun ρ μ => (f ρ μ).bind fun d μ1 => match d with
  | .int i => .ok (some i) μ1
  | _ => .bad
def zNoPart : Ev (Option Int) := fun _ μ => .ok none μ
def zSl (m : Bool) (f : Ev D) (lo hi : Ev (Option Int)) : Ev D := fun ρ μ => (f ρ μ).bind fun d μ1 => (lo ρ μ1).bind fun l μ2 => (hi ρ μ2).bind fun h μ3 => cutO m d l h μ3
def zRev (m : Bool) (f : Ev D) : Ev D := fun ρ μ => (f ρ μ).bind fun d μ1 => match asL μ1 d with
  | some ds => mkL m ds.reverse μ1
  | none => .bad
section
variable {X : Cx} {cls : Str → Option CI} {W : WX} {k : Nat} {a b e : Expr} {f g : Ev D} {pos p1 p2 p3 : Pos}
theorem neg_ok : Ok1 X cls W (unaryOp .USub) negO := by
  intro pins s σ H B A μ x v d Q I rel ra rx w
  unfold negO at w
  split at w
  · obtain rfl := show x = _ from ra
    exact un_neg pins s σ H _ v Q I rx ⟨_, rfl, w.here rel rfl⟩
  · exact w.elim
theorem atI_map {α : Type} {xs : List α} {n : Nat} (h : xs.length = n) {i : Int} {v : α} (e : (ixN n i).bind (fun j => xs[j]?) = some v) : atI xs i = some v := by
  unfold atI; rw [h]; exact e
theorem reps_atI {G : Gx} {A : Al} {F : Hp} {vs : List V} {ds : List D} (r : Reps G A F vs ds) {i : Int} {d : D} (h : atI ds i = some d) : ∃ v, atI vs i = some v ∧ Rep G A F v d := by
  unfold atI at h ⊢
  rw [r.length]
  cases e : ixN ds.length i with
  | none => rw [e] at h; cases h
  | some j =>
    rw [e] at h
    exact r.get h
theorem item_at {pins : List (Addr × Obj)} {s : Shared} {σ : L2.St} {H : Hp} {B : Addr → Prop} {A : Al} {μ : Sto} {x y : V} {v u : Value} {dx dy d : D} {Q : VK} {value slice : Expr} (hu : X.A.units + 100 < cLine) (I : Inv X pins σ H s) (rel : RelS (gx X cls) B A H μ) (ra : Rep (gx X cls) A (hide B H A μ) x dx) (rb : Rep (gx X cls) A (hide B H A μ) y dy)
    (rx : RelV x v) (ry : RelV y u) (e : itemO dx dy μ = some d) (q : ∀ z, Rep (gx X cls) A (hide B H A μ) z d → Q z H) (hs : subscripted slice false v u = operate [v, u] (getItem v u)) : wpAny (model X.prog X.w) X.A (subscriptTail value slice v u) (EP X pins σ Q) X.xe s := by
  unfold itemO at e
  split at e
  · rename_i z i
    split at e
    · rename_i hz
      obtain ⟨c, h1, rfl⟩ := Option.map_eq_some_iff.mp e
      obtain rfl := show x = _ from ra
      obtain rfl := show y = _ from rb
      exact ix_str value slice pins s σ H _ _ v u Q I rx ry ⟨z, i, c, rfl, rfl, lim_le hz, h1, q _ rfl⟩ hs
    · cases e
  · rename_i ds i
    obtain ⟨p, vs, rfl, h1, h2⟩ := ra
    obtain rfl := show y = _ from rb
    obtain ⟨z, h3, h4⟩ := reps_atI h2 e
    exact ix_tup value slice pins s σ H _ _ v u Q I rx ry ⟨p, vs, i, z, rfl, rfl, hide_sub.sqt h1, h3, q _ h4⟩ hs
  · split at e
    · rename_i ds hL
      obtain ⟨p, vs, rfl, h1, h2⟩ := asL_ok rel ra hL
      split at e
      · rename_i i
        obtain rfl := show y = _ from rb
        obtain ⟨z, h3, h4⟩ := reps_atI h2 e
        exact ix_list value slice pins s σ H _ _ v u Q I rx ry ⟨p, vs, _, z, rfl, rfl, h1, h3, q _ h4⟩ hs
      · cases e
    · split at e
      · rename_i ks vs' k hD hk
        obtain ⟨p, es, rfl, h1, h2, h3, h4, h5, h6⟩ := asD_ok rel ra hD
        obtain rfl := show v = _ from rx
        obtain ⟨hz, hsy, xs, ho, hp, hk2⟩ := dic_read I hide_sub (cls := cls) (vs := vs') h1 h2 h4 h5 h6
        obtain ⟨_, l2⟩ := at_look hp h4 h3 (k := k)
        obtain ⟨z, w, h7, h8, h9⟩ := l2 d e
        exact tail_any ho.typeIs slot_dict_getitem.lookup (item_N (by omega) (kis_of I hide_sub rb ry hk) ho hk2 h7 ⟨z, H, I.tok _, h8, q z h9⟩) hs
      · cases e
theorem e_ix (z : ZX X W k) (ha : ZE X cls W a f) (hb : ZE X cls W b g) (hs : PlainIx b := by intro _ _; rfl) : ZE X cls W (.Subscript a b pos) (zIx f g) :=
  ⟨fun pins s σ H Q I ⟨B, A, ρ, μ, rel, re, w⟩ => Subscript_ (ev1 ha I rel re w fun v s1 x d A1 H1 μ1 I1 rx r1 re1 p1 st w1 => ev1 hb I1 r1 re1 w1 fun u s2 y d2 A2 H2 μ2 I2 ry r2 re2 p2 st2 w2 => by
    obtain ⟨r, e, q⟩ := okO_want1 w2
    exact item_at z.u I2 r2 (p1.mono st2.pre st2.sub) p2 rx ry e (fun y h => q y h r2) (hs _ _))⟩
/-! slices -/
abbrev ZP (X : Cx) (cls : Str → Option CI) (W : WX) (e : Option Expr) (f : Ev (Option Int)) : Prop := PO X e (tV (gx X cls) W (fun _ _ v d => v = d) f)
theorem p_none : ZP X cls W none zNoPart := ⟨fun pins s σ H Q I ⟨B, A, ρ, μ, rel, re, w⟩ => po_none.run pins s σ H Q I (w none A H rel rfl (Step.refl _ _ _ _))⟩
theorem p_some (h : ZE X cls W e f) : ZP X cls W (some e) (zPart f) := ⟨fun pins s σ H Q I ⟨B, A, ρ, μ, rel, re, w⟩ => (po_some h).run pins s σ H Q I (tV_step rel re w fun v d A1 H1 μ1 _ r1 re1 p1 st w1 => by
    split at w1
    · rename_i i
      exact ⟨_, p1, w1 (some _) A1 H1 r1 rfl (Step.refl _ _ _ _)⟩
    · exact w1.elim)⟩
theorem cut_reps {G : Gx} {A : Al} {F : Hp} {vs : List V} {ds : List D} (r : Reps G A F vs ds) (lo hi : Option Int) : Reps G A F (cutV vs lo hi) (cutA ds lo hi) := by
  unfold cutV cutA
  rw [r.length]
  exact (r.drop _).take _
theorem e_sl {m : Bool} {lo hi : Option Expr} {fl fh : Ev (Option Int)} (ha : ZE X cls W a f) (hl : ZP X cls W lo fl) (hh : ZP X cls W hi fh) : ZE X cls W (.Subscript a (.Slice lo hi none p2) pos) (zSl m f fl fh) :=
  PE.of (pe_slice (sl_list.or (sl_tupA.or sl_str)) ha hl hh) fun σ H Q ⟨B, A, ρ, μ, rel, re, w⟩ => tV_step rel re w fun v d A1 H1 μ1 hx1 r1 re1 p1 st1 w1 => tV_step r1 re1 w1 fun l l' A2 H2 μ2 hx2 r2 re2 el st2 w2 => tV_step r2 re2 w2 fun h h' A3 H3 μ3 hx3 r3 re3 eh st3 w3 => by
    clear hx1 hx2 hx3
    obtain rfl := show l = l' from el
    obtain rfl := show h = h' from eh
    have p3 := p1.mono (st2.trans st3).pre (st2.trans st3).sub
    unfold cutO at w3
    split at w3
    · rename_i z
      split at w3
      · rename_i hz
        obtain rfl := show v = _ from p3
        exact .inr (.inr ⟨z, rfl, lim_le hz, w3.here r3 rfl⟩)
      · exact w3.elim
    · rename_i ds
      obtain ⟨p, vs, rfl, h1, h2⟩ := p3
      refine .inr (.inl ⟨p, vs, rfl, hide_sub.sqt h1, fun hw => ?_, fun hw q hq => w3.new r3 hq fun hh s => rep_tup hh s (cut_reps h2 l h)⟩)
      refine w3.here r3 ⟨p, vs, rfl, h1, ?_⟩
      have : cutA ds l h = ds := by
        unfold cutA
        rw [h2.length] at hw
        rw [hw.1, hw.2]
        simp
      rw [this]; exact h2
    · split at w3
      · rename_i ds hL
        obtain ⟨p, vs, rfl, h1, h2⟩ := asL_ok r3 p3 hL
        exact .inl ⟨p, vs, rfl, h1, fun q hq => w3.mkL r3 (cut_reps h2 l h) hq⟩
      · exact w3.elim
theorem e_rev {m : Bool} {k : Nat} (ha : ZE X cls W a f) : ZE X cls W (.Subscript a (.Slice none none (some (.UnaryOp .USub (.Constant (.int 1) k p1) p2)) p3) pos) (zRev m f) :=
  PE.of (pe_revL ha) fun σ H Q ⟨B, A, ρ, μ, rel, re, w⟩ => tV_step rel re w fun v d A1 H1 μ1 _ r1 re1 p1 st1 w1 => by
    split at w1
    · rename_i ds hL
      obtain ⟨p, vs, rfl, h1, h2⟩ := asL_ok r1 p1 hL
      exact ⟨p, vs, rfl, h1, fun q hq => w1.mkL r1 h2.reverse hq⟩
    · exact w1.elim
end
end Z

/-! built-in functions -/
namespace Z
open PySem PySem.Spec PyProof.Rows L2 SlX

def zB (op : List D → Sto → Res D) (f : Ev (List D)) : Ev D := fun ρ μ => (f ρ μ).bind fun ds μ1 => op ds μ1
section
variable {X : Cx} {cls : Str → Option CI} {W : WX} {k : Nat} {x : Str} {e : Expr} {es : List Expr} {fs : Ev (List D)} {op : List D → Sto → Res D} {p pos : Pos} {id T : String}
theorem e_blt (hg : Gl X x) (hm : X.mg x = none) (hv : bootBuiltins x = some (.builtin id)) (ho : OkN X cls W (fun us => call (.builtin id) us) op) (ha : ZA X cls W (e :: es) fs) (hn : x ≠ "__name__" := by decide) (hdb : (x == ("__debug__" : Str)) = false := by decide)
    (he : starEach (e :: es) X.env = (false, eval e X.env) :: starEach es X.env := by rfl) (hpl : (backTo pos (starEach es X.env)).any (·.1) = false := by rfl) : ZE X cls W (.Call (.Name x p) (e :: es) [] pos) (zB op fs) :=
  ⟨fun pins s σ H Q I ⟨B, A, ρ, μ, rel, re, w⟩ => wpAny_Call_Name_kw (ld_blt I hg hm hv (PyProof.Rows.callWith_builtin1 (ev1A ha I rel re w fun us s1 xs ds A1 H1 μ1 I1 rx r1 re1 p1 st1 w1 => ho pins s1 σ H1 B A1 μ1 xs us ds Q I1 r1 p1 rx w1) he hpl) hn hdb)⟩
theorem e_ty (hg : Gl X x) (hm : X.mg x = none) (hv : bootBuiltins x = some (.type T)) (ho : OkN X cls W (fun us => call (.type T) us) op) (ha : ZA X cls W (e :: es) fs) (hn : x ≠ "__name__" := by decide) (hdb : (x == ("__debug__" : Str)) = false := by decide)
    (he : starEach (e :: es) X.env = (false, eval e X.env) :: starEach es X.env := by rfl) (hpl : (backTo pos (starEach es X.env)).any (·.1) = false := by rfl) : ZE X cls W (.Call (.Name x p) (e :: es) [] pos) (zB op fs) :=
  ⟨fun pins s σ H Q I ⟨B, A, ρ, μ, rel, re, w⟩ => wpAny_Call_Name_kw (ld_blt I hg hm hv (PyProof.Rows.callWith_type1 (ev1A ha I rel re w fun us s1 xs ds A1 H1 μ1 I1 rx r1 re1 p1 st1 w1 => ho pins s1 σ H1 B A1 μ1 xs us ds Q I1 r1 p1 rx w1) he hpl) hn hdb)⟩
end
section
variable {G : Gx} {A : Al} {F : Hp}
theorem reps1 {xs : List V} {d : D} (h : Reps G A F xs [d]) : ∃ x, xs = [x] ∧ Rep G A F x d := by
  obtain ⟨v, r, rfl, h1, rfl⟩ := h
  exact ⟨v, rfl, h1⟩
theorem reps2 {xs : List V} {d e : D} (h : Reps G A F xs [d, e]) : ∃ x y, xs = [x, y] ∧ Rep G A F x d ∧ Rep G A F y e := by
  obtain ⟨v, r, rfl, h1, v2, r2, rfl, h2, rfl⟩ := h
  exact ⟨v, v2, rfl, h1, h2⟩
def D.ints : List D → Option (List Int)
  | [] => some []
  | .int i :: ds => (D.ints ds).map (i :: ·)
  | _ => none
def D.strs : List D → Option (List Str)
  | [] => some []
  | .str i :: ds => (D.strs ds).map (i :: ·)
  | _ => none
def D.bls : List D → Option (List Bool)
  | [] => some []
  | .bl i :: ds => (D.bls ds).map (i :: ·)
  | _ => none
theorem ints_reps : ∀ {ds : List D} {ns : List Int} {vs : List V}, D.ints ds = some ns → Reps G A F vs ds → vs = ns.map V.int
  | [], _, _, h, r => by cases h; exact r
  | d :: ds, ns, vs, h, r => by
    obtain ⟨v, r', rfl, h1, h2⟩ := r
    cases d with
    | int i =>
      obtain ⟨l, h3, rfl⟩ := Option.map_eq_some_iff.mp (show (D.ints ds).map (i :: ·) = some ns from h)
      rw [ints_reps h3 h2, show v = .int i from h1]; rfl
    | _ => cases h
theorem strs_reps : ∀ {ds : List D} {ns : List Str} {vs : List V}, D.strs ds = some ns → Reps G A F vs ds → vs = ns.map V.str
  | [], _, _, h, r => by cases h; exact r
  | d :: ds, ns, vs, h, r => by
    obtain ⟨v, r', rfl, h1, h2⟩ := r
    cases d with
    | str i =>
      obtain ⟨l, h3, rfl⟩ := Option.map_eq_some_iff.mp (show (D.strs ds).map (i :: ·) = some ns from h)
      rw [strs_reps h3 h2, show v = .str i from h1]; rfl
    | _ => cases h
theorem bls_reps : ∀ {ds : List D} {ns : List Bool} {vs : List V}, D.bls ds = some ns → Reps G A F vs ds → vs = ns.map V.bl
  | [], _, _, h, r => by cases h; exact r
  | d :: ds, ns, vs, h, r => by
    obtain ⟨v, r', rfl, h1, h2⟩ := r
    cases d with
    | bl i =>
      obtain ⟨l, h3, rfl⟩ := Option.map_eq_some_iff.mp (show (D.bls ds).map (i :: ·) = some ns from h)
      rw [bls_reps h3 h2, show v = .bl i from h1]; rfl
    | _ => cases h
theorem reps_ints : ∀ ns : List Int, Reps G A F (ns.map V.int) (ns.map D.int)
  | [] => rfl
  | n :: ns => ⟨.int n, _, rfl, rfl, reps_ints ns⟩
theorem reps_strs : ∀ ns : List Str, Reps G A F (ns.map V.str) (ns.map D.str)
  | [] => rfl
  | n :: ns => ⟨.str n, _, rfl, rfl, reps_strs ns⟩
end

/-! ### what they do -/
def lenB (ds : List D) (μ : Sto) : Res D := match ds with
  | [d] => okO ((lenO d μ).map fun n : Nat => D.int (n : Int)) μ
  | _ => .bad
def allB (ds : List D) (μ : Sto) : Res D := match ds with
  | [d] => okO (((asL μ d).bind D.bls).map fun bs => .bl (bs.all id)) μ
  | _ => .bad
def anyB (ds : List D) (μ : Sto) : Res D := match ds with
  | [d] => okO (((asL μ d).bind D.bls).map fun bs => .bl (bs.any id)) μ
  | _ => .bad
def sumB (ds : List D) (μ : Sto) : Res D := match ds with
  | [d] => okO (((asL μ d).bind D.ints).map fun ns => .int ns.sum) μ
  | _ => .bad
def max2B (ds : List D) (μ : Sto) : Res D := match ds with
  | [.int i, .int j] => .ok (.int (if j > i then j else i)) μ
  | _ => .bad
def intB (ds : List D) (μ : Sto) : Res D := match ds with
  | [.int i] => .ok (.int i) μ
  | [.bl k] => .ok (.int (if k then 1 else 0)) μ
  | _ => .bad
/-- list(x) -/
def listB (m : Bool) (ds : List D) (μ : Sto) : Res D := match ds with
  | [.tup xs] => mkL m xs μ
  | [d] => match asL μ d with
    | some xs => mkL m xs μ
    | none => match asD μ d with
      | some (ks, _) => mkL m ks μ
      | none => .bad
  | _ => .bad
def tupB (ds : List D) (μ : Sto) : Res D := match ds with
  | [.tup xs] => .ok (.tup xs) μ
  | [d] => match asL μ d with
    | some xs => .ok (.tup xs) μ
    | none => .bad
  | _ => .bad
/-- texts in their order -/
def strLe (x y : Str) : Bool := !decide (y.cps.toList < x.cps.toList)
def sortS (xs : List Str) : List Str := xs.mergeSort strLe
def sortI (xs : List Int) : List Int := xs.mergeSort fun a b => decide (a ≤ b)
def sortedB (m : Bool) (ds : List D) (μ : Sto) : Res D := match ds with
  | [d] => match asL μ d with
    | some xs => if xs.length < 64 then (match D.strs xs with
      | some ss => mkL m ((sortS ss).map D.str) μ
      | none => match D.ints xs with
        | some ns => mkL m ((sortI ns).map D.int) μ
        | none => .bad) else .bad
    | none => .bad
  | _ => .bad
section
variable {X : Cx} {cls : Str → Option CI} {W : WX} {k : Nat}
theorem okOmap {α : Type} {o : Option α} {f : α → D} {G : Gx} {B : Addr → Prop} {A : Al} {H : Hp} {μ : Sto} {σ : L2.St} {Q : VK} (w : Want G W (RD G) B A H μ σ (okO (o.map f) μ) Q) (rel : RelS G B A H μ) : ∃ a, o = some a ∧ ∀ v, Rep G A (hide B H A μ) v (f a) → Q v H := by
  obtain ⟨a, e, q⟩ := okO_want1 w
  obtain ⟨b, e1, rfl⟩ := Option.map_eq_some_iff.mp e
  exact ⟨b, e1, fun v r => q v r rel⟩
theorem len_b : OkN X cls W (fun us => call (.builtin "len") us) lenB := by
  intro pins s σ H B A μ xs us ds Q I rel ra rx w
  unfold lenB at w
  split at w
  · obtain ⟨x, rfl, h1⟩ := reps1 ra
    obtain ⟨u, rfl, r1⟩ := vals1 rx
    obtain ⟨n, e, q⟩ := okOmap w rel
    exact len_at I rel h1 r1 e (q _ rfl)
  · exact w.elim
theorem all_b (hc : X.calm = true) : OkN X cls W (fun us => call (.builtin "all") us) allB := by
  intro pins s σ H B A μ xs us ds Q I rel ra rx w
  unfold allB at w
  split at w
  · obtain ⟨x, rfl, h1⟩ := reps1 ra
    obtain ⟨bs, e, q⟩ := okOmap w rel
    obtain ⟨l, e1, e2⟩ := Option.bind_eq_some_iff.mp e
    obtain ⟨a, vs, rfl, h2, h3⟩ := asL_ok rel h1 e1
    rw [bls_reps e2 h3] at h2
    exact cr_all hc pins s σ H _ us Q I rx ⟨a, bs, rfl, h2, q _ rfl⟩
  · exact w.elim
theorem any_b (hc : X.calm = true) : OkN X cls W (fun us => call (.builtin "any") us) anyB := by
  intro pins s σ H B A μ xs us ds Q I rel ra rx w
  unfold anyB at w
  split at w
  · obtain ⟨x, rfl, h1⟩ := reps1 ra
    obtain ⟨bs, e, q⟩ := okOmap w rel
    obtain ⟨l, e1, e2⟩ := Option.bind_eq_some_iff.mp e
    obtain ⟨a, vs, rfl, h2, h3⟩ := asL_ok rel h1 e1
    rw [bls_reps e2 h3] at h2
    exact cr_any hc pins s σ H _ us Q I rx ⟨a, bs, rfl, h2, q _ rfl⟩
  · exact w.elim
theorem sum_b (hc : X.calm = true) : OkN X cls W (fun us => call (.builtin "sum") us) sumB := by
  intro pins s σ H B A μ xs us ds Q I rel ra rx w
  unfold sumB at w
  split at w
  · obtain ⟨x, rfl, h1⟩ := reps1 ra
    obtain ⟨bs, e, q⟩ := okOmap w rel
    obtain ⟨l, e1, e2⟩ := Option.bind_eq_some_iff.mp e
    obtain ⟨a, vs, rfl, h2, h3⟩ := asL_ok rel h1 e1
    rw [ints_reps e2 h3] at h2
    exact cr_sum hc pins s σ H _ us Q I rx ⟨a, bs, rfl, h2, q _ rfl⟩
  · exact w.elim
theorem max2_b (hc : X.calm = true) : OkN X cls W (fun us => call (.builtin "max") us) max2B := by
  intro pins s σ H B A μ xs us ds Q I rel ra rx w
  unfold max2B at w
  split at w
  · rename_i i j
    obtain ⟨x, y, rfl, h1, h2⟩ := reps2 ra
    obtain rfl := show x = _ from h1
    obtain rfl := show y = _ from h2
    exact call_max2 hc pins s σ H _ us Q I rx ⟨i, j, rfl, w.here rel rfl⟩
  · exact w.elim
theorem int_b : OkN X cls W (fun us => call (.type "int") us) intB := by
  intro pins s σ H B A μ xs us ds Q I rel ra rx w
  unfold intB at w
  split at w
  · rename_i i
    obtain ⟨x, rfl, h1⟩ := reps1 ra
    obtain rfl := show x = _ from h1
    exact call_int1 pins s σ H _ us Q I rx (.inl ⟨i, rfl, w.here rel rfl⟩)
  · rename_i k
    obtain ⟨x, rfl, h1⟩ := reps1 ra
    obtain rfl := show x = _ from h1
    exact call_int1 pins s σ H _ us Q I rx (.inr ⟨k, rfl, w.here rel rfl⟩)
  · exact w.elim
theorem vals_of_get {vs : List V} {us : List Value} (hl : vs.length = us.length) (h : ∀ (i : Nat) v u, vs[i]? = some v → us[i]? = some u → RelV v u) : Vals vs us := by
  induction vs generalizing us with
  | nil => cases us with
    | nil => exact .nil
    | cons _ _ => simp at hl
  | cons v vs ih => cases us with
    | nil => simp at hl
    | cons u us => exact .cons (h 0 v u rfl rfl) (ih (by simpa using hl) fun i a b h1 h2 => h (i + 1) a b (by simpa using h1) (by simpa using h2))
/-- list(d): the keys of a dict, as a new list -/
theorem list_dict {m : Bool} {pins : List (Addr × Obj)} {s : Shared} {σ : L2.St} {H : Hp} {B : Addr → Prop} {A : Al} {μ : Sto} {x : V} {u : Value} {d : D} {ks vs : List D} {Q : VK} (hc : X.calm = true) (I : Inv X pins σ H s) (rel : RelS (gx X cls) B A H μ) (ra : Rep (gx X cls) A (hide B H A μ) x d) (rx : RelV x u) (e : asD μ d = some (ks, vs))
    (w : Want (gx X cls) W (RD (gx X cls)) B A H μ σ (mkL m ks μ) Q) : wpAny (model X.prog X.w) X.A (call (.type "list") [u]) (EP X pins σ Q) X.xe s := by
  obtain ⟨p, es, rfl, h1, h2, h3, h4, h5, h6⟩ := asD_ok rel ra e
  obtain rfl := show u = Value.ref p from rx
  obtain ⟨hz, hsy, xs, ho, hp, hk2⟩ := dic_read I hide_sub (cls := cls) (vs := vs) h1 h2 h4 h5 h6
  obtain ⟨ar, ep, hr, he⟩ := ho.rawx
  have le : es.length = xs.length := paired_len hp
  have sz := ent_size he
  refine PySem.W.kdl_call (PySem.KdlSrc.rawDict (es := ar) (ep := ep) hsy) (I.ok.hd hc) hr (by omega) fun h' tk acc c' hk hD hacc => ?_
  have hv : Vals (es.map (·.2.1)) acc.toList := by
    refine vals_of_get (by have h9 := hacc.1; simp only [List.length_map, Array.length_toList]; omega) fun i v u hi hu => ?_
    rw [List.getElem?_map, Option.map_eq_some_iff] at hi
    obtain ⟨en, h7, rfl⟩ := hi
    obtain ⟨hlt, ev⟩ := hacc.2 i u (by rw [← Array.getElem?_toList]; exact hu)
    have hx : xs[i]? = some xs[i] := List.getElem?_eq_getElem (by omega)
    obtain ⟨q, hq1, hq2⟩ := pairedEV_get hp hx
    rw [h7] at hq1; cases hq1
    have ea := ent_at he i
    rw [hx, Array.getElem?_eq_getElem hlt] at ea
    have ea : ar[i] = entN X.w xs[i] := Option.some.inj ea
    rw [ev, ea]
    exact hq2.2.1
  exact ⟨.ref s.heap.objs.size, upd H s.heap.objs.size (.lst (es.map (·.2.1))), I.laid (t' := tk) hk (Nat.le_refl _)
    (show ObjOk X.prog X.w _ _ _ (.lst (es.map (·.2.1))) from ⟨by rw [List.length_map]; exact hz, acc.toList, c', hv, by rw [Array.toArray_toList]; exact hD⟩), rfl, w.mkL rel h2 (I.hok.fresh (Nat.le_refl _))⟩
theorem list_b {m : Bool} (hc : X.calm = true) : OkN X cls W (fun us => call (.type "list") us) (listB m) := by
  intro pins s σ H B A μ xs us ds Q I rel ra rx w
  unfold listB at w
  split at w
  · obtain ⟨x, rfl, h1⟩ := reps1 ra
    obtain ⟨a, vs, rfl, h2, h3⟩ := h1
    exact call_list_of pins s σ H _ us Q I rx ⟨a, vs, rfl, .inr (hide_sub.sqt h2), fun l hl => w.mkL rel h3 hl⟩
  · obtain ⟨x, rfl, h1⟩ := reps1 ra
    split at w
    · rename_i xs e
      obtain ⟨a, vs, rfl, h2, h3⟩ := asL_ok rel h1 e
      exact call_list_of pins s σ H _ us Q I rx ⟨a, vs, rfl, .inl h2, fun l hl => w.mkL rel h3 hl⟩
    · split at w
      · rename_i ks vs e
        obtain ⟨u, rfl, r1⟩ := vals1 rx
        exact list_dict hc I rel h1 r1 e w
      · exact w.elim
  · exact w.elim
theorem tup_b : OkN X cls W (fun us => call (.type "tuple") us) tupB := by
  intro pins s σ H B A μ xs us ds Q I rel ra rx w
  unfold tupB at w
  split at w
  · obtain ⟨x, rfl, h1⟩ := reps1 ra
    obtain ⟨a, vs, rfl, h2, h3⟩ := id h1
    exact call_tuple_of pins s σ H _ us Q I rx ⟨a, vs, rfl, .inr ⟨hide_sub.sqt h2, w.here rel h1⟩⟩
  · obtain ⟨x, rfl, h1⟩ := reps1 ra
    split at w
    · rename_i xs e
      obtain ⟨a, vs, rfl, h2, h3⟩ := asL_ok rel h1 e
      exact call_tuple_of pins s σ H _ us Q I rx ⟨a, vs, rfl, .inl ⟨h2, fun l hl => w.new rel hl fun h s => rep_tup h s h3⟩⟩
    · exact w.elim
  · exact w.elim
end
end Z

/-! sorted -/
namespace Z
open PySem PySem.Spec PyProof.Rows L2 SlX

theorem le_iff {x y : Str} : strLe x y = true ↔ x.cps.toList ≤ y.cps.toList := by
  unfold strLe
  rw [Bool.not_eq_true', decide_eq_false_iff_not, List.not_lt]
theorem strLe_trans {x y z : Str} (h1 : strLe x y = true) (h2 : strLe y z = true) : strLe x z = true := le_iff.mpr (List.le_trans (le_iff.mp h1) (le_iff.mp h2))
theorem strLe_total (x y : Str) : (strLe x y || strLe y x) = true := by
  rw [Bool.or_eq_true, le_iff, le_iff]
  exact List.le_total _ _
theorem strLe_anti {x y : Str} (h1 : strLe x y = true) (h2 : strLe y x = true) : x = y := by
  have := List.le_antisymm (le_iff.mp h1) (le_iff.mp h2)
  obtain ⟨⟨a⟩⟩ := x
  obtain ⟨⟨b⟩⟩ := y
  exact congrArg (fun l => (⟨⟨l⟩⟩ : Str)) this
theorem rising_pw : ∀ {p : Str} {l : List Str}, risingS p l = true → (p :: l).Pairwise fun a b => strLe a b = true
  | p, [], _ => by simp
  | p, x :: r, h => by
    simp only [risingS, Bool.and_eq_true, Bool.not_eq_true', ltCps_eq] at h
    have ih := rising_pw h.2
    have h1 : strLe p x = true := by unfold strLe; rw [h.1]; rfl
    refine List.pairwise_cons.mpr ⟨fun y hy => ?_, ih⟩
    rcases List.mem_cons.mp hy with rfl | hy
    · exact h1
    · exact strLe_trans h1 (List.rel_of_pairwise_cons ih hy)
theorem sortedS_pw : ∀ {l : List Str}, sortedS l = true → l.Pairwise fun a b => strLe a b = true
  | [], _ => .nil
  | x :: r, h => rising_pw h
theorem sortS_eq {xs ys : List Str} (p : ys.Perm xs) (h : sortedS ys = true) : ys = sortS xs :=
  List.Perm.eq_of_pairwise (le := fun a b => strLe a b = true) (fun a b _ _ => strLe_anti) (sortedS_pw h) (List.pairwise_mergeSort (le := strLe) (fun a b c h1 h2 => strLe_trans h1 h2) strLe_total xs) (p.trans (List.mergeSort_perm xs strLe).symm)
theorem sortI_eq {xs ys : List Int} (p : ys.Perm xs) (h : ys.Pairwise (· ≤ ·)) : ys = sortI xs :=
  List.Perm.eq_of_pairwise (le := fun a b : Int => a ≤ b) (fun a b _ _ => Int.le_antisymm) h
    ((List.pairwise_mergeSort (le := fun a b : Int => decide (a ≤ b)) (fun a b c h1 h2 => by simp at *; omega) (fun a b => by simp; omega) xs).imp fun h => of_decide_eq_true h) (p.trans (List.mergeSort_perm xs _).symm)
section
variable {X : Cx} {cls : Str → Option CI} {W : WX} {k : Nat}
theorem sorted_b {m : Bool} (hc : X.calm = true) : OkN X cls W (fun us => call (.builtin "sorted") us) (sortedB m) := by
  intro pins s σ H B A μ xs us ds Q I rel ra rx w
  unfold sortedB at w
  split at w
  · obtain ⟨x, rfl, h1⟩ := reps1 ra
    split at w
    · rename_i l e
      obtain ⟨a, vs, rfl, h2, h3⟩ := asL_ok rel h1 e
      split at w
      · rename_i hl
        have hv := h3.length
        split at w
        · rename_i ss hs
          rw [strs_reps hs h3] at h2 hv
          refine cr_sortedS pins s σ H _ us Q I rx ⟨a, ss, rfl, h2, by simp at hv; omega, fun ys p hp hy hn => ?_⟩
          rw [sortS_eq hp hy]
          exact w.mkL rel (reps_strs _) hn
        · split at w
          · rename_i ss hs
            rw [ints_reps hs h3] at h2 hv
            refine cr_sorted pins s σ H _ us Q I rx ⟨a, ss, rfl, h2, by simp at hv; omega, fun ys p hp hy hn => ?_⟩
            rw [sortI_eq hp hy]
            exact w.mkL rel (reps_ints _) hn
          · exact w.elim
      · exact w.elim
    · exact w.elim
  · exact w.elim
end
end Z

/-! isinstance -/
namespace Z
open PySem PySem.Spec PyProof.Rows L2 SlX

/-- what a thing is -/
inductive Tag where
  | b (t : String)
  | c (c : Str)
  deriving DecidableEq
def tagO (d : D) (μ : Sto) : Option Tag := match d with
  | .non => some (.b "NoneType")
  | .bl _ => some (.b "bool")
  | .int _ => some (.b "int")
  | .str _ => some (.b "str")
  | .tup _ => some (.b "tuple")
  | .lst _ => some (.b "list")
  | .dct _ _ => some (.b "dict")
  | .ins c _ => some (.c c)
  | .hd h => match μ[h]? with
    | some (some (.lst _)) => some (.b "list")
    | some (some (.dct _ _)) => some (.b "dict")
    | some (some (.ins c _)) => some (.c c)
    | _ => none
  | .set _ => none
def isiO (f : Tag → Bool) (d : D) (μ : Sto) : Res D := match tagO d μ with
  | some t => .ok (.bl (f t)) μ
  | none => .bad
def sevenT : List String := ["NoneType", "bool", "int", "str", "tuple", "list", "dict"]
/-- a built-in type -/
def isB (T : String) : Tag → Bool
  | .b a => a == T || (a == "bool" && T == "int")
  | .c _ => false
/-- an own class: itself alone -/
def isC (c0 : Str) : Tag → Bool
  | .b _ => false
  | .c c => c == c0
/-- what isinstance asks of a class without slots -/
structure PIsi (K : PySem.W.Frag) (C : Addr) : Prop where
  cl : Cls K C
  ca : PySem.W.findIn K (.ref C) "__class__" = some (some (.builtin "object.__class__"))
  cn : PySem.W.specialIn K (.builtin "object.__class__") "__get__" = some (some (.builtin "getset_descriptor.__get__"))
  ct : PySem.W.takesIn K (.builtin "object.__class__") = some true
  cm : PySem.W.mroIn K C (.type "object") = some true
/-- the facts about the own classes -/
structure ClsK (K : PySem.W.Frag) (mg : Str → Option Value) (cls : Str → Option CI) : Prop where
  sc : ∀ c ci C, cls c = some ci → mg c = some (.ref C) → ci.exc = false → ci.slots = true → SCls K C ∧ SIsi K C
  pl : ∀ c ci C, cls c = some ci → mg c = some (.ref C) → ci.exc = false → ci.slots = false → PIsi K C
/-- f answers isinstance(x, tv) -/
structure IsiK (K : PySem.W.Frag) (mg : Str → Option Value) (cls : Str → Option CI) (tv : Value) (f : Tag → Bool) : Prop where
  b : ∀ t ∈ sevenT, PySem.W.kitOne K (.type t) tv = some (f (.b t))
  c : ∀ c ci C, cls c = some ci → mg c = some (.ref C) → ci.exc = false → PySem.W.kitOne K (.ref C) tv = some (f (.c c))
section
variable {X : Cx} {cls : Str → Option CI} {W : WX} {k : Nat}
/-- where an instance stands -/
theorem ins_slt {G : Gx} {A : Al} {F H : Hp} {v : V} {c : Str} {ds : List D} (hF : Sub F H) (h : Rep G A F v (.ins c ds)) : ∃ a vs ci C, v = .ref a ∧ G.cls c = some ci ∧ G.mg c = some (.ref C) ∧ Reps G A F vs ds ∧ ci.fit vs.length ∧
    (ci.slots = true → ∃ dx svs, Slt H a C dx svs ∧ ∀ (j : Nat) (f : Str) (v : V), ci.order[j]? = some f → vs[j]? = some v → ∃ p i, Slot1 G.K C f p i ∧ svs[i]? = some (some v)) ∧
    (ci.slots = false → ∃ dx, H a = some (.ins C dx (ci.order.zip vs))) := by
  obtain ⟨a, vs, rfl, ⟨ci, C, h1, h2, h3, h4⟩, h5⟩ := h
  refine ⟨a, vs, ci, C, rfl, h1, h2, h5, h3, fun hs => ?_, fun hs => ?_⟩
  · rw [if_pos hs] at h4
    obtain ⟨dx, svs, h6, h7⟩ := h4
    exact ⟨dx, svs, hF.slt h6, h7⟩
  · rw [if_neg (by rw [hs]; decide)] at h4
    obtain ⟨dx, h6⟩ := h4
    exact ⟨dx, hF _ _ h6⟩
theorem isi_at {tv : Value} {f : Tag → Bool} (CK : ClsK X.K X.mg cls) (IK : IsiK X.K X.mg cls tv f) {pins : List (Addr × Obj)} {s : Shared} {σ : L2.St} {H : Hp} {B : Addr → Prop} {A : Al} {μ : Sto} {x : V} {u : Value} {d : D} {t : Tag} {Q : VK}
    (I : Inv X pins σ H s) (rel : RelS (gx X cls) B A H μ) (ra : Rep (gx X cls) A (hide B H A μ) x d) (rx : RelV x u) (e : tagO d μ = some t) (q : Q (.bl (f t)) H) : wpAny (model X.prog X.w) X.A (call (.builtin "isinstance") [u, tv]) (EP X pins σ Q) X.xe s := by
  have fin : ∀ tk, EP X pins σ Q (.bool (f t)) { s with toks := tk } := fun tk => ⟨.bl _, H, I.tok _, rfl, q⟩
  have kb : ∀ T ∈ sevenT, PySem.W.kitOne X.K (.type T) tv = some (f (.b T)) := IK.b
  have ins : ∀ {a C : Addr} {c : Str} {ci : CI}, x = .ref a → cls c = some ci → X.mg c = some (.ref C) → ci.exc = false → (ci.slots = true → ∃ dx svs, Slt H a C dx svs) → (ci.slots = false → ∃ dx fs, H a = some (.ins C dx fs)) → t = .c c → wpAny (model X.prog X.w) X.A (call (.builtin "isinstance") [u, tv]) (EP X pins σ Q) X.xe s := by
    intro a C c ci ex h1 h2 hx hs hp et
    subst ex; subst et
    obtain rfl := show u = Value.ref a from rx
    cases hsl : ci.slots with
    | true =>
      obtain ⟨dx, svs, hs⟩ := hs hsl
      obtain ⟨hc, hi⟩ := CK.sc c ci C h1 h2 hx hsl
      obtain ⟨sl, od, _, J, _⟩ := slt_inst I hs
      exact PySem.W.kia_one (OwX.kitx_slt hc.ic (hc.get _) hi.ca hi.cn hi.ct hi.cm) I.kIn J (IK.c c ci C h1 h2 hx) (fun z => nomatch z) fin
    | false =>
      obtain ⟨dx, fs, hs⟩ := hp hsl
      obtain ⟨cl, ca, cn, ct, cm⟩ := CK.pl c ci C h1 h2 hx hsl
      obtain ⟨mA, O, _⟩ := ins_get I.hok hs
      obtain ⟨od, J, _⟩ := O.look
      exact PySem.W.kia_one (PySem.W.kitx_own (cl.get _) cl.hd ca cn ct cm) I.kIn J (IK.c c ci C h1 h2 hx) (fun z => nomatch z) fin
  cases d with
  | non =>
    obtain rfl := Option.some.inj e
    obtain rfl := show x = _ from ra
    cases (show u = Value.none from rx); exact PySem.W.kia_one PySem.W.kitx_none I.kIn True.intro (kb _ (by decide)) (fun z => nomatch z) fin
  | bl b =>
    obtain rfl := Option.some.inj e
    obtain rfl := show x = _ from ra
    cases (show u = Value.bool b from rx); exact PySem.W.kia_one PySem.W.kitx_bool I.kIn True.intro (kb _ (by decide)) (fun z => nomatch z) fin
  | int i =>
    obtain rfl := Option.some.inj e
    obtain rfl := show x = _ from ra
    obtain ⟨t, q⟩ := (show ∃ t, u = Value.int i t from rx); cases q; exact PySem.W.kia_one PySem.W.kitx_int I.kIn True.intro (kb _ (by decide)) (fun z => nomatch z) fin
  | str y =>
    obtain rfl := Option.some.inj e
    obtain rfl := show x = _ from ra
    obtain ⟨t, q⟩ := (show ∃ t, u = Value.str y t from rx); cases q; exact PySem.W.kia_one PySem.W.kitx_str I.kIn True.intro (kb _ (by decide)) (fun z => nomatch z) fin
  | tup ds =>
    obtain rfl := Option.some.inj e
    obtain ⟨a, vs, rfl, h2, h3⟩ := ra
    obtain rfl := show u = Value.ref a from rx
    obtain ⟨its, rv, ⟨o, h4, h5, _⟩, hz⟩ := I.tuple (hide_sub.sqt h2)
    exact PySem.W.kia_one PySem.W.kitx_tuple I.kIn ⟨o, h4, h5⟩ (kb _ (by decide)) (fun z => nomatch z) fin
  | lst ds =>
    obtain rfl := Option.some.inj e
    obtain ⟨a, vs, rfl, h2, h3⟩ := ra
    obtain rfl := show u = Value.ref a from rx
    obtain ⟨its, rv, ⟨o, n, h4, h5, _⟩, hz⟩ := I.list (hide_sub.sql h2)
    exact PySem.W.kia_one PySem.W.kitx_list I.kIn ⟨o, h4, h5⟩ (kb _ (by decide)) (fun z => nomatch z) fin
  | dct ks vs =>
    obtain rfl := Option.some.inj e
    obtain ⟨a, es, rfl, ⟨o, h2⟩, _⟩ := ra
    obtain rfl := show u = Value.ref a from rx
    obtain ⟨_, h4, h5, _⟩ := frzN I (hide_sub _ _ h2)
    exact PySem.W.kia_one PySem.W.kitx_dict I.kIn ⟨o, h4, h5.1⟩ (kb _ (by decide)) (fun z => nomatch z) fin
  | ins c ds =>
    obtain rfl := Option.some.inj e
    obtain ⟨a, vs, ci, C, h1, h2, h3, h4, h5, h6, h7⟩ := ins_slt hide_sub ra
    exact ins h1 h2 h3 h5.1 (fun hs => let ⟨dx, svs, z, _⟩ := h6 hs; ⟨dx, svs, z⟩) (fun hs => let ⟨dx, z⟩ := h7 hs; ⟨dx, _, z⟩) rfl
  | hd h =>
    obtain ⟨p, hp, rfl⟩ := ra
    obtain rfl := show u = Value.ref p.1 from rx
    unfold tagO at e
    dsimp only at e
    split at e
    · rename_i ds hn
      obtain rfl := Option.some.inj e
      obtain ⟨_, vs, h1, h2⟩ := rel.node h p _ hp hn
      obtain ⟨its, rv, ⟨o, n, h4, h5, _⟩, hz⟩ := I.list (SqL.of (K := X.K) h1)
      exact PySem.W.kia_one PySem.W.kitx_list I.kIn ⟨o, h4, h5⟩ (kb _ (by decide)) (fun z => nomatch z) fin
    · rename_i ks vs hn
      obtain rfl := Option.some.inj e
      obtain ⟨_, es, h1, _⟩ := rel.node h p _ hp hn
      obtain ⟨_, _, xs, ⟨o, _, _, h4, h5, _⟩, _⟩ := dic_at I (.inl h1)
      exact PySem.W.kia_one PySem.W.kitx_dict I.kIn ⟨o, h4, h5.1⟩ (kb _ (by decide)) (fun z => nomatch z) fin
    · rename_i c fs hn
      obtain rfl := Option.some.inj e
      obtain ⟨_, _, ci, C, h1, h2, h3⟩ := rel.node h p _ hp hn
      have h1 : cls c = some ci := h1
      refine ins rfl h1 h2.2 h2.1 (fun hs => ?_) (fun hs => ?_) rfl
      · rw [if_pos hs] at h3
        obtain ⟨svs, h4, _⟩ := h3
        exact ⟨_, svs, h4⟩
      · rw [if_neg (by rw [hs]; decide)] at h3
        obtain ⟨vs, h4, _⟩ := h3
        exact ⟨_, _, h4⟩
    · cases e
  | set _ => cases e
section
variable {e : Expr} {f : Ev D} {p1 p2 pos : Pos} {T : Str} {g : Tag → Bool} {tv : Value}
theorem isi_call (CK : ClsK X.K X.mg cls) (IK : IsiK X.K X.mg cls tv g) (hgi : Gl X "isinstance") (hmi : X.mg "isinstance" = none) (ha : ZE X cls W e f)
    (hT : ∀ {pins : List (Addr × Obj)} {s : Shared} {σ : L2.St} {H : Hp} {Q : Value → Shared → Prop}, Inv X pins σ H s → (∀ s', Inv X pins σ H s' → Q tv s') → wpAny (model X.prog X.w) X.A (eval (.Name T p2) X.env) Q X.xe s)
    (he : starEach [e, .Name T p2] X.env = (false, eval e X.env) :: starEach [.Name T p2] X.env := by rfl) (hpl : (backTo pos (starEach [.Name T p2] X.env)).any (·.1) = false := by rfl) (hs : starEach [.Name T p2] X.env = (false, eval (.Name T p2) X.env) :: starEach [] X.env := by rfl) :
    ZE X cls W (.Call (.Name "isinstance" p1) [e, .Name T p2] [] pos) (zUn (isiO g) f) := by
  refine ⟨fun pins s σ H Q I ⟨B, A, ρ, μ, rel, re, w⟩ => wpAny_Call_Name_kw (ld_blt I hgi hmi Boot.«isinstance» (PyProof.Rows.callWith_builtin1 ?_ he hpl) (by decide) (by decide))⟩
  rw [he, hs]
  show wpAny _ _ (spliced ((false, eval e X.env) :: (false, eval (.Name T p2) X.env) :: backTo pos (starEach [] X.env))) _ _ _
  refine Calls.spliced_cons (ev1 ha I rel re w fun v s1 x d A1 H1 μ1 I1 rx r1 re1 p1 st1 w1 => Calls.spliced_cons (hT I1 fun s2 I2 => Calls.spliced_nil ?_))
  unfold isiO at w1
  split at w1
  · rename_i t et
    exact isi_at CK IK I2 r1 p1 rx et (w1.here r1 rfl)
  · exact w1.elim
theorem e_isiB {Tn : String} (CK : ClsK X.K X.mg cls) (IK : IsiK X.K X.mg cls (.type Tn) g) (hgi : Gl X "isinstance") (hmi : X.mg "isinstance" = none) (ha : ZE X cls W e f) (hg : Gl X T) (hm : X.mg T = none) (hv : bootBuiltins T = some (.type Tn)) (hn : T ≠ "__name__" := by decide) (hd : (T == ("__debug__" : Str)) = false := by decide)
    (he : starEach [e, .Name T p2] X.env = (false, eval e X.env) :: starEach [.Name T p2] X.env := by rfl) (hpl : (backTo pos (starEach [.Name T p2] X.env)).any (·.1) = false := by rfl) (hs : starEach [.Name T p2] X.env = (false, eval (.Name T p2) X.env) :: starEach [] X.env := by rfl) :
    ZE X cls W (.Call (.Name "isinstance" p1) [e, .Name T p2] [] pos) (zUn (isiO g) f) :=
  isi_call CK IK hgi hmi ha (fun I q => ld_blt I hg hm hv (q _ I) hn hd) he hpl hs
theorem e_isiC {Ct : Addr} (CK : ClsK X.K X.mg cls) (IK : IsiK X.K X.mg cls (.ref Ct) g) (hgi : Gl X "isinstance") (hmi : X.mg "isinstance" = none) (ha : ZE X cls W e f) (hg : Gl X T) (hm : X.mg T = some (.ref Ct)) (hd : (T == ("__debug__" : Str)) = false := by decide)
    (he : starEach [e, .Name T p2] X.env = (false, eval e X.env) :: starEach [.Name T p2] X.env := by rfl) (hpl : (backTo pos (starEach [.Name T p2] X.env)).any (·.1) = false := by rfl) (hs : starEach [.Name T p2] X.env = (false, eval (.Name T p2) X.env) :: starEach [] X.env := by rfl) :
    ZE X cls W (.Call (.Name "isinstance" p1) [e, .Name T p2] [] pos) (zUn (isiO g) f) :=
  isi_call CK IK hgi hmi ha (fun I q => ld_glob I hg hm (q _ I) hd) he hpl hs
end
end
end Z

/-! things that are not changed any more -/
namespace Z
open PySem PySem.Spec PyProof.Rows L2 SlX

def frzLs (g : D → Sto → Option (D × Sto)) : List D → Sto → Option (List D × Sto)
  | [], μ => some ([], μ)
  | d :: ds, μ => match g d μ with
    | some (d', μ1) => match frzLs g ds μ1 with
      | some (ds', μ2) => some (d' :: ds', μ2)
      | none => none
    | none => none
/-- the instance's fields in their order -/
def insFs (ci : CI) (fs : List (Str × D)) : Option (List D) := ci.order.mapM fun f => fs.lookup f
/-- a thing and all within, not changed any more -/
def frzD (cls : Str → Option CI) : Nat → D → Sto → Option (D × Sto)
  | 0, _, _ => none
  | n + 1, d, μ => if d.cl then some (d, μ) else match d with
    | .hd i => match μ[i]? with
      | some (some (.lst ds)) => match frzLs (frzD cls n) ds μ with
        | some (ds', μ1) => match μ1[i]? with
          | some (some _) => some (.lst ds', μ1.set i none)
          | _ => none
        | none => none
      | some (some (.dct ks vs)) => if D.cls ks then (match frzLs (frzD cls n) vs μ with
        | some (vs', μ1) => match μ1[i]? with
          | some (some _) => some (.dct ks vs', μ1.set i none)
          | _ => none
        | none => none) else none
      | some (some (.ins c fs)) => match cls c with
        | some ci => if ci.slots then (match insFs ci fs with
          | some ds => match frzLs (frzD cls n) ds μ with
            | some (ds', μ1) => match μ1[i]? with
              | some (some _) => some (.ins c ds', μ1.set i none)
              | _ => none
            | none => none
          | none => none) else none
        | none => none
      | _ => none
    | .tup ds => (frzLs (frzD cls n) ds μ).map fun p => (.tup p.1, p.2)
    | .lst ds => (frzLs (frzD cls n) ds μ).map fun p => (.lst p.1, p.2)
    | _ => none

section
variable {X : Cx} {cls : Str → Option CI} {pins : List (Addr × Obj)} {σ : L2.St} {s : Shared}
/-- what was known stays known; where the living things stand, nothing was done -/
structure FrzTo (X : Cx) (cls : Str → Option CI) (pins : List (Addr × Obj)) (σ : L2.St) (s : Shared) (B : Addr → Prop) (A : Al) (H : Hp) (μ : Sto) (H' : Hp) (μ' : Sto) : Prop where
  inv : Inv X pins σ H' s
  rel : RelS (gx X cls) B A H' μ'
  step : Step B A H μ A H' μ'
  same : ∀ (i : Nat) p n, A[i]? = some p → μ'[i]? = some (some n) → μ[i]? = some (some n) ∧ H' p.1 = H p.1 ∧ H' p.2 = H p.2
theorem FrzTo.refl {B : Addr → Prop} {A : Al} {H : Hp} {μ : Sto} (I : Inv X pins σ H s) (rel : RelS (gx X cls) B A H μ) : FrzTo X cls pins σ s B A H μ H μ := ⟨I, rel, Step.refl _ _ _ _, fun _ _ _ _ h => ⟨h, rfl, rfl⟩⟩
theorem FrzTo.trans {B : Addr → Prop} {A : Al} {H H1 H2 : Hp} {μ μ1 μ2 : Sto} (a : FrzTo X cls pins σ s B A H μ H1 μ1) (b : FrzTo X cls pins σ s B A H1 μ1 H2 μ2) : FrzTo X cls pins σ s B A H μ H2 μ2 :=
  ⟨b.inv, b.rel, a.step.trans b.step, fun i p n h1 h2 => let ⟨x1, x2, x3⟩ := b.same i p n h1 h2; let ⟨y1, y2, y3⟩ := a.same i p n h1 x1; ⟨y1, x2.trans y2, x3.trans y3⟩⟩
/-- a handle's thing is not changed any more (no dict) -/
theorem FrzTo.kill {B : Addr → Prop} {A : Al} {H : Hp} {μ : Sto} {i : Nat} {q : Addr × Addr} {n : Node} (I : Inv X pins σ H s) (rel : RelS (gx X cls) B A H μ) (hq : A[i]? = some q) (hn : μ[i]? = some (some n)) :
    FrzTo X cls pins σ s B A H μ H (μ.set i none) ∧ hide B H A (μ.set i none) q.1 = H q.1 ∧ hide B H A (μ.set i none) q.2 = H q.2 := by
  obtain ⟨r1, st, e1, e2⟩ := rel.freeze hq hn
  refine ⟨⟨I, r1, st, fun j p m h1 h2 => ?_⟩, e1, e2⟩
  by_cases z : j = i
  · subst z
    rw [List.getElem?_set_self (List.getElem?_eq_some_iff.mp hn).1] at h2; cases h2
  · rw [List.getElem?_set_ne (Ne.symm z)] at h2
    exact ⟨h2, rfl, rfl⟩
/-- a dict's handle -/
theorem FrzTo.killD {B : Addr → Prop} {A : Al} {H : Hp} {μ : Sto} {i : Nat} {q : Addr × Addr} {n : Node} {es : List EntV} (I : Inv X pins σ H s) (rel : RelS (gx X cls) B A H μ) (hq : A[i]? = some q) (hn : μ[i]? = some (some n)) (hd : H q.1 = some (DicO X.w q.1 es)) (h2 : q.2 = q.1) :
    ∃ o, FrzTo X cls pins σ s B A H μ (upd H q.1 (.frz o (DicO X.w q.1 es))) (μ.set i none) ∧ hide B (upd H q.1 (.frz o (DicO X.w q.1 es))) A (μ.set i none) q.1 = some (.frz o (DicO X.w q.1 es)) := by
  obtain ⟨o, I'⟩ := I.lock hd trivial
  obtain ⟨r1, st, e1, e2⟩ := rel.freeze hq hn
  obtain ⟨b1, b2⟩ := rel.out i q n hq hn
  have nf : ¬ fpH A (μ.set i none) q.1 := fun ⟨j, p, m, h3, h4, h5⟩ => by
    have hji : j ≠ i := by
      rintro rfl
      rw [List.getElem?_set_self (List.getElem?_eq_some_iff.mp hn).1] at h4; cases h4
    rw [List.getElem?_set_ne (Ne.symm hji)] at h4
    exact hji (rel.inj j i p q m n h3 hq h4 hn (by rcases h5 with h5 | h5 <;> simp [h5]))
  have hs : Sub (hide B H A μ) (hide B (upd H q.1 (.frz o (DicO X.w q.1 es))) A (μ.set i none)) := fun b u e => by
    obtain ⟨z1, z2, z3⟩ := of_hide (st.sub b u e)
    have hb : b ≠ q.1 := fun z => by
      obtain ⟨_, _, y3⟩ := of_hide e
      exact y3 ⟨i, q, n, hq, hn, .inl z⟩
    rw [hide_eq z2 z3, upd_ne hb]; exact z1
  have alive : ∀ (j : Nat) p m, A[j]? = some p → (μ.set i none)[j]? = some (some m) → μ[j]? = some (some m) ∧ p.1 ≠ q.1 ∧ p.2 ≠ q.1 := fun j p m h3 h4 => by
    have hji : j ≠ i := by
      rintro rfl
      rw [List.getElem?_set_self (List.getElem?_eq_some_iff.mp hn).1] at h4; cases h4
    have h4' := h4
    rw [List.getElem?_set_ne (Ne.symm hji)] at h4'
    exact ⟨h4', fun z => nf ⟨j, p, m, h3, h4, .inl z.symm⟩, fun z => nf ⟨j, p, m, h3, h4, .inr z.symm⟩⟩
  refine ⟨o, ⟨I', ⟨r1.len, r1.inj, r1.out, fun b hb => ?_, fun j p m h3 h4 => ?_⟩, ⟨Pre.refl A, hs, fun b u hb e => ?_⟩, fun j p m h3 h4 => ?_⟩, by rw [hide_eq b1 nf, upd_same]⟩
  · obtain ⟨u, e⟩ := rel.bex b hb
    exact ⟨u, by rw [upd_ne (fun z : b = q.1 => b1 (by rw [← z]; exact hb))]; exact e⟩
  · obtain ⟨a1, a2, a3⟩ := alive j p m h3 h4
    exact (rel.node j p m h3 a1).mono (Pre.refl A) hs (upd_ne a2) (upd_ne a3)
  · rw [upd_ne (fun z : b = q.1 => b1 (by rw [← z]; exact hb))]; exact e
  · obtain ⟨a1, a2, a3⟩ := alive j p m h3 h4
    exact ⟨a1, upd_ne a2, upd_ne a3⟩
/-- g makes things fixed -/
def FrzOk (X : Cx) (cls : Str → Option CI) (g : D → Sto → Option (D × Sto)) : Prop := ∀ (pins : List (Addr × Obj)) (σ : L2.St) (s : Shared) (B : Addr → Prop) (A : Al) (H : Hp) (μ : Sto) (d d' : D) (μ' : Sto), Inv X pins σ H s → RelS (gx X cls) B A H μ → g d μ = some (d', μ') →
  ∃ H', FrzTo X cls pins σ s B A H μ H' μ' ∧ ∀ v, Rep (gx X cls) A (hide B H A μ) v d → Rep (gx X cls) A (hide B H' A μ') v d'
theorem frzLs_ok {g : D → Sto → Option (D × Sto)} (hg : FrzOk X cls g) : ∀ (ds : List D) (B : Addr → Prop) (A : Al) (H : Hp) (μ : Sto) (ds' : List D) (μ' : Sto), Inv X pins σ H s → RelS (gx X cls) B A H μ → frzLs g ds μ = some (ds', μ') →
    ∃ H', FrzTo X cls pins σ s B A H μ H' μ' ∧ ∀ vs, Reps (gx X cls) A (hide B H A μ) vs ds → Reps (gx X cls) A (hide B H' A μ') vs ds'
  | [], B, A, H, μ, ds', μ', I, rel, e => by
    cases e
    exact ⟨H, FrzTo.refl I rel, fun vs r => r⟩
  | d :: ds, B, A, H, μ, ds', μ', I, rel, e => by
    unfold frzLs at e
    split at e
    · rename_i d1 μ1 e1
      split at e
      · rename_i ds1 μ2 e2
        cases e
        obtain ⟨H1, f1, k1⟩ := hg pins σ s B A H μ d d1 μ1 I rel e1
        obtain ⟨H2, f2, k2⟩ := frzLs_ok hg ds B A H1 μ1 ds1 _ f1.inv f1.rel e2
        refine ⟨H2, f1.trans f2, fun vs r => ?_⟩
        obtain ⟨v, r', rfl, h1, h2⟩ := r
        exact ⟨v, r', rfl, (k1 v h1).mono (Pre.refl A) f2.step.sub, k2 r' (h2.mono (Pre.refl A) f1.step.sub)⟩
      · cases e
    · cases e
theorem insFs_get {ci : CI} {fs : List (Str × D)} {ds : List D} (h : insFs ci fs = some ds) : ds.length = ci.order.length ∧ ∀ (j : Nat) f, ci.order[j]? = some f → ∃ d, ds[j]? = some d ∧ fs.lookup f = some d := by
  unfold insFs at h
  generalize ci.order = os at h
  induction os generalizing ds with
  | nil =>
    simp at h; subst h
    exact ⟨rfl, fun j f e => by simp at e⟩
  | cons o os ih =>
    simp only [List.mapM_cons, Option.bind_eq_bind, Option.bind_eq_some_iff, Option.pure_def, Option.some.injEq] at h
    obtain ⟨d, h1, r, h2, rfl⟩ := h
    obtain ⟨h3, h4⟩ := ih h2
    refine ⟨by simp [h3], fun j f e => ?_⟩
    cases j with
    | zero => simp at e; subst e; exact ⟨d, rfl, h1⟩
    | succ j => simpa using h4 j f (by simpa using e)
theorem frzD_ok : ∀ n : Nat, FrzOk X cls (frzD cls n)
  | 0 => fun pins σ s B A H μ d d' μ' I rel e => by cases e
  | n + 1 => fun pins σ s B A H μ d d' μ' I rel e => by
    have ih : ∀ (ds : List D) (ds' : List D) (μ' : Sto), frzLs (frzD cls n) ds μ = some (ds', μ') → ∃ H', FrzTo X cls pins σ s B A H μ H' μ' ∧ ∀ vs, Reps (gx X cls) A (hide B H A μ) vs ds → Reps (gx X cls) A (hide B H' A μ') vs ds' :=
      fun ds ds' μ' e => frzLs_ok (frzD_ok n) ds B A H μ ds' μ' I rel e
    unfold frzD at e
    split at e
    · cases e
      exact ⟨H, FrzTo.refl I rel, fun v r => r⟩
    · rename_i hcl
      clear hcl
      split at e
      · rename_i i
        split at e
        · rename_i ds hn
          split at e
          · rename_i ds1 μ1 e1
            split at e
            · rename_i m hm
              cases e
              obtain ⟨H1, f1, k1⟩ := ih ds ds1 μ1 e1
              by_cases hA : ∃ p, A[i]? = some p
              · obtain ⟨p, hp⟩ := hA
                obtain ⟨x1, x2, x3⟩ := f1.same i p m hp hm
                rw [hn] at x1; cases x1
                obtain ⟨pe, vs, h1, h2⟩ := rel.node i p _ hp hn
                obtain ⟨f2, h3, h4⟩ := FrzTo.kill f1.inv f1.rel hp hm
                refine ⟨H1, f1.trans f2, fun v r => ?_⟩
                obtain ⟨p', hp', rfl⟩ := r
                rw [hp] at hp'; cases hp'
                exact ⟨p.1, vs, rfl, SqL.of (h3.trans (x2.trans h1)), (k1 vs h2).mono (Pre.refl A) f2.step.sub⟩
              · refine absurd ⟨_, List.getElem?_eq_getElem (?_ : i < A.length)⟩ hA
                rw [rel.len]; exact (List.getElem?_eq_some_iff.mp hn).1
            · cases e
          · cases e
        · rename_i ks vs hn
          split at e
          · rename_i hks
            split at e
            · rename_i vs1 μ1 e1
              split at e
              · rename_i m hm
                cases e
                obtain ⟨H1, f1, k1⟩ := ih vs vs1 μ1 e1
                have hiA : i < A.length := by rw [rel.len]; exact (List.getElem?_eq_some_iff.mp hn).1
                have hp : A[i]? = some A[i] := List.getElem?_eq_getElem hiA
                obtain ⟨x1, x2, x3⟩ := f1.same i _ m hp hm
                rw [hn] at x1; cases x1
                obtain ⟨pe, es, h1, h2, h3, h4⟩ := rel.node i _ _ hp hn
                obtain ⟨o, f2, h5⟩ := FrzTo.killD f1.inv f1.rel hp hm (x2.trans h1) pe
                refine ⟨_, f1.trans f2, fun v r => ?_⟩
                obtain ⟨p', hp', rfl⟩ := r
                rw [hp] at hp'; cases hp'
                exact ⟨A[i].1, es, rfl, ⟨o, h5⟩, (h2.mono (Pre.refl A) f1.step.sub).mono (Pre.refl A) f2.step.sub, (k1 _ h3).mono (Pre.refl A) f2.step.sub, h4⟩
              · cases e
            · cases e
          · cases e
        · rename_i c fs hn
          split at e
          · rename_i ci hci
            split at e
            · rename_i hsl
              split at e
              · rename_i ds hds
                split at e
                · rename_i ds1 μ1 e1
                  split at e
                  · rename_i m hm
                    cases e
                    obtain ⟨H1, f1, k1⟩ := ih ds ds1 μ1 e1
                    have hiA : i < A.length := by rw [rel.len]; exact (List.getElem?_eq_some_iff.mp hn).1
                    have hp : A[i]? = some A[i] := List.getElem?_eq_getElem hiA
                    obtain ⟨x1, x2, x3⟩ := f1.same i _ m hp hm
                    rw [hn] at x1; cases x1
                    obtain ⟨pne, ⟨o2, ho2⟩, ci', C, h1, h2, h3⟩ := rel.node i _ _ hp hn
                    have h1 : cls c = some ci' := h1
                    rw [hci] at h1; cases h1
                    rw [if_pos hsl] at h3
                    obtain ⟨svs, h4, h5⟩ := h3
                    obtain ⟨f2, h6, h7⟩ := FrzTo.kill f1.inv f1.rel hp hm
                    obtain ⟨g1, g2⟩ := insFs_get hds
                    -- the values in their order
                    have hvs : ∃ vs, Reps (gx X cls) A (hide B H A μ) vs ds ∧ ∀ (j : Nat) f v, ci.order[j]? = some f → vs[j]? = some v → ∃ q i, Slot1 X.K C f q i ∧ svs[i]? = some (some v) := by
                      clear h6 h7 f2 k1 e1 hm hds
                      have : ∀ (os : List Str) (ds : List D), ds.length = os.length → (∀ (j : Nat) f, os[j]? = some f → ∃ d, ds[j]? = some d ∧ fs.lookup f = some d) → ∃ vs, Reps (gx X cls) A (hide B H A μ) vs ds ∧ ∀ (j : Nat) f v, os[j]? = some f → vs[j]? = some v → ∃ q i, Slot1 X.K C f q i ∧ svs[i]? = some (some v) := by
                        intro os
                        induction os with
                        | nil => intro ds hl _; cases ds with
                          | nil => exact ⟨[], rfl, fun j f v e => by simp at e⟩
                          | cons _ _ => simp at hl
                        | cons o os ih => intro ds hl hg; cases ds with
                          | nil => simp at hl
                          | cons d ds =>
                            obtain ⟨vs, r1, r2⟩ := ih ds (by simpa using hl) fun j f e => by simpa using hg (j + 1) f (by simpa using e)
                            obtain ⟨d0, e0, e1⟩ := hg 0 o rfl
                            have : d = d0 := by simpa using e0
                            subst this
                            obtain ⟨q, i, v, z1, z2, z3⟩ := h5 o d e1
                            refine ⟨v :: vs, .cons z3 r1, fun j f x e2 e3 => ?_⟩
                            cases j with
                            | zero => simp at e2 e3; subst e2; subst e3; exact ⟨q, i, z1, z2⟩
                            | succ j => exact r2 j f x (by simpa using e2) (by simpa using e3)
                      exact this ci.order ds g1 g2
                    obtain ⟨vs, r1, r2⟩ := hvs
                    refine ⟨H1, f1.trans f2, fun v r => ?_⟩
                    obtain ⟨p', hp', rfl⟩ := r
                    rw [hp] at hp'; cases hp'
                    refine ⟨A[i].1, vs, rfl, ⟨ci, C, hci, h2.2, ⟨h2.1, by rw [r1.length, g1]⟩, ?_⟩, (k1 vs r1).mono (Pre.refl A) f2.step.sub⟩
                    rw [if_pos hsl]
                    refine ⟨A[i].2, svs, ?_, r2⟩
                    rcases h4 with ⟨w1, w2⟩ | ⟨w1, w2⟩
                    · exact .inl ⟨h6.trans (x2.trans w1), w2⟩
                    · exact .inr ⟨h6.trans (x2.trans w1), h7.trans (x3.trans w2)⟩
                  · cases e
                · cases e
              · cases e
            · cases e
          · cases e
        · cases e
      · rename_i ds
        obtain ⟨p, e1, e2⟩ := Option.map_eq_some_iff.mp e
        cases e2
        obtain ⟨H1, f1, k1⟩ := ih ds p.1 p.2 e1
        refine ⟨H1, f1, fun v r => ?_⟩
        obtain ⟨a, vs, rfl, h1, h2⟩ := r
        exact ⟨a, vs, rfl, f1.step.sub.sqt h1, k1 vs h2⟩
      · rename_i ds
        obtain ⟨p, e1, e2⟩ := Option.map_eq_some_iff.mp e
        cases e2
        obtain ⟨H1, f1, k1⟩ := ih ds p.1 p.2 e1
        refine ⟨H1, f1, fun v r => ?_⟩
        obtain ⟨a, vs, rfl, h1, h2⟩ := r
        exact ⟨a, vs, rfl, f1.step.sub.sql h1, k1 vs h2⟩
      · cases e
end
def frzO (cls : Str → Option CI) (d : D) (μ : Sto) : Res D := match frzD cls 9 d μ with
  | some (d', μ') => .ok d' μ'
  | none => .bad
def zFrz (cls : Str → Option CI) (f : Ev D) : Ev D := zUn (frzO cls) f
/-- the thing in the i-th slot, fixed -/
def sFrz (cls : Str → Option CI) (i : Nat) : Ex := fun ρ μ => match ρ[i]? with
  | some (some d) => match frzD cls 9 d μ with
    | some (d', μ') => .nx (ρ.set i (some d')) μ'
    | none => .bad
  | _ => .bad
section
variable {X : Cx} {cls : Str → Option CI} {W : WX} {e : Expr} {f : Ev D} {sts : List Stmt} {g : Ex}
theorem e_frz (h : ZE X cls W e f) : ZE X cls W e (zFrz cls f) :=
  ⟨fun pins s σ H Q I ⟨B, A, ρ, μ, rel, re, w⟩ => ev1 h I rel re w fun v s1 x d A1 H1 μ1 I1 rx r1 re1 p1 st w1 => by
    unfold frzO at w1
    split at w1
    · rename_i d' μ' e1
      obtain ⟨H2, f2, k2⟩ := frzD_ok 9 pins σ s1 B A1 H1 μ1 d d' μ' I1 r1 e1
      exact ⟨x, H2, f2.inv, rx, w1 x A1 H2 f2.rel (k2 x p1) f2.step⟩
    · exact w1.elim⟩
theorem ss_frz (i : Nat) (h : ZSs X cls W sts g) : ZSs X cls W sts (sSeq (sFrz cls i) g) :=
  ⟨fun pins s σ H E I ⟨B, A, ρ, μ, rel, re, w⟩ => by
    unfold sSeq sFrz at w
    cases hi : ρ[i]? with
    | none => rw [hi] at w; exact w.elim
    | some od => cases od with
      | none => rw [hi] at w; exact w.elim
      | some d =>
        rw [hi] at w
        dsimp only at w
        cases e1 : frzD cls 9 d μ with
        | none => rw [e1] at w; exact w.elim
        | some p =>
          rw [e1] at w
          obtain ⟨d', μ'⟩ := p
          obtain ⟨H2, f2, k2⟩ := frzD_ok 9 pins σ s B A H μ d d' μ' I rel e1
          obtain ⟨v, hv, rv⟩ := re.2 i d hi
          refine h.run pins s σ H2 E f2.inv ⟨B, A, ρ.set i (some d'), μ', f2.rel, ?_, WantS.step w f2.step⟩
          have := (re.mono f2.step).set i (k2 v rv)
          have hlt : i < σ.length := (List.getElem?_eq_some_iff.mp hv).1
          have es : σ.set i (some v) = σ := by
            apply List.ext_getElem?
            intro j
            by_cases z : j = i
            · subst z; rw [List.getElem?_set_self hlt, hv]
            · rw [List.getElem?_set_ne (Ne.symm z)]
          rw [es] at this
          exact this⟩
end
end Z

/-! dicts that are made -/
namespace Z
open PySem PySem.Spec PyProof.Rows L2 SlX

def nk : Key → NK
  | .inl i => .num i
  | .inr x => .text x
theorem nk_inj {a b : Key} (h : nk a = nk b) : a = b := by
  cases a <;> cases b <;> simp [nk] at h <;> rw [h]
/-- an entry of a dict of ints and texts -/
def toE (p : Key × V) : EntV := (nk p.1, kV p.1, p.2)
theorem toE_fst (l : List (Key × V)) : (l.map toE).map (·.1) = l.map fun p => nk p.1 := by simp [toE, List.map_map, Function.comp_def]
theorem nodup_nk {l : List (Key × V)} (h : (l.map (·.1)).Nodup) : ((l.map toE).map (·.1)).Nodup := by
  rw [toE_fst]
  exact List.pairwise_map.mpr ((List.pairwise_map.mp h).imp fun h e => h (nk_inj e))
theorem putK_E {k : Key} {z : V} : ∀ {l : List (Key × V)}, ((l.map toE).map (·.1)).Nodup → (putK l k z).map toE = putV (l.map toE) (nk k) (kV k) z
  | [], _ => rfl
  | p :: l, h => by
    rw [List.map_cons, List.map_cons, List.nodup_cons] at h
    by_cases e : p.1 = k
    · have e1 : (putK (p :: l) k z) = (p.1, z) :: l := by
        unfold putK
        rw [if_pos (by simp [e]), List.map_cons, if_pos e]
        congr 1
        conv => rhs; rw [← List.map_id l]
        refine List.map_congr_left fun q hq => ?_
        rw [if_neg]; rfl
        intro e2
        refine h.1 (List.mem_map.mpr ⟨toE q, List.mem_map.mpr ⟨q, hq, rfl⟩, ?_⟩)
        show nk q.1 = nk p.1
        rw [e2, e]
      rw [e1]
      unfold putV
      simp only [List.map_cons]
      rw [List.findIdx?_cons, if_pos (by simp [toE, e])]
      simp [toE]
    · have e2 : nk p.1 ≠ nk k := fun q => e (nk_inj q)
      have ih := putK_E (k := k) (z := z) h.2
      have e3 : (toE p).1 ≠ nk k := e2
      unfold putV at ih ⊢
      simp only [List.map_cons]
      rw [List.findIdx?_cons, if_neg (by simp [e3])]
      unfold putK at ih ⊢
      by_cases ha : (l.any fun kv => decide (kv.1 = k)) = true
      · rw [if_pos ha] at ih
        rw [if_pos (by rw [List.any_cons, ha, Bool.or_true]), List.map_cons, if_neg e, List.map_cons, ih]
        cases List.findIdx? (fun e => decide (e.1 = nk k)) (l.map toE) with
        | none => rfl
        | some i => rfl
      · rw [if_neg ha] at ih
        rw [if_neg (by rw [List.any_cons]; simp only [Bool.not_eq_true] at ha; rw [ha]; simp [e]), List.map_append, List.map_cons]
        rw [List.map_append] at ih
        cases hf : List.findIdx? (fun e => decide (e.1 = nk k)) (l.map toE) with
        | none => rfl
        | some i =>
          exfalso
          obtain ⟨hlt, h4, _⟩ := List.findIdx?_eq_some_iff_getElem.mp hf
          refine ha (List.any_eq_true.mpr ?_)
          rw [List.getElem_map] at h4
          refine ⟨l[i]'(by simpa using hlt), List.getElem_mem _, ?_⟩
          have : nk (l[i]'(by simpa using hlt)).1 = nk k := of_decide_eq_true h4
          simp [nk_inj this]
section
variable {X : Cx} {cls : Str → Option CI} {pins : List (Addr × Obj)} {σ : L2.St} {H : Hp} {s : Shared}
/-- a dict of ints and texts is a dict -/
theorem dk_obj {w : World} {P : Program} {h : Heap} {a : Addr} {kvs : List (Key × V)} {vs : List (Key × Value)} (r : KV kvs vs) (d : h.DictOf (mixKind P w) a vs) : ∃ xs, DObj w h a xs ∧ Paired EV (kvs.map toE) xs := by
  obtain ⟨o, es, ep, h1, h2, h3, h4, h5, _⟩ := d
  have hk : ∀ e ∈ es.toList, ∃ k, keyIs k e.key = true ∧ e.hash = keyH w k := fun e he => h4 e (Array.mem_toList_iff.mp he)
  have : ∀ (l : List DictEntry) (kvs : List (Key × V)) (vs : List (Key × Value)), (∀ e ∈ l, ∃ k, keyIs k e.key = true ∧ e.hash = keyH w k) → KV kvs vs → Pairs (mixKind P w) l vs → ∃ xs : List Ent, l = xs.map (entN w) ∧ Paired EV (kvs.map toE) xs := by
    intro l
    induction l with
    | nil =>
      intro kvs vs _ r p
      cases p
      cases r
      exact ⟨[], rfl, .nil⟩
    | cons e l ih =>
      intro kvs vs hk r p
      cases p with
      | cons p1 p2 p3 =>
        cases r with
        | cons r1 r2 =>
          rename_i kv vs' kv' kvs'
          obtain ⟨xs, e1, e2⟩ := ih _ _ (fun e he => hk e (List.mem_cons_of_mem _ he)) r2 p3
          obtain ⟨k', q1, q2⟩ := hk e (List.mem_cons_self ..)
          have p1 : keyIs kv.1 e.key = true := p1
          have : k' = kv.1 := (mixKind P w).inj _ _ _ q1 p1
          subst this
          refine ⟨(nk kv.1, e.key, e.val) :: xs, ?_, .cons ⟨?_, ?_, ?_⟩ e2⟩
          · rw [List.map_cons, ← e1]
            congr 1
            unfold entN
            cases e
            dsimp only at q2 ⊢
            rw [q2]
            cases kv.1 <;> rfl
          · show nk kv'.1 = nk kv.1
            rw [r1.1]
          · show RelV (kV kv'.1) e.key
            rw [r1.1]
            exact relV_key p1
          · show RelV kv'.2 e.val
            rw [p2]; exact r1.2
  obtain ⟨xs, e1, e2⟩ := this _ kvs vs hk r h5
  exact ⟨xs, ⟨o, es, ep, h1, h2, h3, e1⟩, e2⟩
theorem Inv.dic {p : Addr} {kvs : List (Key × V)} (I : Inv X pins σ H s) (h : H p = some (.dK kvs)) : Inv X pins σ (upd H p (DicO X.w p (kvs.map toE))) s := by
  obtain ⟨hz, hs, vs, r, d⟩ := I.hok p _ h
  obtain ⟨xs, o1, o2⟩ := dk_obj r d
  obtain ⟨o, _, _, ho, _⟩ := id o1
  exact I.write (x := p) (e := p) (t' := s.toks) (h' := s.heap) (by rw [h]; trivial) (.inl rfl) (fun b u _ e => e) ⟨o, ho⟩ (dicO_ok (by simpa using hz) hs o1 o2)
end
def mkD (m : Bool) (ks vs : List D) (μ : Sto) : Res D := if m then .ok (.hd μ.length) (μ ++ [some (.dct ks vs)]) else .ok (.dct ks vs) μ
/-- the data of a dict -/
def DData (G : Gx) (A : Al) (F : Hp) (es : List EntV) (ks vs : List D) : Prop := Reps G A F (es.map (·.2.1)) ks ∧ Reps G A F (es.map (·.2.2)) vs ∧ D.keys ks = some (es.map (·.1)) ∧ (es.map (·.1)).Nodup ∧ ∀ e ∈ es, e.1.depth ≤ 8
theorem DData.mono {G : Gx} {A A' : Al} {F F' : Hp} {es : List EntV} {ks vs : List D} (h : DData G A F es ks vs) (hA : Pre A A') (s : Sub F F') : DData G A' F' es ks vs := ⟨h.1.mono hA s, h.2.1.mono hA s, h.2.2⟩
section
variable {X : Cx} {cls : Str → Option CI} {W : WX} {pins : List (Addr × Obj)} {σ : L2.St} {s : Shared} {B : Addr → Prop} {A A1 : Al} {H H1 : Hp} {μ μ1 : Sto} {Q : VK} {p : Addr} {es : List EntV} {ks vs : List D}
/-- a dict in the making is done -/
theorem fin_dict {m : Bool} (I : Inv X pins σ H1 s) (hd : H1 p = some (DicO X.w p es)) (rel : RelS (gx X cls) (plus B p) A1 H1 μ1) (nB : ¬ B p) (dd : DData (gx X cls) A1 (hide (plus B p) H1 A1 μ1) es ks vs)
    (st : Step B A H μ A1 H1 μ1) (sb : Sub (hide B H A μ) (hide (plus B p) H1 A1 μ1)) (w : Want (gx X cls) W (RD (gx X cls)) B A H μ σ (mkD m ks vs μ1) Q) : EP X pins σ Q (.ref p) s := by
  unfold mkD at w
  cases m with
  | true =>
    obtain ⟨r1, e⟩ := rel.adopt (n := .dct ks vs) nB ⟨rfl, es, hd, dd.mono (pre_push A1 _) (Sub.refl _)⟩
    exact ⟨.ref p, H1, I, rfl, w (.ref p) _ H1 r1 ⟨(p, p), by rw [← rel.len]; simp, rfl⟩ ⟨st.pre.trans (pre_push A1 _), by rw [e]; exact sb, st.keep⟩⟩
  | false =>
    obtain ⟨o, I'⟩ := I.lock hd trivial
    obtain ⟨r1, e1⟩ := rel.write (o := .frz o (DicO X.w p es)) nB
    obtain ⟨r2, e2⟩ := r1.done nB
    refine ⟨.ref p, _, I', rfl, w (.ref p) A1 _ r2 ⟨p, es, rfl, ⟨o, e2.trans upd_same⟩, ?_⟩ ⟨st.pre, ?_, fun b u hb e => ?_⟩⟩
    · exact dd.mono (Pre.refl A1) (by rw [← e1]; exact plus_sub)
    · exact sb.trans (by rw [← e1]; exact plus_sub)
    · rw [upd_ne (fun z : b = p => nB (by rw [← z]; exact hb))]; exact st.keep b u hb e
/-- a new dict -/
theorem new_dict {m : Bool} {kvs : List (Key × V)} (I : Inv X pins σ (upd H p (.dK kvs)) s) (hp : H p = none) (rel : RelS (gx X cls) B A H μ) (dd : DData (gx X cls) A (hide B H A μ) (kvs.map toE) ks vs) (w : Want (gx X cls) W (RD (gx X cls)) B A H μ σ (mkD m ks vs μ) Q) : EP X pins σ Q (.ref p) s := by
  have I2 := Inv.dic I upd_same
  rw [upd_upd] at I2
  have nB : ¬ B p := fun z => by obtain ⟨u, e⟩ := rel.bex p z; rw [hp] at e; cases e
  have hh : hide (plus B p) (upd H p (DicO X.w p (kvs.map toE))) A μ = hide B H A μ := hide_plus hp
  exact fin_dict I2 upd_same (rel.own hp) nB (by rw [hh]; exact dd) ⟨Pre.refl A, by rw [← hh]; exact plus_sub, fun b u hb e => by rw [upd_ne (ne_of_none e hp)]; exact e⟩ (by rw [hh]; exact Sub.refl _) w
end
def zD0 (m : Bool) : Ev D := fun _ μ => mkD m [] [] μ
section
variable {X : Cx} {cls : Str → Option CI} {W : WX} {pos : Pos}
/-- {} -/
theorem e_d0 {m : Bool} : ZE X cls W (.Dict [] [] pos) (zD0 m) :=
  ⟨fun pins s σ H Q I ⟨B, A, ρ, μ, rel, re, w⟩ => thn (pe_dnewK.run pins s σ H (fun v H' => ∃ p, v = .ref p ∧ H p = none ∧ H' = upd H p (.dK [])) I (fun p hp => ⟨p, rfl, hp, rfl⟩)) fun u s1 ⟨v, H', I1, rv, p, ev, hp, eH⟩ => by
    subst ev; subst eH
    obtain rfl := show u = Value.ref p from rv
    exact new_dict (kvs := []) (ks := []) (vs := []) I1 hp rel ⟨rfl, rfl, rfl, by simp, fun e he => by simp at he⟩ w⟩
end
end Z

/-! dict comprehensions, copies -/
namespace Z
open PySem PySem.Spec PyProof.Rows L2 SlX

/-- a key that is an int or a text -/
def D.ky : D → Option Key
  | .int i => some (.inl i)
  | .str x => some (.inr x)
  | _ => none
theorem ky_kk {d : D} {k : Key} (h : d.ky = some k) : d.kk = some (nk k) := by
  cases d with
  | int i => cases h; rfl
  | str x => cases h; rfl
  | _ => cases h
theorem ky_rep {G : Gx} {A : Al} {F : Hp} {d : D} {k : Key} {v : V} (h : d.ky = some k) (r : Rep G A F v d) : v = kV k := by
  cases d with
  | int i => cases h; exact r
  | str x => cases h; exact r
  | _ => cases h
def putD (ks vs : List D) (kd vd : D) : List D × List D := match kd.kk with
  | some k => match D.ixOf ks k with
    | some j => (ks, vs.set j vd)
    | none => (ks ++ [kd], vs ++ [vd])
  | none => (ks, vs)
open Classical in
noncomputable def dcF (p : Srcs) (T : Tg) (tt : Ev Bool) (f g : Ev D) (ρ : Env') : List D → Sto → List D → List D → Res (List D × List D)
  | [], μ, ks, vs => if grd p μ then .ok (ks, vs) μ else .bad
  | d :: r, μ, ks, vs => if grd p μ then (match T d ρ with
    | none => .bad
    | some ρ1 => (tt ρ1 μ).nox.bind fun b μ1 => if b then (f ρ1 μ1).nox.bind fun kd μ2 => (g ρ1 μ2).nox.bind fun vd μ3 =>
        if kd.ky.isSome ∧ ks.length < lim then dcF p T tt f g ρ r μ3 (putD ks vs kd vd).1 (putD ks vs kd vd).2 else .bad
      else dcF p T tt f g ρ r μ1 ks vs) else .bad
noncomputable def zDc (m : Bool) (src : Ev Srcs) (T : Tg) (tt : Ev Bool) (f g : Ev D) (own : List Nat) : Ev D := fun ρ μ => (src ρ μ).bind fun p μ1 => (dcF p T tt f g (wipeE ρ own) p.1 μ1 [] []).bind fun q μ2 => mkD m q.1 q.2 μ2
section
variable {X : Cx} {cls : Str → Option CI} {W : WX} {k : Nat} {pos : Pos}
theorem put_dd {G : Gx} {A : Al} {F : Hp} {kvs : List (Key × V)} {ks vs : List D} {k : Key} {kd vd : D} {z : V} (dd : DData G A F (kvs.map toE) ks vs) (hk : kd.ky = some k) (rk : Rep G A F (kV k) kd) (rv : Rep G A F z vd) :
    DData G A F ((putK kvs k z).map toE) (putD ks vs kd vd).1 (putD ks vs kd vd).2 := by
  rw [putK_E dd.2.2.2.1]
  refine put_data dd.1 dd.2.1 dd.2.2.1 dd.2.2.2.1 dd.2.2.2.2 (ky_kk hk) rk rv ?_
  unfold putD
  rw [ky_kk hk]
  all_goals dsimp only
  all_goals (cases D.ixOf ks (nk k) <;> rfl)
/-- the end of a dict comprehension -/
def DcEnd (X : Cx) (cls : Str → Option CI) (W : WX) (m : Bool) (B : Addr → Prop) (A : Al) (H : Hp) (μ : Sto) (σ : L2.St) (Q : VK) (v : V) (H1 : Hp) : Prop :=
  ∃ (D : Addr) (kvs : List (Key × V)) (A1 : Al) (μ1 : Sto) (ks vs : List Z.D), v = .ref D ∧ H1 D = some (.dK kvs) ∧ RelS (gx X cls) (plus B D) A1 H1 μ1 ∧ ¬ B D ∧ DData (gx X cls) A1 (hide (plus B D) H1 A1 μ1) (kvs.map toE) ks vs ∧
    Step B A H μ A1 H1 μ1 ∧ Sub (hide B H A μ) (hide (plus B D) H1 A1 μ1) ∧ Want (gx X cls) W (RD (gx X cls)) B A H μ σ (mkD m ks vs μ1) Q
theorem dc_want {m : Bool} {src : Ev Srcs} {is own : List Nat} {T : Tg} {tt : Ev Bool} {f g : Ev D} (hi : ∀ i ∈ is, i ∈ own) {σ : L2.St} {H : Hp} {Q : VK} {B : Addr → Prop} {A : Al} {ρ : Env'} {μ : Sto} (rel : RelS (gx X cls) B A H μ) (re : RelE (gx X cls) A (hide B H A μ) σ ρ)
    (w : Want (gx X cls) W (RD (gx X cls)) B A H μ σ (zDc m src T tt f g own ρ μ) Q) :
    tDc (tV (gx X cls) W (fun A F J p => IterOk (gx X cls) A F J p) src) (tG (gx X cls) is T) (tT (gx X cls) W0 tt) (tX (gx X cls) W0 f) (tX (gx X cls) W0 g) own σ H (fun v H1 => ∃ A0 H0 μ0, DcEnd X cls W m B A0 H0 μ0 σ Q v H1) := by
  refine tV_step rel re w fun J p A1 H1 μ1 _ r1 re1 ok1 st1 w1 D hD => ?_
  have nB : ¬ B D := fun z => by obtain ⟨u, e⟩ := r1.bex D z; rw [hD] at e; cases e
  obtain ⟨r0, hr0⟩ : ∃ r, r = dcF p T tt f g (wipeE ρ own) p.1 μ1 [] [] := ⟨_, rfl⟩
  rw [← hr0] at w1
  let St := fun (i : Nat) (H2 : Hp) => ∃ A2 μ2 ks vs kvs, H2 D = some (.dK kvs) ∧ RelS (gx X cls) (plus B D) A2 H2 μ2 ∧ DData (gx X cls) A2 (hide (plus B D) H2 A2 μ2) (kvs.map toE) ks vs ∧ Pre A1 A2 ∧ Sub (hide B H1 A1 μ1) (hide (plus B D) H2 A2 μ2) ∧ (∀ b o, B b → H1 b = some o → H2 b = some o) ∧
    r0 = dcF p T tt f g (wipeE ρ own) (p.1.drop i) μ2 ks vs
  refine ⟨fun i m H2 => m = p.1.length - i ∧ i ≤ p.1.length ∧ St i H2, ⟨p.1.length, by simp, Nat.zero_le _, A1, μ1, [], [], [], upd_same, r1.own hD, ⟨rfl, rfl, rfl, by simp, fun e he => by simp at he⟩, Pre.refl _, by rw [hide_plus hD]; exact Sub.refl _, fun b o hb e => by rw [upd_ne (fun z : b = D => nB (by rw [← z]; exact hb))]; exact e, by simpa using hr0⟩, ?_⟩
  rintro i m' H2 ⟨rfl, hi', A2, μ2, ks, vs, kvs, hD2, r2, hv, pre, sub, keep, er⟩
  by_cases hlt : i < p.1.length
  · rw [List.drop_eq_getElem_cons hlt] at er
    unfold dcF at er
    split at er
    case isFalse => rw [er] at w1; exact w1.elim
    rename_i hg
    obtain ⟨z1, _⟩ := ok1 (plus B D) A2 H2 μ2 r2 pre sub hg i
    obtain ⟨go, y⟩ := z1 _ (List.getElem?_eq_getElem hlt)
    split at er
    · rw [er] at w1; exact w1.elim
    rename_i ρ3 e3
    refine .inr ⟨go, St (i + 1), fun H' h => ⟨_, by omega, rfl, hlt, h⟩, fun x H3 hy => ?_⟩
    obtain ⟨A3, r3, st3, p3⟩ := y x H3 hy
    have re3 : RelE (gx X cls) A3 (hide (plus B D) H3 A3 μ2) (L2.wipe σ own) (wipeE ρ own) := RelE.wipe ⟨re1.1, fun j d hj => let ⟨v, h1, h2⟩ := re1.2 j d hj; ⟨v, h1, h2.mono (pre.trans st3.pre) (sub.trans st3.sub)⟩⟩ own
    refine ⟨plus B D, A3, wipeE ρ own, μ2, _, ρ3, r3, re3, p3, e3, fun σ4 re4 hw => ⟨by rw [hw own hi, wipe_wipe], plus B D, A3, ρ3, μ2, r3, re4, ?_⟩⟩
    cases e5 : tt ρ3 μ2 with
    | bad => rw [e5] at er; have er : r0 = .bad := er; rw [er] at w1; exact w1.elim
    | exc c ds μ5 => rw [e5] at er; have er : r0 = .bad := er; rw [er] at w1; exact w1.elim
    | ok b μ5 =>
      rw [e5] at er
      intro b' A5 H5 r5 eb st5
      obtain rfl := show b' = b from eb
      have er : r0 = if b' then (f ρ3 μ5).nox.bind fun kd μ2 => (g ρ3 μ2).nox.bind fun vd μ3 => if kd.ky.isSome ∧ ks.length < lim then dcF p T tt f g (wipeE ρ own) (p.1.drop (i + 1)) μ3 (putD ks vs kd vd).1 (putD ks vs kd vd).2 else .bad else dcF p T tt f g (wipeE ρ own) (p.1.drop (i + 1)) μ5 ks vs := er
      have hD5 : H5 D = some (.dK kvs) := st5.keep D _ (.inr rfl) (st3.keep D _ (.inr rfl) hD2)
      cases b' with
      | false =>
        rw [if_neg Bool.false_ne_true] at er ⊢
        exact ⟨A5, μ5, ks, vs, kvs, hD5, r5, hv.mono (st3.trans st5).pre (st3.trans st5).sub, pre.trans (st3.trans st5).pre, sub.trans (st3.trans st5).sub, fun b o hb e => (st3.trans st5).keep b o (.inl hb) (keep b o hb e), er⟩
      | true =>
        rw [if_pos rfl] at er ⊢
        refine ⟨plus B D, A5, ρ3, μ5, r5, re4.mono st5, ?_⟩
        cases e6 : f ρ3 μ5 with
        | bad => rw [e6] at er; have er : r0 = .bad := er; rw [er] at w1; exact w1.elim
        | exc c ds μ6 => rw [e6] at er; have er : r0 = .bad := er; rw [er] at w1; exact w1.elim
        | ok kd μ6 =>
          rw [e6] at er
          have er : r0 = (g ρ3 μ6).nox.bind fun vd μ3 => if kd.ky.isSome ∧ ks.length < lim then dcF p T tt f g (wipeE ρ own) (p.1.drop (i + 1)) μ3 (putD ks vs kd vd).1 (putD ks vs kd vd).2 else .bad := er
          intro yv A6 H6 r6 py st6
          refine ⟨plus B D, A6, ρ3, μ6, r6, (re4.mono st5).mono st6, ?_⟩
          cases e7 : g ρ3 μ6 with
          | bad => rw [e7] at er; have er : r0 = .bad := er; rw [er] at w1; exact w1.elim
          | exc c ds μ7 => rw [e7] at er; have er : r0 = .bad := er; rw [er] at w1; exact w1.elim
          | ok vd μ7 =>
            rw [e7] at er
            have er : r0 = if kd.ky.isSome ∧ ks.length < lim then dcF p T tt f g (wipeE ρ own) (p.1.drop (i + 1)) μ7 (putD ks vs kd vd).1 (putD ks vs kd vd).2 else .bad := er
            intro zv A7 H7 r7 pz st7
            have st : Step (plus B D) A2 H2 μ2 A7 H7 μ7 := ((st3.trans st5).trans st6).trans st7
            have hD7 : H7 D = some (.dK kvs) := st7.keep D _ (.inr rfl) (st6.keep D _ (.inr rfl) hD5)
            split at er
            · rename_i hl
              obtain ⟨hky, hl⟩ := hl
              obtain ⟨kk, hkk⟩ := Option.isSome_iff_exists.mp hky
              have ey := ky_rep hkk py
              have lv : kvs.length = ks.length := by have := hv.1.length; simpa using this
              obtain ⟨r8, h8⟩ := r7.write (o := .dK (putK kvs kk zv)) nB
              refine ⟨kvs, kk, ey, hD7, by rw [lv]; exact lim_lt hl, A7, μ7, _, _, putK kvs kk zv, upd_same, r8, ?_, pre.trans st.pre, ?_, fun b o hb e => ?_, er⟩
              · rw [h8]
                subst ey
                exact put_dd (hv.mono st.pre st.sub) hkk (py.mono st7.pre st7.sub) pz
              · rw [h8]; exact sub.trans st.sub
              · rw [upd_ne (fun z : b = D => nB (by rw [← z]; exact hb))]; exact st.keep b o (.inl hb) (keep b o hb e)
            · rw [er] at w1; exact w1.elim
  · rw [List.drop_eq_nil_of_le (by omega)] at er
    unfold dcF at er
    split at er
    case isFalse => rw [er] at w1; exact w1.elim
    rename_i hg
    obtain ⟨_, z2⟩ := ok1 (plus B D) A2 H2 μ2 r2 pre sub hg i
    rw [er] at w1
    exact .inl ⟨z2 (by omega), A1, H1, μ1, D, kvs, A2, μ2, ks, vs, rfl, hD2, r2, nB, hv, ⟨pre, sub.trans plus_sub, keep⟩, sub, w1⟩
theorem e_dc {kx vx tg iter : Expr} {ifs : List Expr} {scope : Scope} {own : List (Str × Nat)} {m : Bool} {src : Ev Srcs} {is : List Nat} {T : Tg} {tt : Ev Bool} {f g : Ev D} (z : ZX X W k) (hi : ZI X cls W tg iter src) (ok : blkC X.N X.env.scope scope own = true)
    (hg : ∀ (s : Shared) (H : Hp) (C : Addr) (cl : List (Str × Addr)) (fp : List Addr), ZG (X.blk s H scope (compEnvC scope cl C X.env) fp) cls tg is T)
    (ht : ∀ (s : Shared) (H : Hp) (C : Addr) (cl : List (Str × Addr)) (fp : List Addr), ZIf (X.blk s H scope (compEnvC scope cl C X.env) fp) cls W0 ifs tt)
    (hk : ∀ (s : Shared) (H : Hp) (C : Addr) (cl : List (Str × Addr)) (fp : List Addr), ZE (X.blk s H scope (compEnvC scope cl C X.env) fp) cls W0 kx f)
    (he : ∀ (s : Shared) (H : Hp) (C : Addr) (cl : List (Str × Addr)) (fp : List Addr), ZE (X.blk s H scope (compEnvC scope cl C X.env) fp) cls W0 vx g)
    (hs : ∀ x, foldedSetIterable iter X.env x = pure x := by intro _; rfl) (hw : ∀ i ∈ is, i ∈ own.map (·.2) := by decide) : ZE X cls W (.DictComp kx vx [⟨tg, iter, ifs, 0⟩] scope pos) (zDc m src T tt f g (own.map (·.2))) :=
  ⟨fun pins s σ H Q I ⟨B, A, ρ, μ, rel, re, w⟩ => thn ((pe_dc z.calm z.nd hi (blkOk_by ok) hg ht hk he hs).run pins s σ H _ I (dc_want hw rel re w)) fun u s1 ⟨v, H1, I1, rv, A0, H0, μ0, D, kvs, A1, μ1, ks, vs, ev, hD, r1, nB, dd, st, sb, w1⟩ => by
    subst ev
    obtain rfl := show u = Value.ref D from rv
    have I2 := Inv.dic I1 hD
    obtain ⟨r2, h2⟩ := r1.write (o := DicO X.w D (kvs.map toE)) nB
    refine fin_dict I2 upd_same r2 nB (by rw [h2]; exact dd) ⟨st.pre, ?_, fun b u hb e => ?_⟩ (by rw [h2]; exact sb) w1
    · refine sb.trans ?_
      rw [← h2]; exact plus_sub
    · rw [upd_ne (fun z : b = D => nB (by rw [← z]; exact hb))]; exact st.keep b u hb e⟩
end
end Z

/-! copies of dicts, their pairs -/
namespace Z
open PySem PySem.Spec PyProof.Rows L2 SlX

/-! ### several new things at once -/
def ext (H N : Hp) : Hp := fun b => match N b with
  | some o => some o
  | none => H b
theorem ext_new {H N : Hp} {b : Addr} {o : HO} (h : N b = some o) : ext H N b = some o := by unfold ext; rw [h]
theorem ext_old {H N : Hp} {b : Addr} (h : N b = none) : ext H N b = H b := by unfold ext; rw [h]
section
variable {X : Cx} {pins : List (Addr × Obj)} {σ : L2.St} {H N : Hp} {s : Shared} {h' : Heap}
theorem Inv.layAll {tk : Nat} (I : Inv X pins σ H s) (hk : ∀ b o, s.heap.get? b = some o → h'.get? b = some o) (hN : ∀ b o, N b = some o → s.heap.objs.size ≤ b) (ok : ∀ b o, N b = some o → ObjOk X.prog X.w (ext H N) h' b o) : Inv X pins σ (ext H N) { s with heap := h', toks := tk } := by
  have low : ∀ b o, s.heap.get? b = some o → N b = none := fun b o e => by
    cases z : N b with
    | none => rfl
    | some u => exact absurd (Heap.lt_size e) (Nat.not_lt.mpr (hN b u z))
  have kp : ∀ b u, H b = some u → ext H N b = some u := fun b u e => by
    have hlt := I.hok.lt e
    cases z : N b with
    | none => rw [ext_old z]; exact e
    | some u' => exact absurd hlt (Nat.not_lt.mpr (hN b u' z))
  refine L2.Inv.call' (ch := []) I rfl ⟨fun b o q _ _ _ => hk b o q, fun b o q _ _ _ => ⟨o.slots, hk b o q⟩, fun b o q n _ => ?_, fun b o q _ => ⟨o, hk b o q⟩, fun b xs q => kp b _ q, fun b o u q => kp b _ q, fun b ps q => ⟨#[], by rw [kp b _ q]; simp⟩⟩ (fun b u q => ?_) I.bare fun b z => by simp at z
  · rw [ext_old (low b o q)]; exact n
  · cases z : N b with
    | some u' => rw [ext_new z] at q; cases q; exact ok b _ z
    | none =>
      rw [ext_old z] at q
      exact (I.hok b u q).stay (fun d v _ y => hk d v y) (fun d y => kp d _ y) fun d xs y => kp d _ y
end
section
variable {G : Gx} {B : Addr → Prop} {A : Al} {H N : Hp} {μ : Sto}
theorem RelS.frozenN (rel : RelS G B A H μ) (hN : ∀ b o, N b = some o → H b = none) : RelS G B A (ext H N) μ ∧ Step B A H μ A (ext H N) μ ∧ ∀ b o, N b = some o → hide B (ext H N) A μ b = some o := by
  have old : ∀ b o, H b = some o → ext H N b = some o := fun b o e => by
    cases z : N b with
    | none => rw [ext_old z]; exact e
    | some u => rw [hN b u z] at e; cases e
  have sb : Sub (hide B H A μ) (hide B (ext H N) A μ) := fun b u h => by
    obtain ⟨h1, h2, h3⟩ := of_hide h
    rw [hide_eq h2 h3]; exact old b u h1
  refine ⟨⟨rel.len, rel.inj, rel.out, fun b hb => ?_, fun i q n h1 h2 => ?_⟩, ⟨Pre.refl A, sb, fun b u _ h => old b u h⟩, fun b o h => ?_⟩
  · obtain ⟨u, e⟩ := rel.bex b hb
    exact ⟨u, old b u e⟩
  · have nd := rel.node i q n h1 h2
    obtain ⟨⟨o1, e1⟩, o2, e2⟩ := nd.there
    exact nd.mono (Pre.refl A) sb ((old _ _ e1).trans e1.symm) ((old _ _ e2).trans e2.symm)
  · obtain ⟨f1, f2⟩ := rel.fresh (hN b o h)
    rw [hide_eq f1 f2]; exact ext_new h
end

/-! ### list(d.items()) -/
def itemsL (m : Bool) (d : D) (μ : Sto) : Res D := match asD μ d with
  | some (ks, vs) => if m then .bad else .ok (.lst ((ks.zip vs).map fun p => .tup [p.1, p.2])) μ
  | none => .bad
section
variable {X : Cx} {cls : Str → Option CI} {W : WX} {k : Nat} {e : Expr} {f : Ev D} {p apos cpos pos : Pos}
open Classical in
/-- the tuples of a dict's items, and their list -/
noncomputable def itN (S : Addr) (as : List Addr) (es : List EntV) : Hp := fun b => if b = S then some (.lst (as.map V.ref)) else if b ∈ as then (es[as.idxOf b]?).map fun e => .tup [e.2.1, e.2.2] else none
theorem idx_get {as : List Addr} (nd : as.Nodup) {j : Nat} {a : Addr} (h : as[j]? = some a) : as.idxOf a = j := by
  obtain ⟨hlt, e⟩ := List.getElem?_eq_some_iff.mp h
  have hm : a ∈ as := List.mem_of_getElem? h
  have h1 : as.idxOf a < as.length := List.idxOf_lt_length_of_mem hm
  refine (List.getElem?_inj h1 nd).mp ?_
  rw [h, List.getElem?_eq_getElem h1, List.getElem_idxOf]
theorem reps_items {G : Gx} {A : Al} {F : Hp} : ∀ {as : List Addr} {es : List EntV} {ks vs : List D}, as.length = es.length → Reps G A F (es.map (·.2.1)) ks → Reps G A F (es.map (·.2.2)) vs → (∀ (j : Nat) a e, as[j]? = some a → es[j]? = some e → F a = some (.tup [e.2.1, e.2.2])) →
    Reps G A F (as.map V.ref) ((ks.zip vs).map fun p => .tup [p.1, p.2])
  | [], [], ks, vs, _, r1, r2, _ => by
    have : ks = [] := by cases ks with
      | nil => rfl
      | cons _ _ => obtain ⟨_, _, h, _⟩ := r1; cases h
    subst this
    rfl
  | a :: as, e :: es, ks, vs, hl, r1, r2, h => by
    cases ks with
    | nil => cases (show (e :: es).map (·.2.1) = [] from r1)
    | cons kd ks => cases vs with
      | nil => cases (show (e :: es).map (·.2.2) = [] from r2)
      | cons vd vs =>
        obtain ⟨v1, q1, e1, h1, h2⟩ := r1
        obtain ⟨v2, q2, e2, h3, h4⟩ := r2
        injection e1 with e1 e1'; injection e2 with e2 e2'
        subst e1; subst e2; subst e1'; subst e2'
        refine ⟨.ref a, _, rfl, ⟨a, _, rfl, SqT.of (h 0 a e rfl rfl), .cons h1 (.cons h3 .nil)⟩, reps_items (by simpa using hl) h2 h4 fun j x y hx hy => h (j + 1) x y (by simpa using hx) (by simpa using hy)⟩
  | [], _ :: _, _, _, hl, _, _, _ => by simp at hl
  | _ :: _, [], _, _, hl, _, _, _ => by simp at hl
theorem e_items {m : Bool} (z : ZX X W k) (he : ZE X cls W e f) (hg : Gl X "list") (hm : X.mg "list" = none) (hv : bootBuiltins "list" = some (.type "list")) (hbase : attributeBase e "items" X.env (eval e X.env) = eval e X.env := by rfl) (hline : (apos.endLine == cpos.line) = true := by rfl)
    (hs : starEach [.Call (.Attribute e "items" apos) [] [] cpos] X.env = (false, eval (.Call (.Attribute e "items" apos) [] [] cpos) X.env) :: starEach [] X.env := by rfl) :
    ZE X cls W (.Call (.Name "list" p) [.Call (.Attribute e "items" apos) [] [] cpos] [] pos) (zUn (itemsL m) f) := by
  refine ⟨fun pins s σ H Q I ⟨B, A, ρ, μ, rel, re, w⟩ => ?_⟩
  refine wpAny_Call_Name_kw (ld_blt I hg hm hv ?_)
  refine PyProof.Rows.callWith_type1 ?_ hs rfl
  rw [hs]
  show wpAny _ _ (spliced ((false, eval (.Call (.Attribute e "items" apos) [] [] cpos) X.env) :: backTo pos (starEach [] X.env))) _ _ s
  refine Calls.spliced_cons ?_
  refine wpAny_Call_method (T := "dict") (id := "dict.items") hbase rfl hline F.plainAttrs_dict F.slot_dict_items F.type_dict_items (ev1 he I rel re w fun u s1 x d A1 H1 μ1 I1 rx r1 re1 p1 st1 w1 => ?_)
  unfold itemsL at w1
  split at w1
  · rename_i ks vs eD
    cases m with
    | true => exact w1.elim
    | false =>
      obtain ⟨d, es, rfl, h1, h2, h3, h4, h5, h6⟩ := asD_ok r1 p1 eD
      obtain rfl : u = Value.ref d := rx
      obtain ⟨hz, hsy, xs, ho, hp, hk2⟩ := dic_read I1 hide_sub (cls := cls) (vs := vs) h1 h2 h4 h5 h6
      obtain ⟨o, ar, ep, g1, g2, g3, g4⟩ := id ho
      have hmr : s1.heap.DictRaw d ar ep := raw_of g1 g2 g3
      have le : es.length = xs.length := paired_len hp
      have sz := ent_size g4
      refine ⟨hmr.typeIs, fun a ea => ⟨o, by cases ea; exact g1, g2.2.1⟩, ?_⟩
      show wpAny _ _ (callWith cpos (.builtin "dict.items") [.ref d] [] []) _ X.xe s1
      have I2 : Inv X pins σ H1 { s1 with heap := s1.heap.push { cls := .type "dict_items", data := .fields #[.ref d] } } := I1.kept (t' := s1.toks) fun b ob q => Heap.get?_push_of_some _ q
      refine method_meetsIn F.slot_dict_items F.entry_dict_items rfl (PySem.evalArgs_none ⟨rfl, hmr.typeIs, F.args_dict_items_1 _, _, meets_dict_items_raw d hsy, ⟨⟨ar, ep, hmr⟩, ?_⟩⟩)
      refine Calls.spliced_nil ?_
      refine PySem.W.dil_call (I1.ok.hd z.calm) ⟨_, Heap.get?_push_size _ rfl, rfl, rfl⟩ (hmr.at fun o e => Heap.get?_push_of_some _ e) (by omega) fun h' tk acc c as hk hS hl hG hacc => ?_
      generalize hS0 : (s1.heap.push { cls := .type "dict_items", data := .fields #[.ref d] }) = hp0 at hk hS hG I2 ⊢
      have nd : as.Nodup := List.Pairwise.imp (fun {a b} (h : a < b) => Nat.ne_of_lt h) hG.rise
      have hSn : hp0.objs.size ∉ as := fun z => Nat.lt_irrefl _ (hG.above _ z)
      have atN' : ∀ (j : Nat) a e, as[j]? = some a → es[j]? = some e → itN hp0.objs.size as es a = some (.tup [e.2.1, e.2.2]) := fun j a e ha hee => by
        have hm : a ∈ as := List.mem_of_getElem? ha
        unfold itN
        rw [if_neg (fun z : a = hp0.objs.size => hSn (by rw [← z]; exact hm)), if_pos hm, idx_get nd ha, hee]
        rfl
      have inN : ∀ b o, itN hp0.objs.size as es b = some o → (b = hp0.objs.size ∧ o = .lst (as.map V.ref)) ∨ ∃ (j : Nat) (e : EntV), as[j]? = some b ∧ es[j]? = some e ∧ o = .tup [e.2.1, e.2.2] := fun b o h => by
        unfold itN at h
        split at h
        · rename_i e; exact .inl ⟨e, (Option.some.inj h).symm⟩
        · split at h
          · rename_i hb
            obtain ⟨e, h7, h8⟩ := Option.map_eq_some_iff.mp h
            exact .inr ⟨as.idxOf b, e, by rw [List.getElem?_eq_getElem (List.idxOf_lt_length_of_mem hb), List.getElem_idxOf], h7, h8.symm⟩
          · cases h
      have J : Inv X pins σ (ext H1 (itN hp0.objs.size as es)) { s1 with heap := h', toks := tk } := by
        refine Inv.layAll (s := { s1 with heap := hp0 }) (tk := tk) I2 hk (fun b o h => ?_) (fun b o h => ?_)
        · rcases inN b o h with ⟨rfl, _⟩ | ⟨j, e, h7, _⟩
          · exact Nat.le_refl _
          · exact Nat.le_of_lt (hG.above b (List.mem_of_getElem? h7))
        · rcases inN b o h with ⟨rfl, rfl⟩ | ⟨j, e, h7, h8, rfl⟩
          · refine ⟨by rw [List.length_map]; omega, acc.toList, c, by rw [hacc]; exact LiI.vals_refs as, ?_⟩
            rw [Array.toArray_toList]; exact hS
          · obtain ⟨hj, h9⟩ := hG.pairs j b h7
            have hx : xs[j]? = some xs[j] := List.getElem?_eq_getElem (by omega)
            obtain ⟨q, hq1, hq2⟩ := pairedEV_get hp hx
            rw [h8] at hq1; cases hq1
            have ea := ent_at g4 j
            rw [hx, Array.getElem?_eq_getElem hj] at ea
            have ea : ar[j] = entN X.w xs[j] := Option.some.inj ea
            exact ⟨by show 2 ≤ sizeLine; decide, [ar[j].key, ar[j].val], .cons (by rw [ea]; exact hq2.2.1) (.cons (by rw [ea]; exact hq2.2.2) .nil), ⟨_, h9, rfl, _, rfl⟩⟩
      obtain ⟨r2, st2, hh⟩ := r1.frozenN (N := itN hp0.objs.size as es) fun b o h => by
        rcases inN b o h with ⟨rfl, _⟩ | ⟨j, e, h7, _⟩
        · exact I2.hok.fresh (Nat.le_refl _)
        · exact I2.hok.fresh (Nat.le_of_lt (hG.above b (List.mem_of_getElem? h7)))
      refine ⟨.ref hp0.objs.size, _, J, rfl, w1 _ A1 _ r2 ?_ st2⟩
      have hS1 : itN hp0.objs.size as es hp0.objs.size = some (.lst (as.map V.ref)) := by unfold itN; rw [if_pos rfl]
      exact ⟨_, _, rfl, SqL.of (hh _ _ hS1), reps_items (by omega) (h2.mono (Pre.refl A1) st2.sub) (h3.mono (Pre.refl A1) st2.sub) fun j a e ha hee => hh _ _ (atN' j a e ha hee)⟩
  · exact w1.elim
end
end Z

/-! dict(d), dict(pairs) -/
namespace Z
open PySem PySem.Spec PyProof.Rows L2 SlX

def D.kys : List D → Option (List Key)
  | [] => some []
  | d :: ds => match d.ky, D.kys ds with
    | some k, some ks => some (k :: ks)
    | _, _ => none
/-- the entries of a dict of ints and texts -/
theorem kys_E {G : Gx} {A : Al} {F : Hp} : ∀ {es : List EntV} {ks : List D} {kl : List Key}, D.kys ks = some kl → Reps G A F (es.map (·.2.1)) ks → D.keys ks = some (es.map (·.1)) → ∃ kvs : List (Key × V), es = kvs.map toE ∧ kvs.map (·.1) = kl
  | [], ks, kl, h, r, hk => by
    cases ks with
    | nil => cases h; exact ⟨[], rfl, rfl⟩
    | cons _ _ => obtain ⟨_, _, z, _⟩ := r; cases z
  | e :: es, ks, kl, h, r, hk => by
    cases ks with
    | nil => cases (show (e :: es).map (·.2.1) = [] from r)
    | cons d ks =>
      obtain ⟨v, r', e1, h1, h2⟩ := r
      injection e1 with e1 e1'; subst e1'
      simp only [D.kys] at h
      cases hky : d.ky with
      | none => rw [hky] at h; cases h
      | some k =>
        cases hks : D.kys ks with
        | none => rw [hky, hks] at h; cases h
        | some kl' =>
          rw [hky, hks] at h; cases h
          simp only [D.keys] at hk
          rw [(kk_key (ky_kk hky)).1] at hk
          cases hke : D.keys ks with
          | none => rw [hke] at hk; cases hk
          | some nks =>
            rw [hke] at hk
            injection hk with hk
            simp only [List.map_cons, List.cons.injEq] at hk
            obtain ⟨kvs, h3, h4⟩ := kys_E hks h2 (by rw [hke, hk.2])
            refine ⟨(k, e.2.2) :: kvs, ?_, by simp [h4]⟩
            rw [List.map_cons, ← h3]
            congr 1
            have hv := ky_rep hky h1
            show e = (nk k, kV k, e.2.2)
            refine Prod.ext hk.1.symm (Prod.ext ?_ rfl)
            show e.2.1 = kV k
            rw [← hv]; exact e1.symm ▸ rfl
theorem dk_of {w : World} {P : Program} {h : Heap} {a : Addr} {kvs : List (Key × V)} {xs : List Ent} (d : DObj w h a xs) (r : Paired EV (kvs.map toE) xs) (nd : ((kvs.map toE).map (·.1)).Nodup) : ∃ vs : List (Key × Value), KV kvs vs ∧ h.DictOf (mixKind P w) a vs := by
  obtain ⟨o, es, ep, h1, h2, h3, h4⟩ := d
  have : ∀ (kvs : List (Key × V)) (xs : List Ent), Paired EV (kvs.map toE) xs → ∃ vs : List (Key × Value), KV kvs vs ∧ Pairs (mixKind P w) (xs.map (entN w)) vs ∧ (∀ e ∈ xs.map (entN w), ∃ k, keyIs k e.key = true ∧ e.hash = keyH w k) ∧ vs.map (·.1) = kvs.map (·.1) := by
    intro kvs
    induction kvs with
    | nil => intro xs r; cases r; exact ⟨[], .nil, .nil, fun e he => by simp at he, rfl⟩
    | cons p kvs ih =>
      intro xs r
      rw [List.map_cons] at r
      cases r with
      | cons r1 r2 =>
        rename_i x xs'
        obtain ⟨vs, e1, e2, e3, e4⟩ := ih xs' r2
        have hk : keyIs p.1 x.2.1 = true := kV_is (P := P) (w := w) r1.2.1
        refine ⟨(p.1, x.2.2) :: vs, .cons ⟨rfl, r1.2.2⟩ e1, .cons hk rfl e2, fun e he => ?_, by simp [e4]⟩
        rcases List.mem_cons.mp he with rfl | he
        · refine ⟨p.1, hk, ?_⟩
          show x.1.hash w = keyH w p.1
          have : nk p.1 = x.1 := r1.1
          rw [← this]
          cases p.1 <;> rfl
        · exact e3 e he
  obtain ⟨vs, e1, e2, e3, e4⟩ := this kvs xs r
  refine ⟨vs, e1, o, es, ep, h1, h2, h3, fun e he => e3 e (by rw [← h4]; exact Array.mem_toList_iff.mpr he), by rw [h4]; exact e2, ?_⟩
  rw [e4]
  rw [toE_fst] at nd
  exact List.pairwise_map.mpr ((List.pairwise_map.mp nd).imp fun h e => h (by rw [e]))
def pairO : D → Option (D × D)
  | .tup [k, v] => some (k, v)
  | _ => none
def copyB (m : Bool) (ds : List D) (μ : Sto) : Res D := match ds with
  | [d] => match asD μ d with
    | some (ks, vs) => match D.kys ks with
      | some _ => mkD m ks vs μ
      | none => .bad
    | none => .bad
  | _ => .bad
section
variable {X : Cx} {cls : Str → Option CI} {W : WX} {k : Nat}
theorem copy_b {m : Bool} : OkN X cls W (fun us => call (.type "dict") us) (copyB m) := by
  intro pins s σ H B A μ xs us ds Q I rel ra rx w
  unfold copyB at w
  split at w
  · obtain ⟨x, rfl, h0⟩ := reps1 ra
    obtain ⟨u, rfl, r1⟩ := vals1 rx
    split at w
    · rename_i ks vs eD
      split at w
      · rename_i kl hkl
        obtain ⟨d, es, rfl, h1, h2, h3, h4, h5, h6⟩ := asD_ok rel h0 eD
        obtain rfl : u = Value.ref d := r1
        obtain ⟨hz, hsy, xs, ho, hp, hk2⟩ := dic_read I hide_sub (cls := cls) (vs := vs) h1 h2 h4 h5 h6
        obtain ⟨kvs, rfl, e2⟩ := kys_E hkl h2 h4
        obtain ⟨vs', rel', dd⟩ := dk_of (P := X.prog) ho hp h5
        rw [List.length_map] at hz
        refine PySem.kt_call_dict hsy dd (by rw [← Paired.length rel']; exact hz) fun h' d' hs => ?_
        have hm : (s.heap.objs.size == sysModules) = false := beq_eq_false_iff_ne.mpr (Nat.ne_of_gt I.big)
        have J : Inv X pins σ (upd H s.heap.objs.size (.dK kvs)) { s with heap := h' } := I.laid (t' := s.toks) (fun b u e => (hs.2 b (Nat.ne_of_lt (Heap.lt_size e))).trans (Heap.get?_push_of_some _ e)) (Nat.le_refl _)
          (show ObjOk X.prog X.w _ _ _ (.dK kvs) from ⟨hz, hm, vs', rel', d'⟩)
        exact new_dict J (I.hok.fresh (Nat.le_refl _)) rel ⟨h2, h3, h4, h5, h6⟩ w
      · exact w.elim
    · exact w.elim
  · exact w.elim
end
end Z

/-! dict(pairs), any keys -/
namespace Z
open PySem PySem.Spec PyProof.Rows L2 SlX

/-- lists and tuples stay -/
def SeqKeep (h h' : Heap) : Prop := ∀ a o vs n, h.get? a = some o → o.data = .seq vs n → h'.get? a = some o
theorem KIs.keep {h h' : Heap} (hk : SeqKeep h h') {k : NK} {v : Value} (x : KIs h k v) : KIs h' k v := ⟨NestedIs.at hk _ _ x.1, x.2⟩
theorem KsOk.keep {h h' : Heap} (hk : SeqKeep h h') {xs : List Ent} (x : KsOk h xs) : KsOk h' xs := ⟨fun e he => (x.1 e he).keep hk, x.2⟩
theorem KsOk.put {h : Heap} {xs : List Ent} {k : NK} {kv v : Value} (x : KsOk h xs) (hk : KIs h k kv) : KsOk h (putN xs k kv v) := by
  refine ⟨fun e he => ?_, putN_nodup x.2⟩
  unfold putN at he
  split at he
  · obtain ⟨i, hi⟩ := List.mem_iff_getElem?.mp he
    rw [List.getElem?_modify] at hi
    obtain ⟨e0, h1, h2⟩ := Option.map_eq_some_iff.mp hi
    have := x.1 e0 (List.mem_of_getElem? h1)
    split at h2
    · subst h2; exact this
    · subst h2; exact this
  · rcases List.mem_append.mp he with z | z
    · exact x.1 e z
    · simp at z; subst z; exact hk
theorem DObj.extBut {w : World} {h h' : Heap} {a b : Addr} {xs : List Ent} (d : DObj w h a xs) (e : Heap.ExtBut b h h') (hne : a ≠ b) : DObj w h' a xs := d.stay fun o q => e a o hne q
def mergeN (acc : List Ent) (l : List Ent) : List Ent := l.foldl (fun acc q => putN acc q.1 q.2.1 q.2.2) acc
section
variable {prog : Program} {w : World} {A : Around} {E : Value → Shared → Prop}
theorem upd_loopN {R : Result → Shared → Prop} {S I l : Addr} {items : Array Value} {res : Value} (hh : A.handled = none) (hu : A.units + 40 < cLine) (hlI : l ≠ I) (hSI : S ≠ I) (hSl : S ≠ l) :
    ∀ (rest : List Ent) (i : Nat) (acc : List Ent) (ix : Int) (t : Tok) (s : Shared), items.size = i + rest.length → acc.length + rest.length ≤ sizeLine →
      (∀ (j : Nat) (q : Ent), rest[j]? = some q → ∃ (b : Addr), items[i + j]? = some (.ref b) ∧ b ≠ S ∧ b ≠ I ∧ IsTup s.heap b #[q.2.1, q.2.2] ∧ KIs s.heap q.1 q.2.1) →
      s.heap.IsListIter I l i → s.heap.IsList l items → DObj w s.heap S acc → KsOk s.heap acc →
      (∀ h' tk, DObj w h' S (mergeN acc rest) → (∀ b o, b ≠ S → b ≠ I → s.heap.get? b = some o → h'.get? b = some o) → R (.ok (.ret res)) { s with heap := h', toks := tk }) →
      codeAny (model prog w) A (.builtin "dict.update.loop" ⟨[.ref S, .ref I, .int ix t, res], []⟩) R s
  | [], i, acc, ix, t, s, hsz, hln, ht, hit, hl, hm, hko, hR => by
    refine codeAny_builtin ud_entry ?_
    rw [Around.under_plainId ud_plain _]
    show wpAny _ A.in1 (pyNext (.ref I) >>= _) _ _ s
    refine wpAny_bind (wpAny_pyNext_list_end (A := A.in1) hh hit hl (by first | exact Array.getElem?_eq_none (Nat.le_of_eq hsz) | (simp at hsz; simp; omega)) fun h' he => ?_)
    show wpAny _ A.in1 (Builtin.Dict.addKeywords S [] >>= _) _ _ _
    refine wpAny_bind (wpAny_pure (wpAny_pure ?_))
    exact hR h' s.toks (hm.extBut he hSI) fun b o _ hb e => he b o hb e
  | q :: rest, i, acc, ix, t, s, hsz, hln, ht, hit, hl, hm, hko, hR => by
    obtain ⟨b, hb, hbS, hbI, htup, hk⟩ := ht 0 q rfl
    rw [List.length_cons] at hsz hln
    refine codeAny_builtin ud_entry ?_
    rw [Around.under_plainId ud_plain _]
    show wpAny _ A.in1 (pyNext (.ref I) >>= _) _ _ s
    refine wpAny_bind (wpAny_pyNext_list_item (x := .ref b) hit hl (by simpa using hb) fun h1 hit1 hs1 => ?_)
    have k1 : SeqKeep s.heap h1 := fun a o vs n e ed => hs1.extBut a o (fun z => by
      obtain ⟨oi, e1, _, e2⟩ := hit
      rw [z, e1] at e; cases e; rw [ed] at e2; cases e2) e
    have ht1 : IsTup h1 b #[q.2.1, q.2.2] := htup.extBut hs1.extBut hbI
    have hl1 : h1.IsList l items := hl.extBut hs1.extBut hlI
    have hm1 : DObj w h1 S acc := hm.extBut hs1.extBut hSI
    obtain ⟨o, ho, hc, n, hd⟩ := id ht1
    show wpAny _ A.in1 (holding [Value.ref b] _ >>= _) _ _ _
    refine wpAny_bind (wpAny_holding ?_)
    refine wpAny_bind (wpAny_tryCatch ?_)
    unfold Builtin.Dict.pairItems
    refine wpAny_bind (wpAny_typeOf (T := "tuple") ⟨o, ho, hc⟩ ?_)
    rw [if_pos (by first | decide | rfl | simp)]
    refine wpAny_bind (wpAny_seqItems ho hd (wpAny_pure ?_))
    show wpAny _ A.in1 (holding [q.2.1, q.2.2] (dictSet S q.2.1 q.2.2)) _ _ _
    refine wpAny_holding (put_N (k := q.1) (by show A.units + 1 + 8 < _; omega) (hk.keep k1) hm1 (hko.keep k1) (by omega) (fun h2 hm2 hs2 => ?_))
    have k2 : SeqKeep h1 h2 := fun a o vs n e ed => hs2.extBut a o (fun z => by
      obtain ⟨oi, _, _, e1, _, e2, _⟩ := hm1
      rw [z, e1] at e; cases e; rw [ed] at e2; cases e2) e
    have kk : SeqKeep s.heap h2 := fun a o vs n e ed => k2 a o vs n (k1 a o vs n e ed) ed
    refine wpAny_pure ⟨plainId_quiet ud_plain _, upd_loopN (items := items) hh hu hlI hSI hSl rest (i + 1) (putN acc q.1 q.2.1 q.2.2) (ix + 1) 0 _ (show items.size = i + 1 + rest.length by omega) ?_ (fun j q' e => ?_) ?_ ?_ hm2 (((hko.keep k1).put (hk.keep k1)).keep k2) fun h' tk hd' k => ?_⟩
    · have z := putN_length acc q.1 q.2.1 q.2.2
      omega
    · obtain ⟨b', hb', hbS', hbI', htup', hk'⟩ := ht (j + 1) q' (by simpa using e)
      refine ⟨b', ?_, hbS', hbI', (htup'.extBut hs1.extBut hbI').extBut hs2.extBut hbS', hk'.keep kk⟩
      rw [show i + 1 + j = i + (j + 1) by omega]
      exact hb'
    · exact hit1.at fun o' e => hs2.extBut I o' (Ne.symm hSI) e
    · exact hl1.extBut hs2.extBut (Ne.symm hSl)
    · exact hR h' tk hd' fun c oc h3 h4 e => k c oc h3 h4 (hs2.extBut c oc h3 (hs1.extBut c oc h4 e))
theorem dnew_N (h : Heap) : DObj w (h.push { cls := .type "dict", data := .dict #[] }) h.objs.size [] := ⟨_, #[], _, Heap.get?_push_size _ rfl, ⟨rfl, rfl, rfl⟩, rfl, rfl⟩
theorem call_pairsN {s : Shared} {l : Addr} {ol : Obj} {items : Array Value} {n : Nat} {prs : List Ent} {Q : Value → Shared → Prop} (hh : A.handled = none) (hu : A.units + 60 < cLine) (hl : s.heap.get? l = some ol) (hc : ol.cls = .type "list") (hd : ol.dict = none)
    (hdat : ol.data = .seq items n) (hsz : items.size = prs.length) (hln : prs.length ≤ sizeLine)
    (ht : ∀ (j : Nat) (q : Ent), prs[j]? = some q → ∃ (b : Addr), items[j]? = some (.ref b) ∧ IsTup s.heap b #[q.2.1, q.2.2] ∧ KIs s.heap q.1 q.2.1)
    (h : ∀ h' tk, DObj w h' s.heap.objs.size (mergeN [] prs) → (∀ b o, s.heap.get? b = some o → h'.get? b = some o) → Q (.ref s.heap.objs.size) { s with heap := h', toks := tk }) :
    wpAny (model prog w) A (call (.type "dict") [.ref l]) Q E s := by
  refine callType_codes (Q₁ := fun obj s₁ => obj = .ref s.heap.objs.size ∧ s₁ = { s with heap := s.heap.push { cls := .type "dict", data := .dict #[] } }) PySem.F.kt_called_dict (PySem.F.kt_typeCall_dict_1 _) PySem.F.entry_dict_init (kt_code_dict_new _ ⟨rfl, rfl⟩) ?_
  rintro obj s₁ ⟨rfl, rfl⟩
  have hnew : DObj w (s.heap.push { cls := .type "dict", data := .dict #[] }) s.heap.objs.size [] := dnew_N s.heap
  have k0 : ∀ b o, s.heap.get? b = some o → (s.heap.push { cls := .type "dict", data := .dict #[] }).get? b = some o := fun b o e => Heap.get?_push_of_some _ e
  refine ⟨hnew.typeIs (s := { s with heap := s.heap.push { cls := .type "dict", data := .dict #[] } }), PySem.F.args_dict_init_2 _ _, ?_⟩
  unfold Builtin.«dict.__init__»
  refine wpAny_bind ?_
  unfold Builtin.Dict.selfAndRest
  refine wpAny_bind (wpAny_notOrdered_dict (hnew.typeIs (s := { s with heap := s.heap.push { cls := .type "dict", data := .dict #[] } })) ?_)
  show wpAny _ _ (pure (s.heap.objs.size, [Value.ref l])) _ _ _
  refine wpAny_pure ?_
  show wpAny _ _ (Builtin.Dict.updateFrom "dict.__init__" s.heap.objs.size (.ref l) [] .none) _ _ _
  unfold Builtin.Dict.updateFrom
  refine wpAny_bind (wpAny_typeOf (T := "list") ⟨ol, k0 _ _ hl, hc⟩ ?_)
  rw [if_pos (by first | decide | rfl | simp)]
  refine wpAny_bind (miss_list (k0 _ _ hl) hc hdat hd hh fun h1 tk1 hk1 => ?_)
  rw [if_pos (show (none : Option Value).isNone = true from rfl)]
  refine wpAny_bind (wpAny_rule ?_)
  have hl1 : h1.IsList l items := ⟨ol, hk1 _ _ (k0 _ _ hl), hc, n, hdat⟩
  have hS1 : s.heap.objs.size < h1.objs.size := by
    have e : (s.heap.push { cls := .type "dict", data := .dict #[] }).get? s.heap.objs.size = some { cls := .type "dict", data := .dict #[] } := Heap.get?_push_size _ rfl
    exact Heap.lt_size (hk1 _ _ e)
  refine wpAny_bind (wpAny_pyIter_list hl1 ?_)
  have k2 : ∀ b o, h1.get? b = some o → (h1.push { cls := .type "list_iterator", data := .fields #[.ref l, .int 0 0] }).get? b = some o := fun b o e => Heap.get?_push_of_some _ e
  have hlt : l < s.heap.objs.size := Heap.lt_size hl
  have key := upd_loopN (prog := prog) (w := w) (A := A.in1) (R := wants (fun r s₂ => r = .none ∧ Q (.ref s.heap.objs.size) s₂) E) (S := s.heap.objs.size) (I := h1.objs.size) (l := l) (items := items) (res := Value.none) hh (by show A.units + 1 + 40 < _; omega)
    (Nat.ne_of_lt (Nat.lt_trans hlt hS1)) (Nat.ne_of_lt hS1) (Nat.ne_of_gt hlt) prs 0 [] 0 0
    { s with heap := h1.push { cls := .type "list_iterator", data := .fields #[.ref l, .int 0 0] }, toks := tk1 } (by rw [hsz, Nat.zero_add]) (by rw [List.length_nil, Nat.zero_add]; exact hln)
    (fun j q e => by
      obtain ⟨b, e1, e2, e3⟩ := ht j q e
      have hb : b < s.heap.objs.size := e2.lt
      exact ⟨b, by rw [Nat.zero_add]; exact e1, Nat.ne_of_lt hb, Nat.ne_of_lt (Nat.lt_trans hb hS1), e2.keeps fun c o z => k2 _ _ (hk1 _ _ (k0 _ _ z)), e3.keep fun a o vs n z _ => k2 _ _ (hk1 _ _ (k0 _ _ z))⟩)
    ⟨_, Heap.get?_push_size _ rfl, rfl, rfl⟩ (hl1.at fun o e => k2 _ _ e) ((hnew.stay fun o e => hk1 _ _ e).stay fun o e => k2 _ _ e) ⟨fun x hx => by simp at hx, by simp⟩
    (fun h' tk hd' k => ⟨rfl, h h' tk hd' fun b o e => k b o (Nat.ne_of_lt (Heap.lt_size e)) (Nat.ne_of_lt (Nat.lt_trans (Heap.lt_size e) hS1)) (k2 _ _ (hk1 _ _ (k0 _ _ e)))⟩)
  first
    | exact wpAny_pure ⟨plainId_quiet ud_plain _, key⟩
    | exact wpAny_bind (wpAny_pure (wpAny_pure ⟨plainId_quiet ud_plain _, key⟩))
end
end Z

/-! dict(pairs), by value -/
namespace Z
open PySem PySem.Spec PyProof.Rows L2 SlX

def pairsF : List D → List D → List D → Option (List D × List D)
  | [], ks, vs => some (ks, vs)
  | .tup [kd, vd] :: r, ks, vs => if kd.kk.isSome then pairsF r (putD ks vs kd vd).1 (putD ks vs kd vd).2 else none
  | _, _, _ => none
def pairsB (m : Bool) (ds : List D) (μ : Sto) : Res D := match ds with
  | [d] => match asL μ d with
    | some ps => if ps.length < lim then (match pairsF ps [] [] with
      | some (ks, vs) => mkD m ks vs μ
      | none => .bad) else .bad
    | none => .bad
  | _ => .bad
/-- dict(x): of a dict, of pairs -/
def dictB (m : Bool) (ds : List D) (μ : Sto) : Res D := match ds with
  | [d] => match asL μ d with
    | some _ => pairsB m ds μ
    | none => copyB m ds μ
  | _ => .bad
section
variable {X : Cx} {cls : Str → Option CI} {W : WX} {pins : List (Addr × Obj)} {σ : L2.St} {H F : Hp} {s : Shared} {A : Al}
theorem put_ddN {G : Gx} {F : Hp} {es : List EntV} {ks vs : List D} {k : NK} {kd vd : D} {x z : V} (dd : DData G A F es ks vs) (hk : kd.kk = some k) (rk : Rep G A F x kd) (rv : Rep G A F z vd) : DData G A F (putV es k x z) (putD ks vs kd vd).1 (putD ks vs kd vd).2 := by
  refine put_data dd.1 dd.2.1 dd.2.2.1 dd.2.2.2.1 dd.2.2.2.2 hk rk rv ?_
  unfold putD
  rw [hk]
  all_goals dsimp only
  all_goals (cases D.ixOf ks k <;> rfl)
theorem pairs_ok (I : Inv X pins σ H s) (hF : Sub F H) : ∀ (ps : List D) (vs : List V) (us : List Value) (es : List EntV) (xs : List Ent) (ks0 vs0 ks' vs' : List D), Reps (gx X cls) A F vs ps → Vals vs us → pairsF ps ks0 vs0 = some (ks', vs') → DData (gx X cls) A F es ks0 vs0 → Paired EV es xs →
    ∃ (prs : List Ent) (es' : List EntV), prs.length = us.length ∧ (∀ (j : Nat) (q : Ent), prs[j]? = some q → ∃ (b : Addr), us[j]? = some (.ref b) ∧ IsTup s.heap b #[q.2.1, q.2.2] ∧ KIs s.heap q.1 q.2.1) ∧ DData (gx X cls) A F es' ks' vs' ∧ Paired EV es' (mergeN xs prs)
  | [], vs, us, es, xs, ks0, vs0, ks', vs', r, rv, e, dd, pe => by
    cases e
    have : vs = [] := r
    subst this
    cases rv
    exact ⟨[], es, rfl, fun j q h => by simp at h, dd, pe⟩
  | d :: ps, vs, us, es, xs, ks0, vs0, ks', vs', r, rv, e, dd, pe => by
    unfold pairsF at e
    split at e
    · rename_i h; cases h
    · rename_i kd vd r' h
      cases h
      split at e
      · rename_i hk
        obtain ⟨k, hk⟩ := Option.isSome_iff_exists.mp hk
        obtain ⟨v, vs', rfl, h1, h2⟩ := r
        cases rv with
        | cons r1 r2 =>
          obtain ⟨a, ws, rfl, h3, h4⟩ := h1
          obtain ⟨x, y, rfl, h5, h6⟩ := reps2 h4
          rename_i u us'
          obtain rfl := show u = Value.ref a from r1
          obtain ⟨its, ri, ht, _⟩ := I.tuple (hF.sqt h3)
          obtain ⟨u1, u2, rfl, q1, q2⟩ := vals2 ri
          obtain ⟨prs, es', l1, l2, l3, l4⟩ := pairs_ok I hF ps vs' us' (putV es k x y) (putN xs k u1 u2) _ _ _ _ h2 r2 e (put_ddN dd hk h5 h6) (put_pair pe q1 q2)
          refine ⟨(k, u1, u2) :: prs, es', by simp [l1], fun j q hq => ?_, l3, l4⟩
          cases j with
          | zero =>
            have : (k, u1, u2) = q := by simpa using hq
            subst this
            exact ⟨a, rfl, ht, kis_of I hF h5 q1 hk⟩
          | succ j => simpa using l2 j q (by simpa using hq)
      · cases e
    · cases e
theorem new_dictE {m : Bool} {B : Addr → Prop} {μ : Sto} {Q : VK} {p : Addr} {es : List EntV} {ks vs : List D} (I : Inv X pins σ (upd H p (DicO X.w p es)) s) (hp : H p = none) (rel : RelS (gx X cls) B A H μ) (dd : DData (gx X cls) A (hide B H A μ) es ks vs) (w : Want (gx X cls) W (RD (gx X cls)) B A H μ σ (mkD m ks vs μ) Q) : EP X pins σ Q (.ref p) s := by
  have nB : ¬ B p := fun z => by obtain ⟨u, e⟩ := rel.bex p z; rw [hp] at e; cases e
  have hh : hide (plus B p) (upd H p (DicO X.w p es)) A μ = hide B H A μ := hide_plus hp
  exact fin_dict I upd_same (rel.own hp) nB (by rw [hh]; exact dd) ⟨Pre.refl A, by rw [← hh]; exact plus_sub, fun b u hb e => by rw [upd_ne (ne_of_none e hp)]; exact e⟩ (by rw [hh]; exact Sub.refl _) w
theorem mergeN_len (l : List Ent) : ∀ acc : List Ent, (mergeN acc l).length ≤ acc.length + l.length := by
  induction l with
  | nil => intro acc; simp [mergeN]
  | cons q l ih =>
    intro acc
    have h1 := ih (putN acc q.1 q.2.1 q.2.2)
    have h2 := putN_length acc q.1 q.2.1 q.2.2
    show (mergeN (putN acc q.1 q.2.1 q.2.2) l).length ≤ _
    simp only [List.length_cons]
    omega
theorem pairs_b {m : Bool} (hc : X.calm = true) (hu : X.A.units + 100 < cLine) : OkN X cls W (fun us => call (.type "dict") us) (pairsB m) := by
  intro pins s σ H B A μ xs us ds Q I rel ra rx w
  unfold pairsB at w
  split at w
  · obtain ⟨x, rfl, h0⟩ := reps1 ra
    obtain ⟨u, rfl, r1⟩ := vals1 rx
    split at w
    · rename_i ps eL
      split at w
      · rename_i hlen
        split at w
        · rename_i ks vs ep
          obtain ⟨a, vv, rfl, h1, h2⟩ := asL_ok rel h0 eL
          obtain rfl : u = Value.ref a := r1
          obtain ⟨its, rv, ⟨ol, n, g1, g2, g3, g4⟩, hz⟩ := I.list h1
          obtain ⟨prs, es', l1, l2, l3, l4⟩ := pairs_ok I hide_sub ps vv its [] [] [] [] ks vs h2 rv ep ⟨rfl, rfl, rfl, by simp, fun e he => by simp at he⟩ .nil
          have hl := h2.length
          have hl2 := rv.length
          refine call_pairsN (prs := prs) (I.ok.hd hc) (by omega) g1 g2 g3 g4 (by simp [l1]) (by omega) (fun j q hq => ?_) fun h' tk hd' k => ?_
          · obtain ⟨b, e1, e2, e3⟩ := l2 j q hq
            exact ⟨b, by simpa using e1, e2, e3⟩
          · have hm : (s.heap.objs.size == sysModules) = false := beq_eq_false_iff_ne.mpr (Nat.ne_of_gt I.big)
            have hln : es'.length ≤ sizeLine := by
              have e1 : es'.length = (mergeN [] prs).length := paired_len l4
              have e2 := mergeN_len prs []
              simp only [List.length_nil] at e2
              omega
            exact new_dictE (I.laid (t' := tk) k (Nat.le_refl _) (dicO_ok hln hm hd' l4)) (I.hok.fresh (Nat.le_refl _)) rel l3 w
        · exact w.elim
      · exact w.elim
    · exact w.elim
  · exact w.elim
theorem dict_b {m : Bool} (hc : X.calm = true) (hu : X.A.units + 100 < cLine) : OkN X cls W (fun us => call (.type "dict") us) (dictB m) := by
  intro pins s σ H B A μ xs us ds Q I rel ra rx w
  unfold dictB at w
  split at w
  · split at w
    · exact pairs_b hc hu pins s σ H B A μ xs us _ Q I rel ra rx w
    · exact copy_b pins s σ H B A μ xs us _ Q I rel ra rx w
  · exact w.elim
end
end Z

/-! own classes with slots -/
namespace Z
open PySem PySem.Spec PyProof.Rows L2 SlX

/-- e.f -/
def attrO (cls : Str → Option CI) (f : Str) (d : D) (μ : Sto) : Option D := match d with
  | .ins c ds => match cls c with
    | some ci => if ci.slots then (ci.order.idxOf? f).bind fun j => ds[j]? else none
    | none => none
  | .hd h => match μ[h]? with
    | some (some (.ins c fs)) => match cls c with
      | some ci => if ci.slots then fs.lookup f else none
      | none => none
    | _ => none
  | _ => none
def zAttr (cls : Str → Option CI) (f : Str) (g : Ev D) : Ev D := zUn (fun d μ => okO (attrO cls f d μ) μ) g
/-- a class's slot facts -/
structure ClsS (K : PySem.W.Frag) (mg : Str → Option Value) (cls : Str → Option CI) : Prop where
  sc : ∀ c ci C, cls c = some ci → mg c = some (.ref C) → ci.exc = false → ci.slots = true → SCls K C
  has : ∀ c ci C, cls c = some ci → mg c = some (.ref C) → ci.exc = false → ci.slots = true → ∀ f ∈ ci.order, ∃ p i, Slot1 K C f p i
  inj : ∀ c ci C, cls c = some ci → mg c = some (.ref C) → ci.exc = false → ci.slots = true → ∀ f ∈ ci.order, ∀ g ∈ ci.order, ∀ p q i, Slot1 K C f p i → Slot1 K C g q i → f = g
section
variable {X : Cx} {cls : Str → Option CI} {W : WX} {k : Nat} {e : Expr} {g : Ev D} {f : Str} {pos : Pos}
theorem attr_at {B : Addr → Prop} {A : Al} {H : Hp} {μ : Sto} {v : V} {d r : D} (CS : ClsS X.K X.mg cls) (rel : RelS (gx X cls) B A H μ) (ra : Rep (gx X cls) A (hide B H A μ) v d) (e : attrO cls f d μ = some r) :
    ∃ a C dx p svs i z, v = .ref a ∧ Slt H a C dx svs ∧ SCls X.K C ∧ Slot1 X.K C f p i ∧ svs[i]? = some (some z) ∧ Rep (gx X cls) A (hide B H A μ) z r := by
  unfold attrO at e
  split at e
  · rename_i c ds
    split at e
    · rename_i ci hci
      split at e
      · rename_i hsl
        obtain ⟨j, hj, hd⟩ := Option.bind_eq_some_iff.mp e
        obtain ⟨a, vs, ci', C, h1, h2, h3, h4, h5, h6, _⟩ := ins_slt hide_sub ra
        have h2 : cls c = some ci' := h2
        rw [hci] at h2; cases h2
        obtain ⟨dx, svs, h7, h8⟩ := h6 hsl
        obtain ⟨z, h9, h10⟩ := h4.get hd
        have hf : ci.order[j]? = some f := by
          have := List.idxOf?_eq_some_iff.mp hj
          obtain ⟨hlt, hb, _⟩ := this
          rw [List.getElem?_eq_getElem hlt]
          exact congrArg some hb
        obtain ⟨p, i, h11, h12⟩ := h8 j f z hf h9
        exact ⟨a, C, dx, p, svs, i, z, h1, h7, CS.sc c ci C hci h3 h5.1 hsl, h11, h12, h10⟩
      · cases e
    · cases e
  · rename_i h
    split at e
    · rename_i c fs hn
      split at e
      · rename_i ci hci
        split at e
        · rename_i hsl
          obtain ⟨p, hp, rfl⟩ := ra
          obtain ⟨_, _, ci', C, h1, h2, h3⟩ := rel.node h p _ hp hn
          have h1 : cls c = some ci' := h1
          rw [hci] at h1; cases h1
          rw [if_pos hsl] at h3
          obtain ⟨svs, h4, h5⟩ := h3
          obtain ⟨q, i, z, h6, h7, h8⟩ := h5 f r e
          exact ⟨p.1, C, p.2, q, svs, i, z, rfl, h4, CS.sc c ci C hci h2.2 h2.1 hsl, h6, h7, h8⟩
        · cases e
      · cases e
    · cases e
  · cases e
theorem e_attr (CS : ClsS X.K X.mg cls) (he : ZE X cls W e g) (hb : attributeBase e f X.env (eval e X.env) = eval e X.env := by rfl) : ZE X cls W (.Attribute e f pos) (zAttr cls f g) :=
  PE.of (pe_sl he hb) fun σ H Q ⟨B, A, ρ, μ, rel, re, w⟩ => tV_step rel re w fun v d A1 H1 μ1 _ r1 re1 p1 st1 w1 => by
    obtain ⟨r, e1, q⟩ := okO_want1 w1
    obtain ⟨a, C, dx, p, svs, i, z, h1, h2, h3, h4, h5, h6⟩ := attr_at CS r1 p1 e1
    exact ⟨a, C, dx, p, svs, i, z, h1, h2, h3, h4, h5, q z h6 r1⟩
/-- a.f = c -/
def satO (cls : Str → Option CI) (f : Str) (a c : D) (μ : Sto) : Option Sto := match a with
  | .hd h => match μ[h]? with
    | some (some (.ins n fs)) => match cls n with
      | some ci => if ci.slots && ci.order.contains f && fs.all (fun p => ci.order.contains p.1) then some (μ.set h (some (.ins n ((f, c) :: fs)))) else none
      | none => none
    | _ => none
  | _ => none
def sAttr (cls : Str → Option CI) (f : Str) (a g : Ev D) : Ex := fun ρ μ => (g ρ μ).out ρ fun c μ1 => (a ρ μ1).out ρ fun x μ2 => outM (satO cls f x c μ2) ρ
theorem lookup_keys {α : Type} {f : Str} {d : α} : ∀ {l : List (Str × α)}, l.lookup f = some d → ∃ p ∈ l, p.1 = f
  | [], h => by cases h
  | (g, e) :: l, h => by
    rw [List.lookup_cons] at h
    split at h
    · rename_i hb; exact ⟨(g, e), by simp, (by simpa using hb : f = g).symm⟩
    · obtain ⟨p, h1, h2⟩ := lookup_keys h; exact ⟨p, List.mem_cons_of_mem _ h1, h2⟩
theorem s_attr {o value : Expr} {a : Ev D} {pos' : Pos} (CS : ClsS X.K X.mg cls) (ha : ZE X cls W o a) (hv : ZE X cls W value g) (hs : swapsWith value (some (.Attribute o f pos')) pos.line X.env = pure false := by rfl) : ZS X cls W (.Assign [.Attribute o f pos'] value pos) (sAttr cls f a g) :=
  PS.of (ps_sl ha hv hs) fun E σ H ⟨B, A, ρ, μ, rel, re, w⟩ => tV_stepS rel re w fun y dy A1 H1 μ1 hx1 r1 re1 p1 st w1 => tV_stepS r1 re1 w1 fun x dx A2 H2 μ2 hx2 r2 re2 p2 st2 w2 => by
    clear hx1 hx2
    unfold outM at w2
    split at w2
    · rename_i μ3 e3
      unfold satO at e3
      split at e3
      · rename_i h
        split at e3
        · rename_i n fs hn
          split at e3
          · rename_i ci hci
            split at e3
            · rename_i hc
              obtain rfl := Option.some.inj e3
              simp only [Bool.and_eq_true, List.all_eq_true, List.contains_iff_mem] at hc
              obtain ⟨⟨hsl, hf⟩, hfs⟩ := hc
              obtain ⟨p, hp, rfl⟩ := p2
              obtain ⟨pne, ⟨o2, ho2⟩, ci', C, h1, h2, h3⟩ := r2.node h p _ hp hn
              have h1 : cls n = some ci' := h1
              rw [hci] at h1; cases h1
              rw [if_pos hsl] at h3
              obtain ⟨svs, h4, h5⟩ := h3
              obtain ⟨q, i, sl⟩ := CS.has n ci C hci h2.2 h2.1 hsl f hf
              have nd : NodeAt (gx X cls) A2 (hide B H2 A2 μ2) (slH H2 p.1 C p.2 (putS i y svs)) p (.ins n ((f, dy) :: fs)) := by
                refine ⟨pne, ⟨.xd [], by unfold slH; exact (upd_ne pne).trans upd_same⟩, ci, C, hci, h2, ?_⟩
                rw [if_pos hsl]
                refine ⟨putS i y svs, slH_slt pne, fun f' d' hl => ?_⟩
                rw [List.lookup_cons] at hl
                split at hl
                · rename_i hb
                  have : f' = f := by simpa using hb
                  subst this
                  injection hl with hl; subst hl
                  exact ⟨q, i, y, sl, putS_get i y svs, p1.mono st2.pre st2.sub⟩
                · rename_i hb
                  obtain ⟨q', i', v', z1, z2, z3⟩ := h5 f' d' hl
                  obtain ⟨pp, hp1, hp2⟩ := lookup_keys hl
                  have hf' : f' ∈ ci.order := by rw [← hp2]; exact hfs pp hp1
                  have hne : i' ≠ i := fun e => by
                    subst e
                    have := CS.inj n ci C hci h2.2 h2.1 hsl f' hf' f hf q' q i' z1 sl
                    simp [this] at hb
                  exact ⟨q', i', v', z1, (putS_ne hne).mpr z2, z3⟩
              obtain ⟨r3, st3⟩ := r2.change (H' := slH H2 p.1 C p.2 (putS i y svs)) hp hn (fun b hb1 hb2 => slH_ne hb1 hb2) nd
              exact ⟨p.1, C, p.2, q, svs, i, rfl, h4, CS.sc n ci C hci h2.2 h2.1 hsl, sl, w2 σ A2 _ r3 (re2.mono st3) st3⟩
            · cases e3
          · cases e3
        · cases e3
      · cases e3
    · exact w2.elim
end
end Z

/-! C(a, .., k = v, ..) -/
namespace Z
open PySem PySem.Spec PyProof.Rows L2 SlX

/-- the arguments laid out as the parameters are: positional values, keyword values -/
structure Lay where
  v : {α : Type} → List α → List α → List α
/-- a made instance: its __init__ run on a new handle; ar lays self, the positional and the keyword arguments out -/
def mkO (c : Str) (n : Nat) (F : Fn) (ar : List D → List D) : Fn := fun ds μ => if (ar (.hd μ.length :: ds)).length = n then (match F (ar (.hd μ.length :: ds)) (μ ++ [some (.ins c [])]) with
  | .ok .non μ' => .ok (.hd μ.length) μ'
  | .exc c' ds' μ' => .exc c' ds' μ'
  | _ => .bad) else .bad
section
variable {X : Cx} {cls : Str → Option CI} {W : WX} {k j : Nat} {f C : Addr} {fd : FuncData} {ps ks : List Str} {F : Fn} {c : Str}
/-- a new instance is a new handle -/
theorem RelS.newIns {B : Addr → Prop} {A : Al} {H : Hp} {μ : Sto} {x dx : Addr} {ci : CI} (rel : RelS (gx X cls) B A H μ) (hx : H x = none) (hdx : H dx = none) (hne : dx ≠ x) (hc : cls c = some ci) (he : ci.exc = false) (hs : ci.slots = true) (hm : X.mg c = some (.ref C)) :
    RelS (gx X cls) B (A ++ [(x, dx)]) (upd (upd H dx (.own x)) x (.ins C dx [])) (μ ++ [some (.ins c [])]) ∧ Step B A H μ (A ++ [(x, dx)]) (upd (upd H dx (.own x)) x (.ins C dx [])) (μ ++ [some (.ins c [])]) := by
  refine rel.handle (q := (x, dx)) (n := .ins c []) hx hdx (fun b h1 h2 => by rw [upd_ne h1, upd_ne h2]) ⟨hne, ⟨.own x, (upd_ne hne).trans upd_same⟩, ci, C, hc, ⟨he, hm⟩, ?_⟩
  rw [if_pos hs]
  exact ⟨[], .inl ⟨upd_same, rfl⟩, fun f d h => by cases h⟩
/-- keyword arguments -/
abbrev ZK (X : Cx) (cls : Str → Option CI) (W : WX) (kws : List Keyword) (f : Ev (List D)) : Prop := PK X kws (tL (gx X cls) W f)
theorem k_nil : ZK X cls W [] zNil := ⟨fun pos pins s σ H Q I ⟨B, A, ρ, μ, rel, re, w⟩ => pk_nil.run pos pins s σ H Q I (w [] A H rel rfl (Step.refl _ _ _ _))⟩
theorem k_cons {nm : Option Str} {e : Expr} {kpos : Pos} {kws : List Keyword} {g : Ev D} {gs : Ev (List D)} (ha : ZE X cls W e g) (hr : ZK X cls W kws gs) : ZK X cls W (⟨nm, e, kpos⟩ :: kws) (zCons g gs) :=
  ⟨fun pos pins s σ H Q I ⟨B, A, ρ, μ, rel, re, w⟩ => (pk_cons ha hr).run pos pins s σ H Q I (tV_step rel re w fun v d A1 H1 μ1 _ r1 re1 p1 st w1 => tV_step r1 re1 w1 fun vs ds A2 H2 μ2 _ r2 re2 p2 st2 w2 => w2 (v :: vs) A2 H2 r2 (.cons (p1.mono st2.pre st2.sub) p2) (Step.refl _ _ _ _))⟩
theorem Reps.split {G : Gx} {A : Al} {F : Hp} {vs zs : List V} {ds es : List D} (h1 : Reps G A F vs ds) (h2 : Reps G A F zs es) : Reps G A F (vs ++ zs) (ds ++ es) := h1.append h2
/-- what the readings of C(..) ask: gV lays out the values, ar the data -/
theorem make_want {G : Gx} {B : Addr → Prop} {A : Al} {H : Hp} {μ : Sto} {σ : L2.St} {Q : VK} {vs zs : List V} {ds es : List D} {ci : CI} {gV : List V → List V → List V} {ar : List D → List D} {x dx : Addr}
    (har : ∀ (A : Al) (F : Hp) (v : V) (d : D), Rep (gx X cls) A F v d → Reps (gx X cls) A F vs ds → Reps (gx X cls) A F zs es → Reps (gx X cls) A F (gV (v :: vs) zs) (ar (d :: (ds ++ es))))
    (rel : RelS (gx X cls) B A H μ) (r1 : Reps (gx X cls) A (hide B H A μ) vs ds) (r2 : Reps (gx X cls) A (hide B H A μ) zs es) (hc : cls c = some ci) (he : ci.exc = false) (hs : ci.slots = true) (hm : X.mg c = some (.ref C))
    (w : Want (gx X cls) W (RD (gx X cls)) B A H μ σ (mkO c ps.length F ar (ds ++ es) μ) Q) (hx : H x = none) (hdx : H dx = none) (hne : dx ≠ x) :
    spZ (gx X cls) ps.length F (gV (.ref x :: vs) zs) (upd (upd H dx (.own x)) x (.ins C dx [])) (fun v H3 => v = .non ∧ Q (.ref x) H3) (WE W σ) := by
  obtain ⟨r3, st⟩ := rel.newIns hx hdx hne hc he hs hm
  have hA : (A ++ [(x, dx)])[μ.length]? = some (x, dx) := by rw [← rel.len]; simp
  have rr := har _ _ (.ref x) (.hd μ.length) ⟨(x, dx), hA, rfl⟩ (r1.mono st.pre st.sub) (r2.mono st.pre st.sub)
  unfold mkO at w
  split at w
  · rename_i hl
    refine ⟨by rw [rr.length, hl], B, _, _, _, r3, rr, ?_⟩
    cases e : F (ar (.hd μ.length :: (ds ++ es))) (μ ++ [some (.ins c [])]) with
    | ok d μ' =>
      rw [e] at w
      cases d with
      | non =>
        intro v A' H' r4 p4 st4
        exact ⟨p4, w (.ref x) A' H' r4 ⟨(x, dx), st4.pre _ _ hA, rfl⟩ (st.trans st4)⟩
      | _ => exact w.elim
    | exc c' ds' μ' =>
      rw [e] at w
      exact fun cl o A' H' r4 x4 st4 => w cl o A' H' r4 x4 (st.trans st4)
    | bad => rw [e] at w; exact w.elim
  · exact w.elim
end
end Z

/-! C(a, .., k = v, ..): the rule -/
namespace Z
open PySem PySem.Spec PyProof.Rows L2 SlX

def zMake (c : Str) (n : Nat) (F : Fn) (ar : List D → List D) (fs gs : Ev (List D)) : Ev D := fun ρ μ => (fs ρ μ).bind fun ds μ1 => (gs ρ μ1).bind fun es μ2 => mkO c n F ar (ds ++ es) μ2
section
variable {X : Cx} {cls : Str → Option CI} {W : WX} {k j n : Nat} {f C : Addr} {fd : FuncData} {ps ks : List Str} {F : Fn} {c x : Str} {p pos : Pos} {e : Expr} {es : List Expr} {kws : List Keyword} {fs gs : Ev (List D)} {g : List Value → List Value → List Value} {gV : List V → List V → List V} {ar : List D → List D} {ci : CI}
/-- run_makeK of the library, at the slots σ -/
theorem run_makeKS {sp : Sp} {E : XK} {pins : List (Addr × Obj)} {σ : L2.St} {H : Hp} {s : Shared} {Q : VK} {us ws : List Value} {vs zs : List V} (M : Mk X.K C f) (F : FnOk X.prog X.w X.K X.mg X.base (L2.CX X.prog X.w) k f fd ps sp) (hr : Room (k + 1) X.A) (hb : KBn X.K fd ps (n + 1) ks g gV) (hx : PassesAt (L2.CX X.prog X.w) X σ E)
    (I : Inv X pins σ H s) (r : Vals vs us) (rz : Vals zs ws) (l1 : vs.length = n) (l2 : zs.length = ks.length)
    (h : ∀ x dx, H x = none → H dx = none → dx ≠ x → sp (gV (.ref x :: vs) zs) (upd (upd H dx (.own x)) x (.ins C dx [])) (fun v H2 => v = .non ∧ Q (.ref x) H2) E) :
    wpAny (model X.prog X.w) X.A (call (.ref C) us (ks.zip ws)) (EP X pins σ Q) X.xe s := by
  have hq := h (s.heap.objs.size + 1) s.heap.objs.size (I.hok.fresh (Nat.le_succ _)) (I.hok.fresh (Nat.le_refl _)) (Nat.ne_of_lt (Nat.lt_succ_self _))
  have I2 := L2.Inv.made (C := C) I
  have r1 : Vals (V.ref (s.heap.objs.size + 1) :: vs) (Value.ref (s.heap.objs.size + 1) :: us) := .cons rfl r
  have r2 := hb.rel r1 rz
  have n1 : (Value.ref (s.heap.objs.size + 1) :: us).length = n + 1 := by
    rw [List.length_cons, ← r.length, l1]
  refine wpAny_call (make_map (f := f) I.kIn M.makes M.init (beq_iff_eq.mp M.fn) (codeAny_mono (F.run _ X.stack _ _ ⟨Value.ref (s.heap.objs.size + 1) :: us, ks.zip ws⟩ (g (Value.ref (s.heap.objs.size + 1) :: us) ws) _ _ E (hr.make C us (ks.zip ws))
    (I2.env0.make C us (ks.zip ws)) (hb.to _ (Value.ref (s.heap.objs.size + 1) :: us) ws I2.kIn n1 (rz.length.symm.trans l2)) r2 hq) fun r s' hq' => ?_))
  cases r with
  | error e => exact hx pins _ _ e s' I2 hq'
  | ok fl =>
    cases fl with
    | ret u =>
      obtain ⟨v, H', I3, rv, ev, q3⟩ := I2.after hq'
      subst ev
      exact ⟨rv, ⟨V.ref (s.heap.objs.size + 1), H', I3, rfl, q3⟩⟩
    | next => exact False.elim hq'
    | brk => exact False.elim hq'
    | cont => exact False.elim hq'
theorem e_make (z : ZX X W k) (M : Mk X.K C f) (h : FOk X.prog X.w X.K X.mg X.base cls j f fd ps F) (hg : Gl X x) (hm : X.mg x = some (.ref C)) (hc : cls x = some ci) (hx : ci.exc = false) (hsl : ci.slots = true) (hb : KBn X.K fd ps (n + 1) ks g gV)
    (har : ∀ (A : Al) (F : Hp) (vs zs : List V) (ds es : List D), ds.length = n → es.length = ks.length → Reps (gx X cls) A F vs ds → Reps (gx X cls) A F zs es → ∀ v d, Rep (gx X cls) A F v d → Reps (gx X cls) A F (gV (v :: vs) zs) (ar (d :: (ds ++ es))))
    (ha : ZA X cls W (e :: es) fs) (hkw : ZK X cls W kws gs) (hfl : ∀ ρ μ ds μ1, fs ρ μ = .ok ds μ1 → ds.length = n) (hgl : ∀ ρ μ ds μ1, gs ρ μ = .ok ds μ1 → ds.length = ks.length) (hj : j + 1 ≤ k := by decide)
    (hall : (backToKw pos (keywordEach kws X.env)).all (·.1.isSome) = true := by rfl) (hks : (backToKw pos (keywordEach kws X.env)).filterMap (·.1) = ks := by rfl) (hdb : (x == ("__debug__" : Str)) = false := by decide)
    (he : starEach (e :: es) X.env = (false, eval e X.env) :: starEach es X.env := by rfl) (hpl : ((backTo pos (starEach (e :: es) X.env)).any (·.1) || (backToKw pos (keywordEach kws X.env)).any (·.1.isNone)) = false := by rfl) :
    ZE X cls W (.Call (.Name x p) (e :: es) kws pos) (zMake x ps.length F ar fs gs) := by
  refine ⟨fun pins s σ H Q I ⟨B, A, ρ, μ, rel, re, w⟩ => ?_⟩
  refine wpAny_Call_Name_kw (ld_glob I hg hm ?_ hdb)
  refine PySem.W.callWith_KW (h₀ := X.base) I.ok.mod.kin M.kp hall (thn (ha.run pos pins s σ H (fun xs H1 => ∃ ds A1 μ1, fs ρ μ = .ok ds μ1 ∧ RelS (gx X cls) B A1 H1 μ1 ∧ RelE (gx X cls) A1 (hide B H1 A1 μ1) σ ρ ∧ Reps (gx X cls) A1 (hide B H1 A1 μ1) xs ds ∧ Want (gx X cls) W (RD (gx X cls)) B A1 H1 μ1 σ ((gs ρ μ1).bind fun es μ2 => mkO x ps.length F ar (ds ++ es) μ2) Q) I
    (tV_step rel re w fun v d A1 H1 μ1 e1 r1 re1 p1 st w1 => ⟨d, A1, μ1, e1, r1, re1, p1, w1⟩)) fun us s1 ⟨vs, H1, I1, r, ds, A1, μ1, e1, r1, re1, p1, w1⟩ => ?_) hpl he
  refine thn (hkw.run pos pins s1 σ H1 (fun zs H2 => ∃ es A2 μ2, gs ρ μ1 = .ok es μ2 ∧ RelS (gx X cls) B A2 H2 μ2 ∧ Reps (gx X cls) A2 (hide B H2 A2 μ2) vs ds ∧ Reps (gx X cls) A2 (hide B H2 A2 μ2) zs es ∧ Want (gx X cls) W (RD (gx X cls)) B A2 H2 μ2 σ (mkO x ps.length F ar (ds ++ es) μ2) Q) I1
    (tV_step r1 re1 w1 fun v d A2 H2 μ2 e2 r2 re2 p2 st2 w2 => ⟨d, A2, μ2, e2, r2, p1.mono st2.pre st2.sub, p2, w2⟩)) fun ws s2 ⟨zs, H2, I2, rz, es', A2, μ2, e2, r2, p1', p2, w2⟩ => ⟨I2.kIn, ?_⟩
  rw [hks]
  have l1 : ds.length = n := hfl _ _ _ _ e1
  have l2 : es'.length = ks.length := hgl _ _ _ _ e2
  exact run_makeKS (F := h) M (z.room.mono hj) hb (fun pins H s e s' I c => passAt z.takes σ pins H s e s' I c) I2 r rz (by rw [p1'.length, l1]) (by rw [p2.length, l2]) fun y dx hy hdx hne =>
    make_want (G := gx X cls) (fun A F v d rv r1 r2 => har A F vs zs ds es' l1 l2 r1 r2 v d rv) r2 p1' p2 hc hx hsl hm w2 hy hdx hne
end
end Z

/-! instances that are made and not changed any more -/
namespace Z
open PySem PySem.Spec PyProof.Rows L2 SlX

/-- C(..) of closed data: the instance by value -/
def mkP (cls : Str → Option CI) (c : Str) (n : Nat) (F : Fn) (ar : List D → List D) : Fn := fun ds μ => if D.cls ds then (match mkO c n F ar ds [] with
  | .ok d μ' => match frzD cls 9 d μ' with
    | some (d', _) => if d'.cl then .ok d' μ else .bad
    | none => .bad
  | .exc c' ds' _ => if D.cls ds' then .exc c' ds' μ else .bad
  | .bad => .bad) else .bad
def zMakeP (cls : Str → Option CI) (c : Str) (n : Nat) (F : Fn) (ar : List D → List D) (fs gs : Ev (List D)) : Ev D := fun ρ μ => (fs ρ μ).bind fun ds μ1 => (gs ρ μ1).bind fun es μ2 => mkP cls c n F ar (ds ++ es) μ2
section
variable {X : Cx} {cls : Str → Option CI} {W : WX} {k j n : Nat} {f C : Addr} {fd : FuncData} {ps ks : List Str} {F : Fn} {c x : Str} {p pos : Pos} {e : Expr} {es : List Expr} {kws : List Keyword} {fs gs : Ev (List D)} {g : List Value → List Value → List Value} {gV : List V → List V → List V} {ar : List D → List D} {ci : CI}
theorem e_makeP (z : ZX X W k) (M : Mk X.K C f) (h : FOk X.prog X.w X.K X.mg X.base cls j f fd ps F) (hg : Gl X x) (hm : X.mg x = some (.ref C)) (hc : cls x = some ci) (hx : ci.exc = false) (hsl : ci.slots = true) (hb : KBn X.K fd ps (n + 1) ks g gV)
    (har : ∀ (A : Al) (F : Hp) (vs zs : List V) (ds es : List D), ds.length = n → es.length = ks.length → Reps (gx X cls) A F vs ds → Reps (gx X cls) A F zs es → ∀ v d, Rep (gx X cls) A F v d → Reps (gx X cls) A F (gV (v :: vs) zs) (ar (d :: (ds ++ es))))
    (ha : ZA X cls W (e :: es) fs) (hkw : ZK X cls W kws gs) (hfl : ∀ ρ μ ds μ1, fs ρ μ = .ok ds μ1 → ds.length = n) (hgl : ∀ ρ μ ds μ1, gs ρ μ = .ok ds μ1 → ds.length = ks.length) (hj : j + 1 ≤ k := by decide)
    (hall : (backToKw pos (keywordEach kws X.env)).all (·.1.isSome) = true := by rfl) (hks : (backToKw pos (keywordEach kws X.env)).filterMap (·.1) = ks := by rfl) (hdb : (x == ("__debug__" : Str)) = false := by decide)
    (he : starEach (e :: es) X.env = (false, eval e X.env) :: starEach es X.env := by rfl) (hpl : ((backTo pos (starEach (e :: es) X.env)).any (·.1) || (backToKw pos (keywordEach kws X.env)).any (·.1.isNone)) = false := by rfl) :
    ZE X cls W (.Call (.Name x p) (e :: es) kws pos) (zMakeP cls x ps.length F ar fs gs) := by
  refine ⟨fun pins s σ H Q I ⟨B, A, ρ, μ, rel, re, w⟩ => ?_⟩
  refine wpAny_Call_Name_kw (ld_glob I hg hm ?_ hdb)
  refine PySem.W.callWith_KW (h₀ := X.base) I.ok.mod.kin M.kp hall (thn (ha.run pos pins s σ H (fun xs H1 => ∃ ds A1 μ1, fs ρ μ = .ok ds μ1 ∧ RelS (gx X cls) B A1 H1 μ1 ∧ RelE (gx X cls) A1 (hide B H1 A1 μ1) σ ρ ∧ Reps (gx X cls) A1 (hide B H1 A1 μ1) xs ds ∧ Want (gx X cls) W (RD (gx X cls)) B A1 H1 μ1 σ ((gs ρ μ1).bind fun es μ2 => mkP cls x ps.length F ar (ds ++ es) μ2) Q) I
    (tV_step rel re w fun v d A1 H1 μ1 e1 r1 re1 p1 st w1 => ⟨d, A1, μ1, e1, r1, re1, p1, w1⟩)) fun us s1 ⟨vs, H1, I1, r, ds, A1, μ1, e1, r1, re1, p1, w1⟩ => ?_) hpl he
  refine thn (hkw.run pos pins s1 σ H1 (fun zs H2 => ∃ es A2 μ2, gs ρ μ1 = .ok es μ2 ∧ RelS (gx X cls) B A2 H2 μ2 ∧ Reps (gx X cls) A2 (hide B H2 A2 μ2) vs ds ∧ Reps (gx X cls) A2 (hide B H2 A2 μ2) zs es ∧ Want (gx X cls) W (RD (gx X cls)) B A2 H2 μ2 σ (mkP cls x ps.length F ar (ds ++ es) μ2) Q) I1
    (tV_step r1 re1 w1 fun v d A2 H2 μ2 e2 r2 re2 p2 st2 w2 => ⟨d, A2, μ2, e2, r2, p1.mono st2.pre st2.sub, p2, w2⟩)) fun ws s2 ⟨zs, H2, I2, rz, es', A2, μ2, e2, r2, p1', p2, w2⟩ => ⟨I2.kIn, ?_⟩
  rw [hks]
  have l1 : ds.length = n := hfl _ _ _ _ e1
  have l2 : es'.length = ks.length := hgl _ _ _ _ e2
  unfold mkP at w2
  split at w2
  · rename_i hcl
    have pa := p1'.append p2
    have hp1 : Reps (gx X cls) [] (hide (shut B A2 μ2) H2 [] []) vs ds := by
      rw [hide_shut]
      refine Reps.any ds vs ?_ p1'
      have : ∀ (a b : List D), D.cls (a ++ b) = true → D.cls a = true := by
        intro a; induction a with
        | nil => intro b _; rfl
        | cons d a ih => intro b hb; simp only [List.cons_append, D.cls, Bool.and_eq_true] at hb ⊢; exact ⟨hb.1, ih b hb.2⟩
      exact this ds es' hcl
    have hp2 : Reps (gx X cls) [] (hide (shut B A2 μ2) H2 [] []) zs es' := by
      rw [hide_shut]
      refine Reps.any es' zs ?_ p2
      have : ∀ (a b : List D), D.cls (a ++ b) = true → D.cls b = true := by
        intro a; induction a with
        | nil => intro b hb; exact hb
        | cons d a ih => intro b hb; simp only [List.cons_append, D.cls, Bool.and_eq_true] at hb; exact ih b hb.2
      exact this ds es' hcl
    have relS := r2.shut
    -- what the making is to give: the instance, as its store has it
    have want : Want (gx X cls) W (RD (gx X cls)) (shut B A2 μ2) [] H2 [] σ (mkO x ps.length F ar (ds ++ es') []) (fun v H3 => ∃ A3 μ3 d d' μ4, RelS (gx X cls) (shut B A2 μ2) A3 H3 μ3 ∧ Step (shut B A2 μ2) [] H2 [] A3 H3 μ3 ∧ Rep (gx X cls) A3 (hide (shut B A2 μ2) H3 A3 μ3) v d ∧ frzD cls 9 d μ3 = some (d', μ4) ∧ d'.cl = true ∧ Want (gx X cls) W (RD (gx X cls)) B A2 H2 μ2 σ (.ok d' μ2) Q) := by
      cases em : mkO x ps.length F ar (ds ++ es') [] with
      | ok d μ3 =>
        rw [em] at w2
        dsimp only at w2
        cases ef : frzD cls 9 d μ3 with
        | none => rw [ef] at w2; exact w2.elim
        | some q =>
          obtain ⟨d', μ4⟩ := q
          rw [ef] at w2
          dsimp only at w2
          split at w2
          · rename_i hd
            exact fun v A3 H3 r3 p3 st3 => ⟨A3, μ3, d, d', μ4, r3, st3, p3, ef, hd, w2⟩
          · exact w2.elim
      | exc c' ds' μ3 =>
        rw [em] at w2
        dsimp only at w2
        split at w2
        · rename_i hd
          intro cl o A3 H3 r3 x3 st3
          obtain ⟨r4, st4, sb⟩ := r2.unshut st3
          exact w2 cl o A2 H3 r4 (x3.mono sb fun vs h => Reps.any ds' vs hd (h.mono (Pre.refl A3) sb)) st4
        · exact w2.elim
      | bad => rw [em] at w2; exact w2.elim
    refine thn (run_makeKS (F := h) M (z.room.mono hj) hb (fun pins H s e s' I c => passAt z.takes σ pins H s e s' I c) I2 r rz (by rw [p1'.length, l1]) (by rw [p2.length, l2]) fun y dx hy hdx hne =>
      make_want (G := gx X cls) (fun A F v d rv r1 r2 => har A F vs zs ds es' l1 l2 r1 r2 v d rv) relS hp1 hp2 hc hx hsl hm want hy hdx hne) fun u s3 ⟨v, H3, I3, rv, A3, μ3, d, d', μ4, r3, st3, p3, ef, hd, w3⟩ => ?_
    obtain ⟨H4, f4, k4⟩ := frzD_ok 9 pins σ s3 _ A3 H3 μ3 d d' μ4 I3 r3 ef
    obtain ⟨r5, st5, sb⟩ := r2.unshut (st3.trans f4.step)
    exact ⟨v, H4, f4.inv, rv, w3 v A2 H4 r5 (Rep.any d' v hd (Rep.mono (Pre.refl A3) sb d' v (k4 v p3))) st5⟩
  · exact w2.elim
end
end Z

/-! sets of texts: len(set(x)) (the library's way for at most one text, turned to any number) -/
namespace Z
open PySem PySem.Spec PyProof.Rows
def stepS (acc : List Str) (x : Str) : List Str := if acc.any (· == x) then acc else acc ++ [x]
/-- the different texts among the first i -/
def ddS (xs : List Str) (i : Nat) : List Str := (xs.take i).foldl stepS []
theorem ddS_succ (xs : List Str) {i : Nat} (h : i < xs.length) : ddS xs (i + 1) = stepS (ddS xs i) (xs.getD i Str.empty) := by
  unfold ddS
  rw [List.take_add_one, List.getElem?_eq_getElem h, Option.toList_some, List.foldl_append, List.getD_eq_getElem?_getD, List.getElem?_eq_getElem h]
  rfl
theorem ddS_any (xs : List Str) {i : Nat} (h : i < xs.length) (k : Str) : (ddS xs (i + 1)).any (· == k) = ((ddS xs i).any (· == k) || decide (k = xs.getD i Str.empty)) := by
  rw [ddS_succ xs h]
  unfold stepS
  by_cases h : (ddS xs i).any (· == xs.getD i Str.empty) = true
  · rw [if_pos h]
    by_cases e : k = xs.getD i Str.empty
    · subst e; rw [h]; simp
    · rw [decide_eq_false e, Bool.or_false]
  · rw [if_neg h, List.any_append]
    by_cases e : k = xs.getD i Str.empty
    · subst e; simp
    · have hb : (xs.getD i Str.empty == k) = false := by simpa [beq_iff_eq] using (fun h' : xs.getD i Str.empty = k => e h'.symm)
      simp only [List.any_cons, List.any_nil, hb, decide_eq_false e, Bool.or_false]
theorem ddS_len (xs : List Str) {i : Nat} (h : i < xs.length) : (ddS xs (i + 1)).length = if (ddS xs i).any (· == xs.getD i Str.empty) then (ddS xs i).length else (ddS xs i).length + 1 := by
  rw [ddS_succ xs h]
  unfold stepS
  split <;> simp
theorem ddS_le (xs : List Str) : ∀ i, (ddS xs i).length ≤ i
  | 0 => by simp [ddS]
  | i + 1 => by
    have ih := ddS_le xs i
    by_cases h : i < xs.length
    · rw [ddS_len xs h]; split <;> omega
    · have : ddS xs (i + 1) = ddS xs i := by unfold ddS; rw [List.take_of_length_le (by omega), List.take_of_length_le (by omega)]
      rw [this]; omega
theorem strs_at : ∀ {us : List Value} {xs : List Str}, StrsAre us xs → ∀ (i : Nat) (v : Value), us[i]? = some v → ∃ t, v = .str (xs.getD i Str.empty) t
  | _, _, .nil, i, v, h => by simp at h
  | _, _, .cons n t hr, 0, v, h => by simp at h; exact ⟨t, by rw [← h] <;> rfl⟩
  | _, _, .cons n t hr, i + 1, v, h => by
    simp only [List.getElem?_cons_succ] at h
    obtain ⟨t', e⟩ := strs_at hr i v h
    exact ⟨t', by rw [e] <;> rfl⟩

section
variable {prog : Program} {w : World} {A : Around} {R : Result → Shared → Prop} {I : Addr} {fp wr : List Addr} {G : Array GenState → Array GenState → Prop} {n : Nat} {P : Nat → Value → Prop} {St : Nat → Shared → Prop}
theorem loopStr (W : WalksS prog w A.in1 I fp wr G n P St) (S : Addr) (hSf : S ∉ fp) (xs : List Str) (hsz : xs.length = n) (hb : n + 1 < scanBound)
    (hval : ∀ i v, P i v → ∃ t, v = .str (xs.getD i Str.empty) t) :
    ∀ (k i : Nat) (s : Shared), n - i = k → i ≤ n → St i s →
      s.heap.SetOf (PySem.strKind prog w) S (fun k' => (ddS xs i).any (· == k')) (ddS xs i).length →
      (∀ s', Moved (S :: wr) G s s' → s'.heap.SetOf (PySem.strKind prog w) S (fun k' => (ddS xs n).any (· == k')) (ddS xs n).length → R (.ok (.ret .none)) s') →
      codeAny (model prog w) A (.builtin "set.update.loop" ⟨[.ref S, .ref I], []⟩) R s := by
  have hSw : S ∉ wr := fun h => hSf (W.sub _ h)
  have hsub : ∀ b ∈ wr, b ∈ S :: wr := fun b hb => List.mem_cons_of_mem _ hb
  intro k
  induction k with
  | zero =>
    intro i s hk hi hst hS hR
    have hin : i = n := by omega
    subst hin
    refine codeAny_builtin PyProof.Rows.F.entry_set_update_loop ?_
    rw [Around.under_plainId PyProof.Rows.F.plain_set_update_loop _]
    show wpAny _ A.in1 (pyNext (.ref I) >>= _) _ _ s
    refine wpAny_bind (W.done s _ _ hst fun s' hm => ?_)
    show wpAny _ A.in1 (ret Value.none) _ _ s'
    exact wpAny_pure (hR s' (hm.mono hsub) (by
      obtain ⟨o, es, ep, t, ho, rest⟩ := hS
      exact ⟨o, es, ep, t, hm.heap S _ hSw ho, rest⟩))
  | succ k ih =>
    intro i s hk hi hst hS hR
    have hlt : i < n := by omega
    refine codeAny_builtin PyProof.Rows.F.entry_set_update_loop ?_
    rw [Around.under_plainId PyProof.Rows.F.plain_set_update_loop _]
    show wpAny _ A.in1 (pyNext (.ref I) >>= _) _ _ s
    refine wpAny_bind (W.item i s _ _ hlt hst fun v s' hP hst' hm => ?_)
    obtain ⟨t, rfl⟩ := hval i v hP
    have hS' : s'.heap.SetOf (PySem.strKind prog w) S (fun k' => (ddS xs i).any (· == k')) (ddS xs i).length := by
      obtain ⟨o, es, ep, tb, ho, rest⟩ := hS
      exact ⟨o, es, ep, tb, hm.heap S _ hSw ho, rest⟩
    show wpAny _ A.in1 (holding [Value.str (xs.getD i Str.empty) t] (setAdd S (.str (xs.getD i Str.empty) t)) >>= _) _ _ s'
    refine wpAny_bind (wpAny_holding ?_)
    unfold setAdd
    refine wpAny_holding ?_
    refine wpAny_bind ((PySem.strKind prog w).pyHash (k := xs.getD i Str.empty) (strKind_is _ _ _ _) ?_)
    refine wpAny_setAddHashed_of (knd := PySem.strKind prog w) (s := { s' with toks := s'.toks + 1 }) (strKind_is _ _ _ _) rfl hS' (by have := ddS_le xs i; omega) fun h' hsb hS2 => ?_
    have hSi : h'.SetOf (PySem.strKind prog w) S (fun k' => (ddS xs (i + 1)).any (· == k')) (ddS xs (i + 1)).length := by
      exact SetOf_congr hS2 (fun k' => (ddS_any xs (by omega) k').symm) (ddS_len xs (by omega)).symm
    refine wpAny_pure ⟨plainId_quiet PyProof.Rows.F.plain_set_update_loop _, ih (i + 1) _ (by omega) hlt (W.frame _ s' _ _ hst' (Nat.le_succ _) fun b hb o e => ?_) hSi fun s'' hm'' hS'' => ?_⟩
    · rw [hsb.2 b (fun h : b = S => hSf (by rw [← h]; exact hb))]; exact e
    · refine hR s'' (Moved.trans W.gtrans ((hm.mono hsub).then_heap (Nat.le_succ _) fun b o hb e => ?_) hm'') hS''
      rw [hsb.2 b (fun h : b = S => hb (by rw [h]; exact List.mem_cons_self))]; exact e
end

section
variable {prog : Program} {w : World} {A : Around} {E : Value → Shared → Prop} {s : Shared}
set_option maxHeartbeats 3200000 in
theorem call_set_listS {l : Addr} {items : Array Value} {xs : List Str} {Q : Value → Shared → Prop}
    (hh : A.handled = none) (hl : s.heap.IsList l items) (hi : PyProof.Rows.StrsAre items.toList xs) (hb : items.size + 1 < scanBound)
    (h : ∀ (h' : Heap) (tk : Nat), h'.SetOf (PySem.strKind prog w) s.heap.objs.size (fun k' => (ddS xs items.size).any (· == k')) (ddS xs items.size).length →
      (∀ b o, b < s.heap.objs.size → s.heap.get? b = some o → h'.get? b = some o) → Q (.ref s.heap.objs.size) { s with heap := h', toks := tk }) :
    wpAny (model prog w) A (call (.type "set") [.ref l]) Q E s := by
  obtain ⟨c, tl, hmro⟩ := PySem.F.called_set.mro
  have hmade := PySem.F.called_set.made
  have hsub := PySem.F.called_set.sub
  refine wpAny_call (codeAny_of_tree ?_)
  show wpAny _ _ (callAny (.type "set") _) _ _ _
  refine wpAny_pure ⟨Code.quiet_builtin _ (by decide +kernel), codeAny_builtin PySem.F.entry_type_call ?_⟩
  rw [Around.under_plain (weight_type_call_type "set" [.ref l] []) rfl]
  have h1 := PySem.F.called_set.notType
  have h2 := PySem.F.called_set.canCreate
  have hct := PySem.F.typeCall_set_1 (.ref l)
  repeat (any_goals (first | assumption | wp_step))

  refine codeAny_mono (code_set_new_1 (.ref l) (E := E) (Q₁ := fun obj s₁ => ∃ led : Bool, obj = .ref s.heap.objs.size ∧ s₁ = { s with heap := s.heap.push { cls := .type "set", dict := none, data := .set #[] 0 (.fresh 0 0 led) } }) fun led => ⟨led, rfl, rfl⟩) fun r s₁ hr => ?_
  cases r with
  | error e => exact hr
  | ok fl =>
    cases fl with
    | ret obj =>
      obtain ⟨led, rfl, rfl⟩ := hr
      have hS : (s.heap.push { cls := .type "set", dict := none, data := .set #[] 0 (.fresh 0 0 led) }).get? s.heap.objs.size = some { cls := .type "set", dict := none, data := .set #[] 0 (.fresh 0 0 led) } := Heap.get?_push_size _ rfl
      have hT : Shared.TypeIs { s with heap := s.heap.push { cls := .type "set", dict := none, data := .set #[] 0 (.fresh 0 0 led) } } (.ref s.heap.objs.size) "set" := ⟨_, hS, rfl⟩
      have hli := PySem.F.called_set.init.lookup
      have hbi := PySem.F.called_set.init.bind (.ref s.heap.objs.size)
      repeat (any_goals (first | assumption | wp_step))

      refine codeAny_mono (codeAny_call_builtin (R := wants (fun r s₂ => r = .none ∧ ∃ h' tk, s₂ = { s with heap := h', toks := tk } ∧
          h'.SetOf (PySem.strKind prog w) s.heap.objs.size (fun k' => (ddS xs items.size).any (· == k')) (ddS xs items.size).length ∧
          (∀ b o, b < s.heap.objs.size → s.heap.get? b = some o → h'.get? b = some o)) E) PySem.F.called_set.init.plain PySem.F.entry_set_init (check_set_init_1 hT ?_)) fun r₂ s₂ hr₂ => ?_
      · obtain ⟨ol, hol, hcl, nl, hdl⟩ := hl
        obtain ⟨ocls, odict, odata, oslots⟩ := ol
        simp only at hcl hdl
        subst hcl; subst hdl
        have hol' : (s.heap.push { cls := .type "set", dict := none, data := .set #[] 0 (.fresh 0 0 led) }).get? l = some { cls := .type "list", dict := odict, data := .seq items nl, slots := oslots } := Heap.get?_push_of_some _ hol
        have hsls := PySem.F.sub_list_set
        have hslf := PySem.F.sub_list_frozenset
        have hne : (Value.type "list" == Value.type "dict") = false := by decide
        have hl1 : (s.heap.push { cls := .type "set", dict := none, data := .set #[] 0 (.fresh 0 0 led) }).IsList l items := ⟨_, hol', rfl, nl, rfl⟩
        unfold Builtin.«set.__init__» noKeywords Builtin.Frozenset.updateFrom
        generalize hPI : pyIter = PI
        wp_walk
        subst hPI

        refine wpAny_pyIter_list hl1 ?_
        refine wpAny_bind (wpAny_runValue ?_)
        have hlS : l < s.heap.objs.size := Heap.lt_size hol
        have hh3 : A.in1.in1.in1.handled = none := by simp [hh]
        have hneI : l ≠ (s.heap.push { cls := .type "set", dict := none, data := .set #[] 0 (.fresh 0 0 led) }).objs.size := by
          rw [Heap.size_push]; exact Nat.ne_of_lt (Nat.lt_succ_of_lt hlS)
        have hSf : s.heap.objs.size ∉ [(s.heap.push { cls := .type "set", dict := none, data := .set #[] 0 (.fresh 0 0 led) }).objs.size, l] := by
          rw [Heap.size_push]; simp only [List.mem_cons, List.mem_singleton, List.not_mem_nil, or_false, not_or]
          exact ⟨Nat.ne_of_lt (Nat.lt_succ_self _), Nat.ne_of_gt hlS⟩
        have hsz : xs.length = items.size := by rw [← StrsAre.len_eq hi, Array.length_toList]
        have hval : ∀ (i : Nat) (v : Value), items[i]? = some v → ∃ t, v = .str (xs.getD i Str.empty) t := fun i v hv => strs_at hi i v (by rw [Array.getElem?_toList]; exact hv)
        refine loopStr ((Walks.list hh3 _ l hneI items).toS) s.heap.objs.size
          hSf xs hsz hb hval (items.size - 0) 0 _ (by omega) (Nat.zero_le _)
          ⟨⟨_, Heap.get?_push_size _ rfl, rfl, rfl⟩, (hl1.push _)⟩ ?hS0 ?hR
        case hS0 =>
          have hget : ((s.heap.push { cls := .type "set", dict := none, data := .set #[] 0 (.fresh 0 0 led) }).push { cls := .type "list_iterator", data := .fields #[.ref l, .int 0 0] }).get? s.heap.objs.size
              = some { cls := .type "set", dict := none, data := .set #[] 0 (.fresh 0 0 led) } := Heap.get?_push_of_some _ hS
          exact PyProof.Rows.SetOf_congr ((PyProof.Rows.setObjOf_fresh (knd := PySem.strKind prog w) led).setOf hget (by unfold scanBound; omega)) (fun _ => rfl) rfl
        case hR =>
          intro s' hm hS'
          obtain ⟨h', g', d', tk', os'⟩ := s'
          have eg : g' = s.gens := hm.gens
          have ed : d' = s.drawn := hm.drawn
          have eo : os' = s.os := hm.os
          subst eg; subst ed; subst eo
          show wpAny _ _ _ _ _ _
          refine wpAny_pure ?_
          show wpAny _ _ (ret Value.none) _ _ _
          refine wpAny_pure ⟨rfl, h', tk', rfl, hS', fun b o hb e => ?_⟩
          have hb1 : b ≠ s.heap.objs.size := Nat.ne_of_lt hb
          have hb2 : b ≠ (s.heap.push { cls := .type "set", dict := none, data := .set #[] 0 (.fresh 0 0 led) }).objs.size := by
            rw [Heap.size_push]; exact Nat.ne_of_lt (Nat.lt_succ_of_lt hb)
          exact hm.heap b o (by simp only [List.mem_cons, List.mem_singleton, List.not_mem_nil, or_false, not_or]; exact ⟨hb1, hb2⟩) (Heap.get?_push_of_some _ (Heap.get?_push_of_some _ e))

      · cases r₂ with
        | error e => exact hr₂
        | ok fl₂ =>
          cases fl₂ with
          | ret r =>
            obtain ⟨rfl, h', tk, rfl, hS', hk'⟩ := hr₂
            repeat (any_goals (first | assumption | wp_step))
            exact h _ _ hS' hk'
          | _ => exact hr₂.elim
    | _ => exact hr.elim

set_option maxHeartbeats 3200000 in
theorem call_set_tupleS {l : Addr} {items : Array Value} {xs : List Str} {Q : Value → Shared → Prop}
    (hh : A.handled = none) (hl : s.heap.IsTuple l items) (hi : PyProof.Rows.StrsAre items.toList xs) (hb : items.size + 1 < scanBound)
    (h : ∀ (h' : Heap) (tk : Nat), h'.SetOf (PySem.strKind prog w) s.heap.objs.size (fun k' => (ddS xs items.size).any (· == k')) (ddS xs items.size).length →
      (∀ b o, b < s.heap.objs.size → s.heap.get? b = some o → h'.get? b = some o) → Q (.ref s.heap.objs.size) { s with heap := h', toks := tk }) :
    wpAny (model prog w) A (call (.type "set") [.ref l]) Q E s := by
  obtain ⟨c, tl, hmro⟩ := PySem.F.called_set.mro
  have hmade := PySem.F.called_set.made
  have hsub := PySem.F.called_set.sub
  refine wpAny_call (codeAny_of_tree ?_)
  show wpAny _ _ (callAny (.type "set") _) _ _ _
  refine wpAny_pure ⟨Code.quiet_builtin _ (by decide +kernel), codeAny_builtin PySem.F.entry_type_call ?_⟩
  rw [Around.under_plain (weight_type_call_type "set" [.ref l] []) rfl]
  have h1 := PySem.F.called_set.notType
  have h2 := PySem.F.called_set.canCreate
  have hct := PySem.F.typeCall_set_1 (.ref l)
  repeat (any_goals (first | assumption | wp_step))

  refine codeAny_mono (code_set_new_1 (.ref l) (E := E) (Q₁ := fun obj s₁ => ∃ led : Bool, obj = .ref s.heap.objs.size ∧ s₁ = { s with heap := s.heap.push { cls := .type "set", dict := none, data := .set #[] 0 (.fresh 0 0 led) } }) fun led => ⟨led, rfl, rfl⟩) fun r s₁ hr => ?_
  cases r with
  | error e => exact hr
  | ok fl =>
    cases fl with
    | ret obj =>
      obtain ⟨led, rfl, rfl⟩ := hr
      have hS : (s.heap.push { cls := .type "set", dict := none, data := .set #[] 0 (.fresh 0 0 led) }).get? s.heap.objs.size = some { cls := .type "set", dict := none, data := .set #[] 0 (.fresh 0 0 led) } := Heap.get?_push_size _ rfl
      have hT : Shared.TypeIs { s with heap := s.heap.push { cls := .type "set", dict := none, data := .set #[] 0 (.fresh 0 0 led) } } (.ref s.heap.objs.size) "set" := ⟨_, hS, rfl⟩
      have hli := PySem.F.called_set.init.lookup
      have hbi := PySem.F.called_set.init.bind (.ref s.heap.objs.size)
      repeat (any_goals (first | assumption | wp_step))

      refine codeAny_mono (codeAny_call_builtin (R := wants (fun r s₂ => r = .none ∧ ∃ h' tk, s₂ = { s with heap := h', toks := tk } ∧
          h'.SetOf (PySem.strKind prog w) s.heap.objs.size (fun k' => (ddS xs items.size).any (· == k')) (ddS xs items.size).length ∧
          (∀ b o, b < s.heap.objs.size → s.heap.get? b = some o → h'.get? b = some o)) E) PySem.F.called_set.init.plain PySem.F.entry_set_init (check_set_init_1 hT ?_)) fun r₂ s₂ hr₂ => ?_
      · obtain ⟨ol, hol, hcl, nl, hdl⟩ := hl
        obtain ⟨ocls, odict, odata, oslots⟩ := ol
        simp only at hcl hdl
        subst hcl; subst hdl
        have hol' : (s.heap.push { cls := .type "set", dict := none, data := .set #[] 0 (.fresh 0 0 led) }).get? l = some { cls := .type "tuple", dict := odict, data := .seq items nl, slots := oslots } := Heap.get?_push_of_some _ hol
        have hsls := PySem.F.sub_tuple_set
        have hslf := PySem.F.sub_tuple_frozenset
        have hne : (Value.type "tuple" == Value.type "dict") = false := by decide
        have hl1 : (s.heap.push { cls := .type "set", dict := none, data := .set #[] 0 (.fresh 0 0 led) }).IsTuple l items := ⟨_, hol', rfl, nl, rfl⟩
        unfold Builtin.«set.__init__» noKeywords Builtin.Frozenset.updateFrom
        generalize hPI : pyIter = PI
        wp_walk
        subst hPI

        refine wpAny_pyIter_tuple hl1 ?_
        refine wpAny_bind (wpAny_runValue ?_)
        have hlS : l < s.heap.objs.size := Heap.lt_size hol
        have hh3 : A.in1.in1.in1.handled = none := by simp [hh]
        have hneI : l ≠ (s.heap.push { cls := .type "set", dict := none, data := .set #[] 0 (.fresh 0 0 led) }).objs.size := by
          rw [Heap.size_push]; exact Nat.ne_of_lt (Nat.lt_succ_of_lt hlS)
        have hSf : s.heap.objs.size ∉ [(s.heap.push { cls := .type "set", dict := none, data := .set #[] 0 (.fresh 0 0 led) }).objs.size, l] := by
          rw [Heap.size_push]; simp only [List.mem_cons, List.mem_singleton, List.not_mem_nil, or_false, not_or]
          exact ⟨Nat.ne_of_lt (Nat.lt_succ_self _), Nat.ne_of_gt hlS⟩
        have hsz : xs.length = items.size := by rw [← StrsAre.len_eq hi, Array.length_toList]
        have hval : ∀ (i : Nat) (v : Value), items[i]? = some v → ∃ t, v = .str (xs.getD i Str.empty) t := fun i v hv => strs_at hi i v (by rw [Array.getElem?_toList]; exact hv)
        refine loopStr ((Walks.tuple hh3 _ l hneI items).toS) s.heap.objs.size
          hSf xs hsz hb hval (items.size - 0) 0 _ (by omega) (Nat.zero_le _)
          ⟨⟨_, Heap.get?_push_size _ rfl, rfl, rfl⟩, (hl1.push _)⟩ ?hS0 ?hR
        case hS0 =>
          have hget : ((s.heap.push { cls := .type "set", dict := none, data := .set #[] 0 (.fresh 0 0 led) }).push { cls := .type "tuple_iterator", data := .fields #[.ref l, .int 0 0] }).get? s.heap.objs.size
              = some { cls := .type "set", dict := none, data := .set #[] 0 (.fresh 0 0 led) } := Heap.get?_push_of_some _ hS
          exact PyProof.Rows.SetOf_congr ((PyProof.Rows.setObjOf_fresh (knd := PySem.strKind prog w) led).setOf hget (by unfold scanBound; omega)) (fun _ => rfl) rfl
        case hR =>
          intro s' hm hS'
          obtain ⟨h', g', d', tk', os'⟩ := s'
          have eg : g' = s.gens := hm.gens
          have ed : d' = s.drawn := hm.drawn
          have eo : os' = s.os := hm.os
          subst eg; subst ed; subst eo
          show wpAny _ _ _ _ _ _
          refine wpAny_pure ?_
          show wpAny _ _ (ret Value.none) _ _ _
          refine wpAny_pure ⟨rfl, h', tk', rfl, hS', fun b o hb e => ?_⟩
          have hb1 : b ≠ s.heap.objs.size := Nat.ne_of_lt hb
          have hb2 : b ≠ (s.heap.push { cls := .type "set", dict := none, data := .set #[] 0 (.fresh 0 0 led) }).objs.size := by
            rw [Heap.size_push]; exact Nat.ne_of_lt (Nat.lt_succ_of_lt hb)
          exact hm.heap b o (by simp only [List.mem_cons, List.mem_singleton, List.not_mem_nil, or_false, not_or]; exact ⟨hb1, hb2⟩) (Heap.get?_push_of_some _ (Heap.get?_push_of_some _ e))

      · cases r₂ with
        | error e => exact hr₂
        | ok fl₂ =>
          cases fl₂ with
          | ret r =>
            obtain ⟨rfl, h', tk, rfl, hS', hk'⟩ := hr₂
            repeat (any_goals (first | assumption | wp_step))
            exact h _ _ hS' hk'
          | _ => exact hr₂.elim
    | _ => exact hr.elim

end
end Z

/-! len(set(x)) -/
namespace Z
open PySem PySem.Spec PyProof.Rows L2 SlX
def lenSetO (d : D) (μ : Sto) : Option Nat := match (match d with | .tup ds => some ds | d => asL μ d) with
  | some ds => match D.strs ds with
    | some xs => if xs.length < 1000 then some (ddS xs xs.length).length else none
    | none => none
  | none => none
section
variable {X : Cx} {cls : Str → Option CI} {W : WX} {k : Nat} {a : Expr} {f : Ev D} {p p2 q pos : Pos}
theorem e_lenSet (z : ZX X W k) (hg : Gl X "len") (hm : X.mg "len" = none) (hg2 : Gl X "set") (hm2 : X.mg "set" = none) (ha : ZE X cls W a f)
    (na : starEach [a] X.env = (false, eval a X.env) :: starEach [] X.env := by rfl) : ZE X cls W (.Call (.Name "len" p) [.Call (.Name "set" p2) [a] [] q] [] pos) (zUn (fun d μ => okO ((lenSetO d μ).map fun n : Nat => D.int (n : Int)) μ) f) := by
  refine ⟨fun pins s σ H Q I ⟨B, A, ρ, μ, rel, re, w⟩ => ?_⟩
  refine Call_ (ld_blt I hg hm boot_len ?_)
  refine PyProof.Rows.callWith_builtin1 (PyProof.Rows.args_cons ?_ rfl) rfl rfl
  refine Call_ (ld_blt I hg2 hm2 boot_set ?_)
  refine PyProof.Rows.callWith_type1 (PyProof.Rows.args_cons (ev1 ha I rel re w fun v s1 x d A1 H1 μ1 I1 rx r1 re1 p1 st1 w1 => PyProof.Rows.args_nil ?_) na) na rfl
  obtain ⟨n, en, q1⟩ := okOmap w1 r1
  have fin : ∀ (xs : List Str) (its : List Value), xs.length < 1000 → Vals (xs.map V.str) its → n = (ddS xs xs.length).length → ∀ (h' : Heap) (tk : Nat), h'.SetOf (PySem.strKind X.prog X.w) s1.heap.objs.size (fun k' => (ddS xs its.toArray.size).any (· == k')) (ddS xs its.toArray.size).length →
      (∀ b o, b < s1.heap.objs.size → s1.heap.get? b = some o → h'.get? b = some o) →
      wpAny (model X.prog X.w) X.A (spliced (backTo pos (starEach [] X.env))) (fun vs s₂ => wpAny (model X.prog X.w) X.A (call (.builtin "len") (Value.ref s1.heap.objs.size :: vs)) (EP X pins σ Q) X.xe s₂) X.xe { s1 with heap := h', toks := tk } := fun xs its hlt r en h' tk hS hk => by
    refine PyProof.Rows.args_nil ?_
    have hl : its.toArray.size = xs.length := by rw [List.size_toArray, ← r.length, List.length_map]
    rw [hl] at hS
    have hle := ddS_le xs xs.length
    obtain ⟨o, es, ep, t, ho, hex, hd, _, _, _, hf, hn⟩ := hS
    have I2 : Inv X pins σ H1 { s1 with heap := h', toks := tk } := I1.kept fun b o e => hk b o (Heap.lt_size e) e
    refine call_len_set ho hex hd hf (by rw [hn] <;> omega) ⟨.int (ddS xs xs.length).length, H1, I2.tok _, ⟨_, by rw [hn]⟩, q1 _ (by rw [en]; rfl)⟩
  unfold lenSetO at en
  split at en
  · rename_i ds eds
    split at en
    · rename_i xs exs
      split at en
      · rename_i hlt
        have en := (Option.some.inj en).symm
        cases d with
        | tup ds' =>
          injection eds with eds; subst eds
          obtain ⟨l, vs, rfl, h1, h2⟩ := p1
          cases rx
          rw [strs_reps exs h2] at h1
          obtain ⟨its, r, pl, hz⟩ := I1.tuple (hide_sub.sqt h1)
          have hl : its.toArray.size = xs.length := by rw [List.size_toArray, ← r.length, List.length_map]
          exact call_set_tupleS (I1.ok.hd z.calm) pl (by simpa using strsAre_of r) (by rw [hl]; unfold scanBound; omega) fun h' tk hS hk => fin xs its hlt r en h' tk hS hk
        | lst ds' =>
          obtain ⟨l, vs, rfl, h1, h2⟩ := asL_ok r1 p1 eds
          cases rx
          rw [strs_reps exs h2] at h1
          obtain ⟨its, r, pl, hz⟩ := I1.list h1
          have hl : its.toArray.size = xs.length := by rw [List.size_toArray, ← r.length, List.length_map]
          exact call_set_listS (I1.ok.hd z.calm) pl.isList (by simpa using strsAre_of r) (by rw [hl]; unfold scanBound; omega) fun h' tk hS hk => fin xs its hlt r en h' tk hS hk
        | hd i =>
          obtain ⟨l, vs, rfl, h1, h2⟩ := asL_ok r1 p1 eds
          cases rx
          rw [strs_reps exs h2] at h1
          obtain ⟨its, r, pl, hz⟩ := I1.list h1
          have hl : its.toArray.size = xs.length := by rw [List.size_toArray, ← r.length, List.length_map]
          exact call_set_listS (I1.ok.hd z.calm) pl.isList (by simpa using strsAre_of r) (by rw [hl]; unfold scanBound; omega) fun h' tk hS hk => fin xs its hlt r en h' tk hS hk
        | _ => cases eds
      · cases en
    · cases en
  · cases en
end
end Z

/-! what the walks' printer needs besides -/
namespace Z
open PySem PySem.Spec PyProof.Rows L2 SlX
section
variable {X : Cx} {cls : Str → Option CI} {W : WX} {x : Str} {pos : Pos}
theorem e_gint {i : Int} (hg : Gl X x) (hm : ∃ tk, X.mg x = some (.int i tk)) (hd : (x == ("__debug__" : Str)) = false := by decide) : ZE X cls W (.Name x pos) (zC (.int i)) := by
  obtain ⟨tk, hm⟩ := hm
  exact e_const (pe_glob (v := .int i) hg hm ⟨tk, rfl⟩ hd) fun _ _ => rfl
theorem e_gstr {i : Str} (hg : Gl X x) (hm : ∃ tk, X.mg x = some (.str i tk)) (hd : (x == ("__debug__" : Str)) = false := by decide) : ZE X cls W (.Name x pos) (zC (.str i)) := by
  obtain ⟨tk, hm⟩ := hm
  exact e_const (pe_glob (v := .str i) hg hm ⟨tk, rfl⟩ hd) fun _ _ => rfl
end
def rawF (F : Fn) : Fn := F
theorem FOk.raw {P : Program} {w : World} {K : PySem.W.Frag} {mg : Str → Option Value} {base : Heap} {cls : Str → Option CI} {k : Nat} {f : Addr} {fd : FuncData} {ps : List Str} {F : Fn} (h : FOk P w K mg base cls k f fd ps F) : FOk P w K mg base cls k f fd ps (rawF F) := h
def lenSetB (d : D) (μ : Sto) : Res D := okO ((lenSetO d μ).map fun n : Nat => D.int (n : Int)) μ
theorem zl_nil {ρ : Env'} {μ μ1 : Sto} {ds : List D} (h : zNil ρ μ = .ok ds μ1) : ds.length = 0 := by
  cases h; rfl
theorem zl_cons {f : Ev D} {g : Ev (List D)} {n : Nat} (h : ∀ {ρ μ ds μ1}, g ρ μ = .ok ds μ1 → ds.length = n) {ρ : Env'} {μ μ1 : Sto} {ds : List D} (e : zCons f g ρ μ = .ok ds μ1) : ds.length = n + 1 := by
  unfold zCons at e
  cases q : f ρ μ with
  | ok a μ2 =>
    rw [q] at e
    simp only [Res.bind] at e
    cases q2 : g ρ μ2 with
    | ok r μ3 =>
      rw [q2] at e
      simp only [Res.bind] at e
      cases e
      rw [List.length_cons, h q2]
    | exc c ds' μ3 => rw [q2] at e; cases e
    | bad => rw [q2] at e; cases e
  | exc c ds' μ3 => rw [q] at e; cases e
  | bad => rw [q] at e; cases e
end Z

/-! the head's facts, read by a Hook of Bool checks -/
namespace Z
open PySem PySem.Spec PyProof.Rows L2 SlX
abbrev ga := He.ga
abbrev ma := He.ma
abbrev Frag := PySem.W.Frag
/-! ### the Hook -/
def obsZ (fa : List (Frag → Bool)) (fn : List He.DefD) (K : Frag) : Bool × List He.FnW := ((fa.all fun f => f K) && fn.all fun d => d.ok K, fn.map fun d => He.fnW K d.at_)
def valZ (fn : List He.DefD) : Bool × List He.FnW := (true, fn.map He.DefD.val)
def SaysZ (fa : List (Frag → Bool)) (fn : List He.DefD) (K : Frag) : Prop := obsZ fa fn K = valZ fn
def obsZG (n : Nat) (fa : List (Frag → Bool)) (fn : List He.DefD) (g : Addr → Option Obj) : Bool × List He.FnW := obsZ fa fn (He.frG g (He.asD g n))
def hookZ (n : Nat) (fa : List (Frag → Bool)) (fn : List He.DefD) : PySem.W.Hook where
  α := Bool × List He.FnW
  obs := fun s => obsZG n fa fn s.heap.get?
  val := fun _ => valZ fn
  says := fun _ h => ∃ K : Frag, K.In h ∧ SaysZ fa fn K
  of := fun _ _ e => ⟨_, He.frG_in, e⟩
  keeps := fun _ _ _ ⟨K, hK, c⟩ k => ⟨K, PySem.W.Frag.In.keeps hK k, c⟩
theorem obsZG_eq {n : Nat} {fa : List (Frag → Bool)} {fn : List He.DefD} {g : Addr → Option Obj} {s : Shared} (h : ∀ a, g a = s.heap.get? a) : obsZG n fa fn g = (hookZ n fa fn).obs s := by
  have e : g = s.heap.get? := funext h
  rw [e] <;> rfl
section
variable {fa : List (Frag → Bool)} {fn : List He.DefD} {K : Frag}
theorem SaysZ.fact (c : SaysZ fa fn K) (i : Nat) {f : Frag → Bool} (h : fa[i]? = some f := by rfl) : f K = true := by
  have c1 := (He.ba (show ((fa.all fun f => f K) && fn.all fun d => d.ok K) = true from congrArg (fun z : Bool × List He.FnW => z.1) c)).1
  exact List.all_eq_true.mp c1 f (List.mem_of_getElem? h)
theorem SaysZ.def_ (c : SaysZ fa fn K) (i : Nat) {d : He.DefD} (h : fn[i]? = some d := by rfl) : ∃ fd, FunD K d.name d.qual d.params d.body d.scope (d.dvs K) (d.kws K) (He.fAd K d.at_) fd := by
  have c2 := (He.ba (show ((fa.all fun f => f K) && fn.all fun d => d.ok K) = true from congrArg (fun z : Bool × List He.FnW => z.1) c)).2
  have e : fn.map (fun d => He.fnW K d.at_) = fn.map He.DefD.val := congrArg (fun z : Bool × List He.FnW => z.2) c
  have e2 : (fn.map fun d => He.fnW K d.at_)[i]? = (fn.map He.DefD.val)[i]? := by rw [e]
  rw [List.getElem?_map, List.getElem?_map, h] at e2
  exact He.DefD.funD (Option.some.inj e2) (List.all_eq_true.mp c2 d (List.mem_of_getElem? h))
end
/-! ### single facts -/
section
variable {K : Frag} {h : Heap} {mg : Str → Option Value}
def gloB (x : Str) (K : Frag) : Bool := He.eqO (PySem.W.nsIn K mainGlobals x) (some (some (.ref (ga K x))))
def freeB (x : Str) (K : Frag) : Bool := He.eqO (PySem.W.nsIn K mainGlobals x) (some none)
def intB' (x : Str) (i : Int) (K : Frag) : Bool := (He.Fa.int x i).ok K
def strB' (x z : Str) (K : Frag) : Bool := (He.Fa.str x z).ok K
theorem glo_of (X : K.In h) (G : h.Ns mainGlobals mg) {x : Str} (c : gloB x K = true) : mg x = some (.ref (ga K x)) := PySem.W.mg_of X G (He.eqO_ok c)
theorem free_of (X : K.In h) (G : h.Ns mainGlobals mg) {x : Str} (c : freeB x K = true) : mg x = none := PySem.W.mg_none_of X G (He.eqO_ok c)
theorem int_of (X : K.In h) (G : h.Ns mainGlobals mg) {x : Str} {i : Int} (c : intB' x i K = true) : ∃ t, mg x = some (.int i t) := He.int_ok X G c
theorem str_of (X : K.In h) (G : h.Ns mainGlobals mg) {x z : Str} (c : strB' x z K = true) : ∃ t, mg x = some (.str z t) := He.str_ok X G c
def mkB (x : Str) (K : Frag) : Bool := (He.Fa.mkr x).ok K
theorem mk_of {x : Str} (c : mkB x K = true) : Mk K (ga K x) (ma K (ga K x) "__init__") := He.mkr_ok c
def clsB (K : Frag) (C : Addr) : Bool := match K.lookup C with
  | some ⟨.type "type", _, .cls cd, sl⟩ => (match cd.mro, sl.toList with
    | .ref C' :: bm, [_, _, _, _, some (.builtin n), _] => (decide (C' = C) && decide (n = "ValueError.__new__")) && (!cd.hasDel && (cd.hasDict && PySem.HandSPX.refsVE bm))
    | _, _ => false)
  | _ => false
def oexB (x : Str) (K : Frag) : Bool := clsB K (ga K x) && (He.eqO (PySem.W.findIn K (.ref (ga K x)) "__setattr__") (some (some (.builtin "object.__setattr__"))) && (decide (PySem.W.subIn K (.ref (ga K x)) (.type "BaseException") = some true) &&
  (decide (PySem.W.typeIn K (.ref (ga K x)) = some (.type "type")) && PySem.W.keepIn K (.ref (ga K x)))))
theorem clsB_ok {C : Addr} (c : clsB K C = true) : ∃ nm q N bs bm sn sub ab col dd k0 k1 k2 k3 k5, K.lookup C = some (excClassObj nm q C N bs bm true sn sub ab col dd k0 k1 k2 k3 k5 "ValueError.__new__") ∧ PySem.HandSPX.refsVE bm = true := by
  unfold clsB at c
  split at c
  · rename_i cd0 dd cd sl e
    split at c
    · rename_i C' bm k0 k1 k2 k3 n k5 e1 e2
      obtain ⟨c1, c2⟩ := He.ba c
      obtain ⟨c3, c4⟩ := He.ba c1
      obtain ⟨c5, c6⟩ := He.ba c2
      obtain ⟨c7, c8⟩ := He.ba c6
      have c3 := of_decide_eq_true c3
      have c4 := of_decide_eq_true c4
      obtain ⟨nm, bs, mro, ns, q, hd, sn, sub, ab, col, hdel⟩ := cd
      simp only at e1 c5 c7
      subst e1 c3 c4
      have : sl = #[k0, k1, k2, k3, some (.builtin "ValueError.__new__"), k5] := by
        apply Array.toList_inj.mp; rw [e2]
      subst this
      have h5 : hdel = false := by cases hdel <;> simp_all
      subst h5 c7
      exact ⟨nm, q, ns, bs, bm, sn, sub, ab, col, dd, k0, k1, k2, k3, k5, e, c8⟩
    · cases c
  · cases c
theorem oex_of {x : Str} (c : oexB x K = true) : OexC K (ga K x) := by
  obtain ⟨c1, c⟩ := He.ba c
  obtain ⟨c2, c⟩ := He.ba c
  obtain ⟨c3, c⟩ := He.ba c
  obtain ⟨c4, c5⟩ := He.ba c
  exact ⟨clsB_ok c1, He.eqO_ok c2, of_decide_eq_true c3, of_decide_eq_true c4, c5⟩
def xckB (x : Str) (K : Frag) : Bool := oexB x K && (He.eqO (PySem.W.findIn K (.ref (ga K x)) "__init__") (some (some (.ref (ma K (ga K x) "__init__")))) && decide (PySem.W.typeIn K (.ref (ma K (ga K x) "__init__")) = some (.type "function")))
theorem xck_of {x : Str} (c : xckB x K = true) : XcK K (ga K x) (ma K (ga K x) "__init__") := by
  obtain ⟨c1, c⟩ := He.ba c
  obtain ⟨c2, c3⟩ := He.ba c
  exact ⟨oex_of c1, He.eqO_ok c2, of_decide_eq_true c3⟩
def xfB' (x : Str) (K : Frag) : Bool := xfB K (ga K x)
theorem xf_of {x : Str} (c : xfB' x K = true) : XfC K (ga K x) := xfB_ok c
def xcB (x : Str) (K : Frag) : Bool := He.eqO (PySem.W.findIn K (.ref (ga K x)) "__class__") (some (some (.builtin "object.__class__"))) && (He.eqO (PySem.W.specialIn K (.builtin "object.__class__") "__get__") (some (some (.builtin "getset_descriptor.__get__"))) &&
  (decide (PySem.W.takesIn K (.builtin "object.__class__") = some true) && decide (PySem.W.mroIn K (ga K x) (.type "object") = some true)))
theorem xc_of {x : Str} (c0 : xfB' x K = true) (c : xcB x K = true) : ExcC K (ga K x) := by
  have f := xf_of c0
  obtain ⟨c1, c⟩ := He.ba c
  obtain ⟨c2, c⟩ := He.ba c
  obtain ⟨c3, c4⟩ := He.ba c
  exact ⟨f.ga, f.gg, f.exC, f.hdC, He.eqO_ok c1, He.eqO_ok c2, of_decide_eq_true c3, of_decide_eq_true c4⟩
def xnB (x f : Str) (K : Frag) : Bool := He.eqO (PySem.W.findIn K (.ref (ga K x)) f) (some none)
theorem xn_of {x f : Str} (c : xnB x f K = true) : PySem.W.findIn K (.ref (ga K x)) f = some none := He.eqO_ok c
def kitB (x y : Str) (b : Bool) (K : Frag) : Bool := decide (PySem.W.kitOne K (.ref (ga K x)) (.ref (ga K y)) = some b)
theorem kit_of {x y : Str} {b : Bool} (c : kitB x y b K = true) : PySem.W.kitOne K (.ref (ga K x)) (.ref (ga K y)) = some b := of_decide_eq_true c
/-! ### the table of classes -/
abbrev CT := List (Str × CI)
def tabO (L : CT) : Str → Option CI := fun c => L.lookup c
theorem tab_mem {L : CT} {c : Str} {ci : CI} (e : tabO L c = some ci) : (c, ci) ∈ L := by
  unfold tabO at e
  induction L with
  | nil => cases e
  | cons p L ih =>
    obtain ⟨a, b⟩ := p
    rw [List.lookup_cons] at e
    split at e
    · rename_i h
      have := eq_of_beq h
      subst this
      injection e with e; subst e
      exact List.mem_cons_self
    · exact List.mem_cons_of_mem _ (ih e)
def slotA (K : Frag) (C : Addr) (f : Str) : Addr := match PySem.W.findIn K (.ref C) f with
  | some (some (.ref p)) => p
  | _ => 0
def slotI (K : Frag) (C : Addr) (f : Str) : Nat := (PySem.W.slotIn K (slotA K C f) C).getD 1000
def slot1B (K : Frag) (C : Addr) (f : Str) : Bool := He.eqO (PySem.W.findIn K (.ref C) f) (some (some (.ref (slotA K C f)))) && (He.eqO (PySem.W.specialIn K (.ref (slotA K C f)) "__get__") (some (some (.builtin "member_descriptor.__get__"))) &&
  (decide (PySem.W.takesIn K (.ref (slotA K C f)) = some true) && (decide (PySem.W.typeIn K (.ref (slotA K C f)) = some (.type "member_descriptor")) && (decide (PySem.W.slotIn K (slotA K C f) C = some (slotI K C f)) && Nat.blt (slotI K C f) 1000))))
theorem slot1B_ok {C : Addr} {f : Str} (c : slot1B K C f = true) : Slot1 K C f (slotA K C f) (slotI K C f) := by
  obtain ⟨c1, c⟩ := He.ba c
  obtain ⟨c2, c⟩ := He.ba c
  obtain ⟨c3, c⟩ := He.ba c
  obtain ⟨c4, c⟩ := He.ba c
  obtain ⟨c5, c6⟩ := He.ba c
  exact ⟨He.eqO_ok c1, He.eqO_ok c2, of_decide_eq_true c3, of_decide_eq_true c4, of_decide_eq_true c5, Nat.le_of_ble_eq_true c6⟩
theorem slot1_ix {C : Addr} {f : Str} {p : Addr} {i : Nat} (s : Slot1 K C f p i) : i = slotI K C f := by
  have : slotA K C f = p := by unfold slotA; rw [s.at_]
  unfold slotI
  rw [this, s.ix]; rfl
def sclsB (K : Frag) (C : Addr) : Bool := PySem.W.plainGet K C Str.empty && (PySem.W.isClsIn K C && (PySem.W.plainOver K C && He.eqO (PySem.W.findIn K (.ref C) "__setattr__") (some (some (.builtin "object.__setattr__")))))
theorem sclsB_ok {C : Addr} (c : sclsB K C = true) : SCls K C := by
  obtain ⟨c1, c⟩ := He.ba c
  obtain ⟨c2, c⟩ := He.ba c
  obtain ⟨c3, c4⟩ := He.ba c
  exact ⟨c1, c2, c3, He.eqO_ok c4⟩
def pclsB (K : Frag) (C : Addr) : Bool := PySem.W.plainGet K C Str.empty && (PySem.W.hasDictIn K C && (PySem.W.plainOver K C && He.eqO (PySem.W.findIn K (.ref C) "__setattr__") (some (some (.builtin "object.__setattr__")))))
theorem pclsB_ok {C : Addr} (c : pclsB K C = true) : Cls K C := by
  obtain ⟨c1, c⟩ := He.ba c
  obtain ⟨c2, c⟩ := He.ba c
  obtain ⟨c3, c4⟩ := He.ba c
  exact ⟨c1, c2, c3, He.eqO_ok c4⟩
def siB (K : Frag) (C : Addr) : Bool := He.eqO (PySem.W.findIn K (.ref C) "__class__") (some (some (.builtin "object.__class__"))) && (He.eqO (PySem.W.specialIn K (.builtin "object.__class__") "__get__") (some (some (.builtin "getset_descriptor.__get__"))) &&
  (decide (PySem.W.takesIn K (.builtin "object.__class__") = some true) && decide (PySem.W.mroIn K C (.type "object") = some true)))
theorem siB_ok {C : Addr} (c : siB K C = true) : SIsi K C := by
  obtain ⟨c1, c⟩ := He.ba c
  obtain ⟨c2, c⟩ := He.ba c
  obtain ⟨c3, c4⟩ := He.ba c
  exact ⟨He.eqO_ok c1, He.eqO_ok c2, of_decide_eq_true c3, of_decide_eq_true c4⟩
def nodupN : List Nat → Bool
  | [] => true
  | n :: ns => !ns.contains n && nodupN ns
def oneB (K : Frag) (p : Str × CI) : Bool := freeB p.1 K || (gloB p.1 K && (if p.2.exc then true else siB K (ga K p.1) && (if p.2.slots then sclsB K (ga K p.1) && (p.2.order.all (fun f => slot1B K (ga K p.1) f) && nodupN (p.2.order.map (slotI K (ga K p.1)))) else pclsB K (ga K p.1))))
def tabB (L : CT) (K : Frag) : Bool := L.all (oneB K)
theorem nodupN_inj {α : Type} {f : α → Nat} : ∀ {l : List α}, nodupN (l.map f) = true → ∀ a ∈ l, ∀ b ∈ l, f a = f b → a = b
  | [], _, a, ha, _, _, _ => by simp at ha
  | x :: l, h, a, ha, b, hb, e => by
    simp only [List.map_cons, nodupN, Bool.and_eq_true, Bool.not_eq_true', List.contains_eq_mem, decide_eq_false_iff_not, List.mem_map, not_exists, not_and] at h
    rcases List.mem_cons.mp ha with ha | ha <;> rcases List.mem_cons.mp hb with hb | hb
    · rw [ha, hb]
    · exact absurd (by rw [← e, ha]) (h.1 b hb)
    · exact absurd (by rw [e, hb]) (h.1 a ha)
    · exact nodupN_inj h.2 a ha b hb e
theorem one_of (X : K.In h) (G : h.Ns mainGlobals mg) {p : Str × CI} (c : oneB K p = true) {C : Addr} (e : mg p.1 = some (.ref C)) : C = ga K p.1 ∧ (p.2.exc = false → SIsi K C ∧ (p.2.slots = true → SCls K C ∧ (∀ f ∈ p.2.order, Slot1 K C f (slotA K C f) (slotI K C f)) ∧
    ∀ f ∈ p.2.order, ∀ g ∈ p.2.order, slotI K C f = slotI K C g → f = g) ∧ (p.2.slots = false → Cls K C)) := by
  unfold oneB at c
  rcases (Bool.or_eq_true _ _).mp c with c | c
  · rw [free_of X G c] at e; cases e
  obtain ⟨c1, c2⟩ := He.ba c
  have := glo_of X G c1
  rw [this] at e
  injection e with e; injection e with e; subst e
  refine ⟨rfl, fun he => ?_⟩
  rw [he] at c2
  simp only [Bool.false_eq_true, if_false] at c2
  obtain ⟨c3, c4⟩ := He.ba c2
  refine ⟨siB_ok c3, fun hs => ?_, fun hs => ?_⟩
  · rw [if_pos hs] at c4
    obtain ⟨c5, c6⟩ := He.ba c4
    obtain ⟨c7, c8⟩ := He.ba c6
    exact ⟨sclsB_ok c5, fun f hf => slot1B_ok (List.all_eq_true.mp c7 f hf), fun f hf g hg e => nodupN_inj c8 f hf g hg e⟩
  · rw [hs] at c4
    exact pclsB_ok c4
theorem ck_of (X : K.In h) (G : h.Ns mainGlobals mg) {L : CT} (c : tabB L K = true) : ClsK K mg (tabO L) := by
  have key : ∀ {n ci C}, tabO L n = some ci → mg n = some (.ref C) → _ := fun {n ci C} e1 e2 => one_of X G (p := (n, ci)) (List.all_eq_true.mp c _ (tab_mem e1)) e2
  refine ⟨fun n ci C e1 e2 e3 e4 => ?_, fun n ci C e1 e2 e3 e4 => ?_⟩
  · obtain ⟨_, z⟩ := key e1 e2
    obtain ⟨z1, z2, _⟩ := z e3
    exact ⟨(z2 e4).1, z1⟩
  · obtain ⟨_, z⟩ := key e1 e2
    obtain ⟨z1, _, z3⟩ := z e3
    exact ⟨z3 e4, z1.ca, z1.cn, z1.ct, z1.cm⟩
theorem cs_of (X : K.In h) (G : h.Ns mainGlobals mg) {L : CT} (c : tabB L K = true) : ClsS K mg (tabO L) := by
  have key : ∀ {n ci C}, tabO L n = some ci → mg n = some (.ref C) → _ := fun {n ci C} e1 e2 => one_of X G (p := (n, ci)) (List.all_eq_true.mp c _ (tab_mem e1)) e2
  refine ⟨fun n ci C e1 e2 e3 e4 => ?_, fun n ci C e1 e2 e3 e4 f hf => ?_, fun n ci C e1 e2 e3 e4 f hf g hg p q i s1 s2 => ?_⟩
  · exact (((key e1 e2).2 e3).2.1 e4).1
  · exact ⟨_, _, (((key e1 e2).2 e3).2.1 e4).2.1 f hf⟩
  · exact (((key e1 e2).2 e3).2.1 e4).2.2 f hf g hg ((slot1_ix s1).symm.trans (slot1_ix s2))
def isiBB (L : CT) (tv : Frag → Value) (f : Tag → Bool) (K : Frag) : Bool := (sevenT.all fun t => decide (PySem.W.kitOne K (.type t) (tv K) = some (f (.b t)))) && L.all fun p => freeB p.1 K || (gloB p.1 K && (p.2.exc || decide (PySem.W.kitOne K (.ref (ga K p.1)) (tv K) = some (f (.c p.1)))))
theorem isi_of (X : K.In h) (G : h.Ns mainGlobals mg) {L : CT} {tv : Frag → Value} {f : Tag → Bool} (c : isiBB L tv f K = true) : IsiK K mg (tabO L) (tv K) f := by
  obtain ⟨c1, c2⟩ := He.ba c
  refine ⟨fun t ht => of_decide_eq_true (List.all_eq_true.mp c1 t ht), fun n ci C e1 e2 e3 => ?_⟩
  have c3 := List.all_eq_true.mp c2 _ (tab_mem e1)
  rcases (Bool.or_eq_true _ _).mp c3 with c3 | c3
  · have := free_of X G c3
    simp only at this
    rw [this] at e2; cases e2
  obtain ⟨c4, c5⟩ := He.ba c3
  have := glo_of X G c4
  simp only at this
  rw [this] at e2
  injection e2 with e2; injection e2 with e2; subst e2
  simp only [e3, Bool.false_or] at c5
  exact of_decide_eq_true c5
def catB (L : CT) (x : Str) (m : Str → Option Bool) (K : Frag) : Bool := L.all fun p => freeB p.1 K || (gloB p.1 K && match m p.1 with
  | none => true
  | some b => decide (PySem.W.exmOne K (.ref (ga K p.1)) (.ref (ga K x)) = some b))
theorem cat_of (X : K.In h) (G : h.Ns mainGlobals mg) {L : CT} {x : Str} {m : Str → Option Bool} (c : catB L x m K = true) : ∀ n ci C b, tabO L n = some ci → mg n = some (.ref C) → m n = some b → PySem.W.exmOne K (.ref C) (.ref (ga K x)) = some b := by
  intro n ci C b e1 e2 e3
  have c3 := List.all_eq_true.mp c _ (tab_mem e1)
  rcases (Bool.or_eq_true _ _).mp c3 with c3 | c3
  · have := free_of X G c3
    simp only at this
    rw [this] at e2; cases e2
  obtain ⟨c4, c5⟩ := He.ba c3
  have := glo_of X G c4
  simp only at this
  rw [this] at e2
  injection e2 with e2; injection e2 with e2; subst e2
  simp only [e3] at c5
  exact of_decide_eq_true c5
end
end Z

/-! a law's end -/
namespace Z
open PySem PySem.Spec PyProof.Rows L2 SlX
theorem walk_ofC {l : PySem.W.OpenLaw} {n k : Nat} {q : Program} {loose : List Str} {XP : (Str → Option Value) → Heap → Prop} {YP : World → Heap → Prop} {d : DefRec} {CX : World → CXT} {x : Str}
    (hn : l.most = some n) (hn2 : n ≤ sizeLine) (hdf : d.params.defaults = []) (hr : Room k callerA)
    (F : ∀ (w : World) (mg : Str → Option Value) (fa : Addr) (h : Heap), YP w h → h.Ns mainGlobals mg → mg d.name = some (.ref fa) →
      ∃ (K : PySem.W.Frag) (fd : FuncData) (sp : Sp), K.In h ∧ (∀ (s : Shared) (u : Value), BindsTo s fd ⟨[u], []⟩ [(x, u)]) ∧
        (∀ (H : Hp) (a : Addr) (ns : List Int), ns.length ≤ n → Only H → SqL K H a (ns.map V.int) → sp [.ref a] H (fun v _ => v = .bl true) fun _ _ _ => False) ∧
        ∀ base : Heap, K.In base → base.Ns mainGlobals mg → FnOk l.prog w K mg base (CX w) k fa fd [x] sp)
    (hCX : ∀ (w : World) (H : Hp) (s : Shared) (e : Value) (s' : Shared), CX w [] H s (fun _ _ _ => False) e s' → False) :
    PySem.W.WalkO q loose XP YP l.row.toRowW d [] (fun f vs => PySem.call f vs) := by
  refine Att.attach_call hn hdf fun w s₀ s₁ mg mb fa o pm cd doc a vs ns G Y ho hd hcd hmg hobj hints hlen hg => ?_
  obtain ⟨K, fd, sp, KX, hb, hsp, hF⟩ := F w mg fa _ Y G.T.g hmg
  exact law_call KX G.T.g G.T.b G.T.builtins G.T.nolimit hg hobj hints (Nat.le_trans hlen hn2) hr hF hb (fun H hO hS => hsp H a ns hlen hO hS) fun H e s' => hCX w H s₁ e s'
theorem reps_ns {G : Gx} {A : Al} {F : Hp} : ∀ ns : List Int, Reps G A F (ns.map V.int) (ns.map D.int)
  | [] => rfl
  | n :: ns => ⟨_, _, rfl, rfl, reps_ns ns⟩
/-- the law's promise from its value -/
theorem law_sp {P : Program} {w : World} {K : PySem.W.Frag} {mg : Str → Option Value} {cls : Str → Option CI} {F : Fn} {n : Nat} (hF : ∀ ns : List Int, ns.length ≤ n → ∃ μ, F [.lst (ns.map D.int)] [] = .ok (.bl true) μ) (H : Hp) (a : Addr) (ns : List Int) (hn : ns.length ≤ n) (hS : SqL K H a (ns.map V.int)) :
    spZ ⟨P, w, K, mg, cls⟩ 1 F [.ref a] H (fun v _ => v = .bl true) fun _ _ _ => False := by
  obtain ⟨μ, e⟩ := hF ns hn
  have hide0 : hide (fun _ => False) H [] [] = H := by
    funext b
    unfold hide
    rw [if_neg]
    rintro (h | ⟨i, p, m, h1, _⟩)
    · exact h
    · simp at h1
  refine ⟨rfl, fun _ => False, [], [], [.lst (ns.map D.int)], ⟨rfl, fun i j p q n m h1 => by simp at h1, fun i p n h1 => by simp at h1, fun b hb => hb.elim, fun i p n h1 => by simp at h1⟩, ?_, ?_⟩
  · rw [hide0]
    exact ⟨_, _, rfl, ⟨a, _, rfl, hS, reps_ns ns⟩, rfl⟩
  · rw [e]
    intro v A' H' r p st
    exact p
end Z

namespace Z
open PySem PySem.Spec PyProof.Rows L2 SlX
def clsL : CT := [("FieldError", ⟨[], false, true⟩), ("InvalidEdition", ⟨["field", "part"], false, true⟩), ("Edition", ⟨["called", "rules", "is_keeping", "sources"], true, false⟩)]
abbrev cls : Str → Option CI := tabO clsL
def catch_InvalidEdition : Str → Option Bool := fun x => if x = "FieldError" then some false else if x = "InvalidEdition" then some true else none
noncomputable def ev_is_integer : Ex :=
  sRet (zAnd (zUn (isiO (isB "int")) (zVar 0)) (zNot (zUn (isiO (isB "bool")) (zVar 0))))
noncomputable def fn_is_integer : Fn := purF (runF 1 ev_is_integer)
noncomputable def ev_is_name : Ex :=
  sSeq (sIf (zOrT (zNotT (zTru (zUn (isiO (isB "str")) (zVar 0)))) (zNotT (zTru (zChain (cmpO .le) (cmpO .le) (zC (.int 1)) (zB (lenB) (zCons (zVar 0) (zNil))) (zC (.int 8)))))) (sRet (zC (.bl false))) (sPass))
  (sRet (zB (allB) (zCons (zLc false (zSrc (zVar 0)) (gN 1) (zYes) (zBin (cmpO .inn) (zVar 1) (zC (.str "abcdefghijklmnopqrstuvwxyz"))) [1]) (zNil))))
noncomputable def fn_is_name : Fn := purF (runF 2 ev_is_name)
noncomputable def ev_is_default : Ex :=
  sSeq (sIf (zTru (zCall 1 fn_is_integer (zCons (zVar 0) (zNil)))) (sRet (zChain (cmpO .le) (cmpO .le) (zC (.int 0)) (zVar 0) (zC (.int 3)))) (sPass))
  (sSeq (sIf (zOrT (zNotT (zTru (zUn (isiO (isB "tuple")) (zVar 0)))) (zTru (zBin (cmpO .ne) (zB (lenB) (zCons (zVar 0) (zNil))) (zC (.int 2))))) (sRet (zC (.bl false))) (sPass))
  (sSeq (sIf (zOrT (zNotT (zTru (zUn (isiO (isB "str")) (zIx (zVar 0) (zC (.int 0)))))) (zNotT (zTru (zUn (isiO (isB "str")) (zIx (zVar 0) (zC (.int 1))))))) (sRet (zC (.bl false))) (sPass))
  (sRet (zAnd (zBin (cmpO .inn) (zIx (zVar 0) (zC (.int 0))) (zTup (zCons (zC (.str "same")) (zCons (zC (.str "next")) (zNil))))) (zAnd (zBin (cmpO .inn) (zIx (zVar 0) (zC (.int 1))) (zVar 2)) (zBin (cmpO .ne) (zIx (zVar 0) (zC (.int 1))) (zVar 1)))))))
noncomputable def fn_is_default : Fn := purF (runF 3 ev_is_default)
noncomputable def ev_is_rule : Ex :=
  sSeq (sIf (zOrT (zNotT (zTru (zUn (isiO (isB "tuple")) (zVar 0)))) (zTru (zBin (cmpO .ne) (zB (lenB) (zCons (zVar 0) (zNil))) (zC (.int 2))))) (sRet (zC (.bl false))) (sPass))
  (sRet (zAnd (zCall 3 fn_is_default (zCons (zIx (zVar 0) (zC (.int 0))) (zCons (zVar 1) (zCons (zVar 2) (zNil))))) (zUn (isiO (isB "bool")) (zIx (zVar 0) (zC (.int 1))))))
noncomputable def fn_is_rule : Fn := purF (runF 3 ev_is_rule)
noncomputable def bd_leads_back_0 : Ex :=
  sSeq (sAsg (zIx (zIx (zVar 0) (zVar 2)) (zC (.int 0))) (gN 4))
  (sSeq (sIf (zTru (zCall 1 fn_is_integer (zCons (zVar 4) (zNil)))) (sRet (zC (.bl false))) (sPass))
  (sSeq (sAsg (zIx (zVar 4) (zC (.int 1))) (gN 2))
  (sIf (zTru (zBin (cmpO .eq) (zVar 2) (zVar 1))) (sRet (zC (.bl true))) (sPass))))
noncomputable def ev_leads_back : Ex :=
  sSeq (sAsg (zVar 1) (gN 2))
  (sSeq (sFor (zRng1 (zCons (zB (lenB) (zCons (zVar 0) (zNil))) (zNil))) (gN 3) bd_leads_back_0)
  (sRet (zC (.bl false))))
noncomputable def fn_leads_back : Fn := purF (runF 5 ev_leads_back)
noncomputable def bd_look_at_fields_0 : Ex :=
  sIf (zNotT (zTru (zCall 3 fn_is_rule (zCons (zIx (zVar 0) (zVar 2)) (zCons (zVar 2) (zCons (zVar 1) (zNil))))))) (sRaise "InvalidEdition" 2 (zCons (zC (.str "rule")) (zCons (zVar 2) (zNil)))) (sPass)
noncomputable def bd_look_at_fields_1 : Ex :=
  sIf (zTru (zCall 2 fn_leads_back (zCons (zVar 0) (zCons (zVar 2) (zNil))))) (sRaise "InvalidEdition" 2 (zCons (zC (.str "ring")) (zCons (zVar 2) (zNil)))) (sPass)
noncomputable def ev_look_at_fields : Ex :=
  sSeq (sIf (zOrT (zNotT (zTru (zUn (isiO (isB "dict")) (zVar 0)))) (zNotT (zTru (zChain (cmpO .le) (cmpO .le) (zC (.int 1)) (zB (lenB) (zCons (zVar 0) (zNil))) (zC (.int 5)))))) (sRaise "InvalidEdition" 2 (zCons (zC (.str "fields")) (zCons (zC (.str "")) (zNil)))) (sPass))
  (sSeq (sAsg (zB (sortedB false) (zCons (zLc false (zSrc (zVar 0)) (gN 2) (zTru (zCall 1 fn_is_name (zCons (zVar 2) (zNil)))) (zVar 2) [2]) (zNil))) (gN 1))
  (sSeq (sFor (zSrc (zVar 1)) (gN 2) bd_look_at_fields_0)
  (sSeq (sIf (zTru (zBin (cmpO .lt) (zB (lenB) (zCons (zVar 1) (zNil))) (zB (lenB) (zCons (zVar 0) (zNil))))) (sRaise "InvalidEdition" 2 (zCons (zC (.str "field")) (zCons (zC (.str "")) (zNil)))) (sPass))
  (sFor (zSrc (zVar 1)) (gN 2) bd_look_at_fields_1))))
noncomputable def fn_look_at_fields : Fn := purF (runF 3 ev_look_at_fields)
noncomputable def ev_are_names : Ex :=
  sSeq (sIf (zOrT (zNotT (zTru (zUn (isiO (isB "tuple")) (zVar 0)))) (zNotT (zTru (zB (allB) (zCons (zLc false (zSrc (zVar 0)) (gN 1) (zYes) (zCall 1 fn_is_name (zCons (zVar 1) (zNil))) [1]) (zNil)))))) (sRet (zC (.bl false))) (sPass))
  (sRet (zBin (cmpO .eq) (zUn lenSetB (zVar 0)) (zB (lenB) (zCons (zVar 0) (zNil)))))
noncomputable def fn_are_names : Fn := purF (runF 2 ev_are_names)
noncomputable def ev_Edition__init : Ex :=
  sSeq (sIf (zNotT (zTru (zCall 1 fn_is_name (zCons (zVar 1) (zNil))))) (sRaise "InvalidEdition" 2 (zCons (zC (.str "name")) (zCons (zC (.str "")) (zNil)))) (sPass))
  (sSeq (sExp (zCall 1 fn_look_at_fields (zCons (zVar 2) (zNil))))
  (sSeq (sIf (zNotT (zTru (zUn (isiO (isB "bool")) (zVar 3)))) (sRaise "InvalidEdition" 2 (zCons (zC (.str "keeps")) (zCons (zC (.str "")) (zNil)))) (sPass))
  (sSeq (sIf (zAndT (zTru (zBin (cmpO .notN) (zVar 4) (zC .non))) (zNotT (zTru (zCall 1 fn_are_names (zCons (zVar 4) (zNil)))))) (sRaise "InvalidEdition" 2 (zCons (zC (.str "reads")) (zCons (zC (.str "")) (zNil)))) (sPass))
  (sSeq (sAttr cls "called" (zVar 0) (zVar 1))
  (sSeq (sAttr cls "rules" (zVar 0) (zDc false (zSrc (zB (sortedB false) (zCons (zB (listB false) (zCons (zVar 2) (zNil))) (zNil)))) (gN 5) (zYes) (zVar 5) (zIx (zVar 2) (zVar 5)) [5]))
  (sSeq (sAttr cls "is_keeping" (zVar 0) (zVar 3))
  (sAttr cls "sources" (zVar 0) (zVar 4))))))))
noncomputable def fn_Edition__init : Fn := trimF (runF 6 ev_Edition__init)
def ar_Edition_2_keeps_reads : List D → List D := fun l => match l with
  | [x0, x1, x2, y_keeps, y_reads] => [x0, x1, x2, y_keeps, y_reads]
  | _ => []
noncomputable def bd__law_mix_0 : Ex :=
  sAsg (zBin modO (zB (intB) (zCons (zBin addO (zBin addO (zBin mulO (zVar 2) (zC (.int 48271))) (zBin modO (zB (intB) (zCons (zVar 3) (zNil))) (zC (.int 2147483629)))) (zC (.int 1))) (zNil))) (zC (.int 2147483647))) (gN 2)
noncomputable def ev__law_mix : Ex :=
  sSeq (sAsg (zVar 1) (gN 2))
  (sSeq (sFor (zSrc (zVar 0)) (gN 3) bd__law_mix_0)
  (sRet (zLst true (zCons (zVar 2) (zCons (zB (listB true) (zCons (zVar 0) (zNil))) (zCons (zC (.int 0)) (zCons (zC (.int 14)) (zNil))))))))
noncomputable def fn__law_mix : Fn := rawF (runF 4 ev__law_mix)
noncomputable def ev__law_next : Ex :=
  sSeq (sAsg (zIx (zBin addO (zIx (zVar 0) (zC (.int 1))) (zLst false (zCons (zC (.int 0)) (zNil)))) (zBin modO (zB (intB) (zCons (zIx (zVar 0) (zC (.int 2))) (zNil))) (zB (max2B) (zCons (zC (.int 1)) (zCons (zB (lenB) (zCons (zIx (zVar 0) (zC (.int 1))) (zNil))) (zNil)))))) (gN 2))
  (sSeq (sIf (zTru (zBin (cmpO .ge) (zVar 2) (zBin powO (zC (.int 10)) (zC (.int 18))))) (sSeq (sSet (zBin divO (zVar 2) (zVar 1)) (zIx (zVar 0) (zC (.int 1))) (zBin modO (zB (intB) (zCons (zIx (zVar 0) (zC (.int 2))) (zNil))) (zB (lenB) (zCons (zIx (zVar 0) (zC (.int 1))) (zNil)))))
  (sRet (zBin modO (zB (intB) (zCons (zVar 2) (zNil))) (zVar 1)))) (sPass))
  (sSeq (sSet (zBin modO (zB (intB) (zCons (zBin addO (zBin addO (zBin mulO (zIx (zVar 0) (zC (.int 0))) (zC (.int 48271))) (zBin mulO (zVar 2) (zC (.int 69621)))) (zC (.int 11))) (zNil))) (zC (.int 2147483647))) (zVar 0) (zC (.int 0)))
  (sSeq (sSet (zBin addO (zIx (zVar 0) (zC (.int 2))) (zC (.int 1))) (zVar 0) (zC (.int 2)))
  (sRet (zBin modO (zB (intB) (zCons (zBin divO (zIx (zVar 0) (zC (.int 0))) (zC (.int 7))) (zNil))) (zVar 1))))))
noncomputable def fn__law_next : Fn := trimF (runF 3 ev__law_next)
noncomputable def bd__law_rules_0 : Ex :=
  sSeq (sAsg (zCall 2 fn__law_next (zCons (zVar 0) (zCons (zBin addO (zVar 2) (zC (.int 1))) (zNil)))) (gN 5))
  (sSeq (sIf (zAndT (zTru (zBin (cmpO .gt) (zVar 4) (zC (.int 0)))) (zTru (zBin (cmpO .eq) (zCall 2 fn__law_next (zCons (zVar 0) (zCons (zC (.int 2)) (zNil)))) (zC (.int 0))))) (sAsg (zTup (zCons (zIx (zLst false (zCons (zC (.str "same")) (zCons (zC (.str "next")) (zNil)))) (zCall 2 fn__law_next (zCons (zVar 0) (zCons (zC (.int 2)) (zNil))))) (zCons (zIx (zVar 1) (zCall 2 fn__law_next (zCons (zVar 0) (zCons (zVar 4) (zNil))))) (zNil)))) (gN 5)) (sPass))
  (sSet (zTup (zCons (zVar 5) (zCons (zBin (cmpO .eq) (zCall 2 fn__law_next (zCons (zVar 0) (zCons (zC (.int 4)) (zNil)))) (zC (.int 0))) (zNil)))) (zVar 3) (zIx (zVar 1) (zVar 4))))
noncomputable def ev__law_rules : Ex :=
  sSeq (sAsg (zD0 true) (gN 3))
  (sSeq (sFor (zRng1 (zCons (zB (lenB) (zCons (zVar 1) (zNil))) (zNil))) (gN 4) bd__law_rules_0)
  (sRet (zFrz cls (zVar 3))))
noncomputable def fn__law_rules : Fn := trimF (runF 6 ev__law_rules)
noncomputable def ev__law_name : Ex :=
  sSeq (sAsg (zC (.str "abcdefghijklmnopqrstuvwxyz")) (gN 1))
  (sRet (zAnd (zUn (isiO (isB "str")) (zVar 0)) (zAnd (zChain (cmpO .le) (cmpO .le) (zC (.int 1)) (zB (lenB) (zCons (zVar 0) (zNil))) (zC (.int 8))) (zB (allB) (zCons (zLc false (zSrc (zVar 0)) (gN 2) (zYes) (zBin (cmpO .inn) (zVar 2) (zVar 1)) [2]) (zNil))))))
noncomputable def fn__law_name : Fn := purF (runF 3 ev__law_name)
noncomputable def ev__law_good : Ex :=
  sSeq (sIf (zOrT (zNotT (zTru (zUn (isiO (isB "tuple")) (zVar 0)))) (zOrT (zTru (zBin (cmpO .ne) (zB (lenB) (zCons (zVar 0) (zNil))) (zC (.int 2)))) (zNotT (zTru (zUn (isiO (isB "bool")) (zIx (zVar 0) (zC (.int 1)))))))) (sRet (zC (.bl false))) (sPass))
  (sSeq (sAsg (zIx (zVar 0) (zC (.int 0))) (gN 3))
  (sSeq (sIf (zTru (zUn (isiO (isB "int")) (zVar 3))) (sRet (zAnd (zNot (zUn (isiO (isB "bool")) (zVar 3))) (zChain (cmpO .le) (cmpO .le) (zC (.int 0)) (zVar 3) (zC (.int 3))))) (sPass))
  (sSeq (sIf (zOrT (zNotT (zTru (zUn (isiO (isB "tuple")) (zVar 3)))) (zOrT (zTru (zBin (cmpO .ne) (zB (lenB) (zCons (zVar 3) (zNil))) (zC (.int 2)))) (zNotT (zTru (zUn (isiO (isB "str")) (zIx (zVar 3) (zC (.int 0)))))))) (sRet (zC (.bl false))) (sPass))
  (sSeq (sIf (zOrT (zTru (zBin (cmpO .nin) (zIx (zVar 3) (zC (.int 0))) (zTup (zCons (zC (.str "same")) (zCons (zC (.str "next")) (zNil)))))) (zNotT (zTru (zUn (isiO (isB "str")) (zIx (zVar 3) (zC (.int 1))))))) (sRet (zC (.bl false))) (sPass))
  (sRet (zAnd (zBin (cmpO .inn) (zIx (zVar 3) (zC (.int 1))) (zVar 2)) (zBin (cmpO .ne) (zIx (zVar 3) (zC (.int 1))) (zVar 1))))))))
noncomputable def fn__law_good : Fn := purF (runF 4 ev__law_good)
noncomputable def bd__law_ring_0 : Ex :=
  sSeq (sAsg (zIx (zIx (zVar 0) (zVar 2)) (zC (.int 0))) (gN 4))
  (sSeq (sIf (zNotT (zTru (zUn (isiO (isB "tuple")) (zVar 4)))) (sRet (zC (.bl false))) (sPass))
  (sSeq (sAsg (zIx (zVar 4) (zC (.int 1))) (gN 2))
  (sIf (zTru (zBin (cmpO .eq) (zVar 2) (zVar 1))) (sRet (zC (.bl true))) (sPass))))
noncomputable def ev__law_ring : Ex :=
  sSeq (sAsg (zVar 1) (gN 2))
  (sSeq (sFor (zRng1 (zCons (zC (.int 8)) (zNil))) (gN 3) bd__law_ring_0)
  (sRet (zC (.bl false))))
noncomputable def fn__law_ring : Fn := purF (runF 5 ev__law_ring)
noncomputable def bd__law_due_0 : Ex :=
  sIf (zNotT (zTru (zCall 3 fn__law_good (zCons (zIx (zVar 1) (zVar 5)) (zCons (zVar 5) (zCons (zVar 4) (zNil))))))) (sRet (zTup (zCons (zC (.str "rule")) (zCons (zVar 5) (zNil))))) (sPass)
noncomputable def bd__law_due_1 : Ex :=
  sIf (zTru (zCall 2 fn__law_ring (zCons (zVar 1) (zCons (zVar 5) (zNil))))) (sRet (zTup (zCons (zC (.str "ring")) (zCons (zVar 5) (zNil))))) (sPass)
noncomputable def ev__law_due : Ex :=
  sSeq (sIf (zNotT (zTru (zCall 1 fn__law_name (zCons (zVar 0) (zNil))))) (sRet (zTup (zCons (zC (.str "name")) (zCons (zC (.str "")) (zNil))))) (sPass))
  (sSeq (sIf (zOrT (zNotT (zTru (zUn (isiO (isB "dict")) (zVar 1)))) (zNotT (zTru (zChain (cmpO .le) (cmpO .le) (zC (.int 1)) (zB (lenB) (zCons (zVar 1) (zNil))) (zC (.int 5)))))) (sRet (zTup (zCons (zC (.str "fields")) (zCons (zC (.str "")) (zNil))))) (sPass))
  (sSeq (sAsg (zB (sortedB false) (zCons (zLc false (zSrc (zVar 1)) (gN 5) (zTru (zCall 1 fn__law_name (zCons (zVar 5) (zNil)))) (zVar 5) [5]) (zNil))) (gN 4))
  (sSeq (sFor (zSrc (zVar 4)) (gN 5) bd__law_due_0)
  (sSeq (sIf (zTru (zBin (cmpO .lt) (zB (lenB) (zCons (zVar 4) (zNil))) (zB (lenB) (zCons (zVar 1) (zNil))))) (sRet (zTup (zCons (zC (.str "field")) (zCons (zC (.str "")) (zNil))))) (sPass))
  (sSeq (sFor (zSrc (zVar 4)) (gN 5) bd__law_due_1)
  (sSeq (sIf (zNotT (zTru (zUn (isiO (isB "bool")) (zVar 2)))) (sRet (zTup (zCons (zC (.str "keeps")) (zCons (zC (.str "")) (zNil))))) (sPass))
  (sSeq (sIf (zTru (zBin (cmpO .isN) (zVar 3) (zC .non))) (sRet (zC .non)) (sPass))
  (sSeq (sAsg (zAnd (zUn (isiO (isB "tuple")) (zVar 3)) (zAnd (zB (allB) (zCons (zLc false (zSrc (zVar 3)) (gN 7) (zYes) (zCall 1 fn__law_name (zCons (zVar 7) (zNil))) [7]) (zNil))) (zBin (cmpO .eq) (zUn lenSetB (zVar 3)) (zB (lenB) (zCons (zVar 3) (zNil)))))) (gN 6))
  (sRet (zIf (zTru (zVar 6)) (zC .non) (zTup (zCons (zC (.str "reads")) (zCons (zC (.str "")) (zNil))))))))))))))
noncomputable def fn__law_due : Fn := purF (runF 8 ev__law_due)
noncomputable def ev__law_spoilt : Ex :=
  sSeq (sAsg (zIx (zB (sortedB false) (zCons (zB (listB false) (zCons (zVar 1) (zNil))) (zNil))) (zCall 2 fn__law_next (zCons (zVar 0) (zCons (zB (lenB) (zCons (zVar 1) (zNil))) (zNil))))) (gN 2))
  (sSeq (sAsg (zIx (zB (sortedB false) (zCons (zB (listB false) (zCons (zVar 1) (zNil))) (zNil))) (zCall 2 fn__law_next (zCons (zVar 0) (zCons (zB (lenB) (zCons (zVar 1) (zNil))) (zNil))))) (gN 3))
  (sSeq (sAsg (zLst false (zCons (zTup (zCons (zC (.int 0)) (zNil))) (zCons (zTup (zCons (zC (.bl true)) (zCons (zC (.bl false)) (zNil)))) (zCons (zTup (zCons (zC (.int 4)) (zCons (zC (.bl false)) (zNil)))) (zCons (zTup (zCons (zUn negO (zC (.int 1))) (zCons (zC (.bl true)) (zNil)))) (zCons (zTup (zCons (zC (.int 0)) (zCons (zC (.int 0)) (zNil)))) (zCons (zLst false (zCons (zC (.int 0)) (zCons (zC (.bl false)) (zNil)))) (zCons (zC .non) (zCons (zTup (zCons (zTup (zCons (zC (.str "same")) (zCons (zC (.str "none")) (zNil)))) (zCons (zC (.bl false)) (zNil)))) (zCons (zTup (zCons (zC (.int 3)) (zCons (zC .non) (zNil)))) (zNil))))))))))) (gN 4))
  (sSeq (sAsg (zBin addO (zVar 4) (zLst false (zCons (zTup (zCons (zTup (zCons (zC (.str "same")) (zCons (zVar 2) (zNil)))) (zCons (zC (.bl false)) (zNil)))) (zCons (zTup (zCons (zTup (zCons (zC (.str "more")) (zCons (zVar 3) (zNil)))) (zCons (zC (.bl false)) (zNil)))) (zCons (zTup (zCons (zTup (zCons (zC (.str "next")) (zCons (zVar 3) (zNil)))) (zCons (zC (.bl true)) (zNil)))) (zCons (zTup (zCons (zTup (zCons (zC (.str "same")) (zCons (zVar 3) (zNil)))) (zCons (zC (.bl false)) (zNil)))) (zNil))))))) (gN 4))
  (sSeq (sAsg (zBin addO (zVar 4) (zLst false (zCons (zTup (zCons (zTup (zCons (zC (.str "next")) (zNil))) (zCons (zC (.bl false)) (zNil)))) (zCons (zTup (zCons (zTup (zCons (zC (.str "same")) (zCons (zC (.int 1)) (zNil)))) (zCons (zC (.bl false)) (zNil)))) (zCons (zTup (zCons (zTup (zCons (zC (.int 1)) (zCons (zVar 3) (zNil)))) (zCons (zC (.bl false)) (zNil)))) (zCons (zTup (zCons (zTup (zCons (zC (.str "next")) (zCons (zVar 3) (zCons (zVar 3) (zNil))))) (zCons (zC (.bl true)) (zNil)))) (zNil))))))) (gN 4))
  (sSeq (sAsg (zB (dictB true) (zCons (zVar 1) (zNil))) (gN 5))
  (sSeq (sAsg (zCall 2 fn__law_next (zCons (zVar 0) (zCons (zC (.int 5)) (zNil)))) (gN 6))
  (sSeq (sIf (zTru (zBin (cmpO .eq) (zVar 6) (zC (.int 0)))) (sSet (zTup (zCons (zC (.int 0)) (zCons (zC (.bl false)) (zNil)))) (zVar 5) (zIx (zLst false (zCons (zC (.str "")) (zCons (zC (.str "A")) (zCons (zC (.str "a b")) (zCons (zC (.int 5)) (zCons (zC .non) (zCons (zC (.str "abcdefghi")) (zCons (zC (.bl true)) (zCons (zTup (zCons (zC (.str "a")) (zNil))) (zNil)))))))))) (zCall 2 fn__law_next (zCons (zVar 0) (zCons (zC (.int 8)) (zNil)))))) (sIf (zTru (zBin (cmpO .eq) (zVar 6) (zC (.int 1)))) (sRet (zIx (zLst false (zCons (zD0 false) (zCons (zC .non) (zCons (zLst false (zCons (zTup (zCons (zC (.str "a")) (zCons (zTup (zCons (zC (.int 0)) (zCons (zC (.bl false)) (zNil)))) (zNil)))) (zNil))) (zCons (zC (.str "a")) (zCons (zVar 1) (zNil))))))) (zCall 2 fn__law_next (zCons (zVar 0) (zCons (zC (.int 5)) (zNil)))))) (sSet (zIx (zVar 4) (zCall 2 fn__law_next (zCons (zVar 0) (zCons (zB (lenB) (zCons (zVar 4) (zNil))) (zNil))))) (zVar 5) (zVar 2))))
  (sRet (zFrz cls (zVar 5))))))))))
noncomputable def fn__law_spoilt : Fn := trimF (runF 7 ev__law_spoilt)
noncomputable def bd_law_0 : Ex :=
  sIf (zAndT (zTru (zUn (isiO (isB "dict")) (zVar 2))) (zAndT (zTru (zBin (cmpO .ne) (zVar 2) (zD0 false))) (zTru (zB (allB) (zCons (zLc false (zSrc (zVar 2)) (gN 12) (zYes) (zUn (isiO (isB "str")) (zVar 12)) [12]) (zNil)))))) (sAsg (zCall 2 fn__law_spoilt (zCons (zVar 1) (zCons (zVar 2) (zNil)))) (gN 2)) (sPass)
noncomputable def bd_law_1 : Ex :=
  sSeq (sAsg (zC .non) (gN 10))
  (sSeq (sTry catch_InvalidEdition (some 11) (sExp (zMakeP cls "Edition" 5 fn_Edition__init ar_Edition_2_keeps_reads (zCons (zVar 4) (zCons (zVar 9) (zNil))) (zCons (zVar 5) (zCons (zVar 7) (zNil))))) (fun c ds ρ μ => noX (sAsg ((fun c ds => zIf (zXIs "InvalidEdition" true c ds) ((fun c ds => zTup ((fun c ds => zCons ((zXA "InvalidEdition" 1) c ds) ((fun c ds => zCons ((zXA "InvalidEdition" 0) c ds) ((fun _ _ => zNil) c ds)) c ds)) c ds)) c ds) ((fun c ds => zTup ((fun c ds => zCons ((fun _ _ => zC (.str "class")) c ds) ((fun c ds => zCons ((fun _ _ => zC (.str "")) c ds) ((fun _ _ => zNil) c ds)) c ds)) c ds)) c ds)) c ds) (gN 10) ρ μ)))
  (sIf (zTru (zBin (cmpO .ne) (zVar 10) (zCall 4 fn__law_due (zCons (zVar 4) (zCons (zVar 2) (zCons (zVar 5) (zCons (zVar 7) (zNil)))))))) (sRet (zC (.bl false))) (sPass)))
noncomputable def ev_law : Ex :=
  sSeq (sAsg (zCall 2 fn__law_mix (zCons (zVar 0) (zCons (zC (.int 1)) (zNil)))) (gN 1))
  (sSeq (sAsg (zCall 3 fn__law_rules (zCons (zVar 1) (zCons (zSl false (zLst false (zCons (zC (.str "size")) (zCons (zC (.str "wide")) (zCons (zC (.str "b")) (zCons (zC (.str "tag")) (zCons (zC (.str "zz")) (zCons (zC (.str "c")) (zNil)))))))) (zNoPart) (zPart (zBin addO (zC (.int 1)) (zCall 2 fn__law_next (zCons (zVar 1) (zCons (zC (.int 6)) (zNil))))))) (zCons (zC (.int 3)) (zNil))))) (gN 2))
  (sSeq (sFor (zRng1 (zCons (zCall 2 fn__law_next (zCons (zVar 1) (zCons (zC (.int 3)) (zNil)))) (zNil))) (gN 3) bd_law_0)
  (sSeq (sAsg (zIx (zLst false (zCons (zC (.str "old")) (zCons (zC (.str "abcdefgh")) (zCons (zC (.str "a")) (zCons (zC (.str "")) (zCons (zC (.str "Old")) (zCons (zC (.str "abcdefghi")) (zCons (zC (.int 5)) (zCons (zC .non) (zCons (zC (.str "o d")) (zNil))))))))))) (zCall 2 fn__law_next (zCons (zVar 1) (zCons (zIx (zLst false (zCons (zC (.int 3)) (zCons (zC (.int 9)) (zNil)))) (zCall 2 fn__law_next (zCons (zVar 1) (zCons (zC (.int 2)) (zNil))))) (zNil))))) (gN 4))
  (sSeq (sAsg (zIx (zLst false (zCons (zC (.bl true)) (zCons (zC (.bl false)) (zCons (zC .non) (zCons (zC (.int 1)) (zCons (zC (.str "yes")) (zNil))))))) (zCall 2 fn__law_next (zCons (zVar 1) (zCons (zIx (zLst false (zCons (zC (.int 2)) (zCons (zC (.int 5)) (zNil)))) (zCall 2 fn__law_next (zCons (zVar 1) (zCons (zC (.int 2)) (zNil))))) (zNil))))) (gN 5))
  (sSeq (sAsg (zLst false (zCons (zC .non) (zCons (zTup (zNil)) (zCons (zTup (zCons (zC (.str "old")) (zNil))) (zCons (zTup (zCons (zC (.str "a")) (zCons (zC (.str "b")) (zNil)))) (zCons (zTup (zCons (zC (.str "a")) (zCons (zC (.str "a")) (zNil)))) (zCons (zLst false (zCons (zC (.str "a")) (zNil))) (zCons (zTup (zCons (zC (.str "A")) (zNil))) (zCons (zTup (zCons (zC (.int 5)) (zNil))) (zCons (zC (.str "a")) (zCons (zC (.bl true)) (zNil)))))))))))) (gN 6))
  (sSeq (sAsg (zIx (zVar 6) (zCall 2 fn__law_next (zCons (zVar 1) (zCons (zIx (zLst false (zCons (zC (.int 4)) (zCons (zC (.int 10)) (zNil)))) (zCall 2 fn__law_next (zCons (zVar 1) (zCons (zC (.int 2)) (zNil))))) (zNil))))) (gN 7))
  (sSeq (sAsg (zVar 2) (gN 8))
  (sSeq (sIf (zTru (zUn (isiO (isB "dict")) (zVar 2))) (sAsg (zB (dictB false) (zCons (zRev false (zUn (itemsL false) (zVar 2))) (zNil))) (gN 8)) (sPass))
  (sSeq (sFor (zSrc (zLst false (zCons (zVar 2) (zCons (zVar 8) (zNil))))) (gN 9) bd_law_1)
  (sRet (zC (.bl true))))))))))))
noncomputable def fn_law : Fn := purF (runF 13 ev_law)
end Z

/-! running the evaluators by simp -/
namespace Z
open PySem
/-! what everybody knows -/
section
universe u
variable {α β : Type u} {a b : α} {l m : List α} {n : Nat} {p : Prop} {f : α → β} {x : Bool}
theorem sv_and_true : (p ∧ True) = p := and_true p
theorem sv_true_and : (True ∧ p) = p := true_and p
theorem sv_and_false : (p ∧ False) = False := and_false p
theorem sv_false_and : (False ∧ p) = False := false_and p
theorem sv_or_true : (p ∨ True) = True := or_true p
theorem sv_true_or : (True ∨ p) = True := true_or p
theorem sv_or_false : (p ∨ False) = p := or_false p
theorem sv_false_or : (False ∨ p) = p := false_or p
theorem sv_not_true : (¬ True) = False := not_true_eq_false
theorem sv_not_false : (¬ False) = True := not_false_eq_true
theorem sv_ft : ((false : Bool) = true) = False := Bool.false_eq_true
theorem sv_tf : ((true : Bool) = false) = False := Bool.true_eq_false
theorem sv_eqs (c : α) : (c = c) = True := eq_self c
theorem sv_bnt : (!true) = false := rfl
theorem sv_bnf : (!false) = true := rfl
theorem sv_bat : (x && true) = x := Bool.and_true x
theorem sv_bta : (true && x) = x := Bool.true_and x
theorem sv_baf : (x && false) = false := Bool.and_false x
theorem sv_bfa : (false && x) = false := Bool.false_and x
theorem sv_bot : (x || true) = true := Bool.or_true x
theorem sv_bto : (true || x) = true := Bool.true_or x
theorem sv_bof : (x || false) = x := Bool.or_false x
theorem sv_bfo : (false || x) = x := Bool.false_or x
theorem sv_dtr : decide True = true := rfl
theorem sv_dfa : decide False = false := rfl
theorem sv_dec [Decidable p] : (decide p = true) = p := decide_eq_true_eq
theorem sv_ndec [Decidable p] : (decide p = false) = ¬ p := propext decide_eq_false_iff_not
theorem sv_nb : ((!x) = true) = (x = false) := by cases x <;> simp
theorem sv_map_nil : ([] : List α).map f = [] := rfl
theorem sv_map_cons : (a :: l).map f = f a :: l.map f := rfl
theorem sv_len_nil : ([] : List α).length = 0 := rfl
theorem sv_len_cons : (a :: l).length = l.length + 1 := rfl
theorem sv_app_nil : [] ++ l = l := rfl
theorem sv_app_cons : (a :: l) ++ m = a :: (l ++ m) := rfl
theorem sv_app_nil' : l ++ [] = l := List.append_nil l
theorem sv_set_z : (a :: l).set 0 b = b :: l := rfl
theorem sv_set_s : (a :: l).set (n + 1) b = a :: l.set n b := rfl
theorem sv_get_z : (a :: l)[0]? = some a := rfl
theorem sv_get_s : (a :: l)[n + 1]? = l[n]? := rfl
theorem sv_get_n : ([] : List α)[n]? = none := rfl
theorem sv_rep_z : List.replicate 0 a = [] := rfl
theorem sv_rep_s : List.replicate (n + 1) a = a :: List.replicate n a := rfl
theorem sv_rev_nil : ([] : List α).reverse = [] := rfl
theorem sv_rev_1 : [a].reverse = [a] := rfl
theorem sv_rev_2 {b : α} : [a, b].reverse = [b, a] := rfl
theorem sv_omap_s : (some a).map f = some (f a) := rfl
theorem sv_omap_n : (none : Option α).map f = none := rfl
theorem sv_obind_s {g : α → Option β} : (some a).bind g = g a := rfl
theorem sv_obind_n {g : α → Option β} : (none : Option α).bind g = none := rfl
theorem sv_isEmpty_n : ([] : List α).isEmpty = true := rfl
theorem sv_isEmpty_c : (a :: l).isEmpty = false := rfl
end
theorem sv_beq {α : Type} [BEq α] [ReflBEq α] (x : α) : (x == x) = true := BEq.rfl
theorem lim_eq : lim = 16000000 := rfl
/-! the first part alone is worked at: what follows is bound to a tag, so that simp leaves it alone -/
inductive Tie {γ : Type} (k : γ) : Type where
  | mk
def Res.bindT {α β : Type} (r : Res α) (k : α → Sto → Res β) (_ : Tie k) : Res β := r.bind k
def Res.outT {α : Type} (r : Res α) (ρ : Env') (k : α → Sto → Out) (_ : Tie k) : Out := r.out ρ k
section
variable {α β : Type} {a : α} {μ : Sto} {ρ : Env'} {k : α → Sto → Res β} {l : α → Sto → Out} {c : Str} {ds : List D}
theorem bindT_ok {t : Tie k} : (Res.ok a μ).bindT k t = k a μ := rfl
theorem bindT_exc {t : Tie k} : (Res.exc c ds μ : Res α).bindT k t = .exc c ds μ := rfl
theorem outT_ok {t : Tie l} : (Res.ok a μ).outT ρ l t = l a μ := rfl
theorem outT_exc {t : Tie l} : (Res.exc c ds μ : Res α).outT ρ l t = .exc c ds ρ μ := rfl
end
theorem bind_congr1 {α β : Type} {r r' : Res α} {k : α → Sto → Res β} (h : r = r') : r.bind k = r'.bind k := by rw [h]
theorem out_congr1 {α : Type} {r r' : Res α} {ρ : Env'} {k : α → Sto → Out} (h : r = r') : r.out ρ k = r'.out ρ k := by rw [h]
def Out.then (o : Out) (g : Ex) : Out := match o with
  | .nx ρ' μ' => g ρ' μ'
  | o => o
theorem then_congr1 {o o' : Out} {g : Ex} (h : o = o') : o.then g = o'.then g := by rw [h]
section
variable {α β : Type} {a : α} {μ : Sto} {ρ : Env'} {k : α → Sto → Res β} {l : α → Sto → Out} {c : Str} {ds : List D} {g : Ex} {d : D}
theorem bind_ok' : (Res.ok a μ).bind k = k a μ := rfl
theorem bind_exc' : (Res.exc c ds μ : Res α).bind k = .exc c ds μ := rfl
theorem out_ok : (Res.ok a μ).out ρ l = l a μ := rfl
theorem out_exc : (Res.exc c ds μ : Res α).out ρ l = .exc c ds ρ μ := rfl
theorem then_nx : (Out.nx ρ μ).then g = g ρ μ := rfl
theorem then_rt : (Out.rt d μ).then g = .rt d μ := rfl
theorem then_bk : (Out.bk ρ μ).then g = .bk ρ μ := rfl
theorem then_ct : (Out.ct ρ μ).then g = .ct ρ μ := rfl
theorem then_exc : (Out.exc c ds ρ μ).then g = .exc c ds ρ μ := rfl
end
section
variable {f g h : Ev D} {p q : Ev Bool} {fs : Ev (List D)} {ρ : Env'} {μ : Sto} {s1 s2 : Ex} {d : D} {i n : Nat} {F : Fn} {T : Tg}
theorem zVar_ap : zVar i ρ μ = match ρ[i]? with
  | some (some d) => .ok d μ
  | _ => .bad := rfl
theorem zC_ap : zC d ρ μ = .ok d μ := rfl
theorem zBin_ap {op} : zBin op f g ρ μ = (f ρ μ).bindT (fun a μ1 => (g ρ μ1).bindT (fun b μ2 => op a b μ2) Tie.mk) Tie.mk := rfl
theorem zUn_ap {op} : zUn op f ρ μ = (f ρ μ).bindT (fun a μ1 => op a μ1) Tie.mk := rfl
theorem zTru_ap : zTru f ρ μ = (f ρ μ).bindT (fun a μ1 => bT (truO a μ1) μ1) Tie.mk := rfl
theorem zChain_ap {op op'} : zChain op op' f g h ρ μ = (f ρ μ).bindT (fun a μ1 => (g ρ μ1).bindT (fun b μ2 => (op a b μ2).bindT (fun c μ3 => match c with
  | .bl true => (h ρ μ3).bindT (fun d μ4 => op' b d μ4) Tie.mk
  | .bl false => .ok (.bl false) μ3
  | _ => .bad) Tie.mk) Tie.mk) Tie.mk := rfl
theorem zNotT_ap : zNotT p ρ μ = (p ρ μ).bindT (fun b μ1 => .ok (!b) μ1) Tie.mk := rfl
theorem zAndT_ap : zAndT p q ρ μ = (p ρ μ).bindT (fun b μ1 => if b then q ρ μ1 else .ok false μ1) Tie.mk := rfl
theorem zOrT_ap : zOrT p q ρ μ = (p ρ μ).bindT (fun b μ1 => if b then .ok true μ1 else q ρ μ1) Tie.mk := rfl
theorem zNot_ap : zNot f ρ μ = (f ρ μ).bindT (fun a μ1 => (bT (truO a μ1) μ1).bindT (fun b μ2 => .ok (.bl (!b)) μ2) Tie.mk) Tie.mk := rfl
theorem zAnd_ap : zAnd f g ρ μ = (f ρ μ).bindT (fun a μ1 => (bT (truO a μ1) μ1).bindT (fun b μ2 => if b then g ρ μ2 else .ok a μ2) Tie.mk) Tie.mk := rfl
theorem zOr_ap : zOr f g ρ μ = (f ρ μ).bindT (fun a μ1 => (bT (truO a μ1) μ1).bindT (fun b μ2 => if b then .ok a μ2 else g ρ μ2) Tie.mk) Tie.mk := rfl
theorem zIf_ap : zIf p f g ρ μ = (p ρ μ).bindT (fun b μ1 => if b then f ρ μ1 else g ρ μ1) Tie.mk := rfl
theorem zNil_ap : zNil ρ μ = .ok [] μ := rfl
theorem zCons_ap : zCons f fs ρ μ = (f ρ μ).bindT (fun a μ1 => (fs ρ μ1).bindT (fun r μ2 => .ok (a :: r) μ2) Tie.mk) Tie.mk := rfl
theorem zTup_ap : zTup fs ρ μ = (fs ρ μ).bindT (fun ds μ1 => if ds.length ≤ lim then .ok (.tup ds) μ1 else .bad) Tie.mk := rfl
theorem zLst_ap {m} : zLst m fs ρ μ = (fs ρ μ).bindT (fun ds μ1 => if ds.length ≤ lim then mkL m ds μ1 else .bad) Tie.mk := rfl
theorem mkL_f {ds : List D} : mkL false ds μ = .ok (.lst ds) μ := rfl
theorem mkL_t {ds : List D} : mkL true ds μ = .ok (.hd μ.length) (μ ++ [some (.lst ds)]) := rfl
theorem mkD_f {ks vs : List D} : mkD false ks vs μ = .ok (.dct ks vs) μ := rfl
theorem mkD_t {ks vs : List D} : mkD true ks vs μ = .ok (.hd μ.length) (μ ++ [some (.dct ks vs)]) := rfl
theorem zCall_ap : zCall n F fs ρ μ = (fs ρ μ).bindT (fun ds μ1 => if ds.length = n then F ds μ1 else .bad) Tie.mk := rfl
theorem zB_ap {op} : zB op fs ρ μ = (fs ρ μ).bindT (fun ds μ1 => op ds μ1) Tie.mk := rfl
theorem zIx_ap : zIx f g ρ μ = (f ρ μ).bindT (fun a μ1 => (g ρ μ1).bindT (fun b μ2 => okO (itemO a b μ2) μ2) Tie.mk) Tie.mk := rfl
theorem okO_some {α : Type} {a : α} : okO (some a) μ = .ok a μ := rfl
theorem bT_some' {b : Bool} : bT (some b) μ = .ok b μ := rfl
theorem bO_some' {b : Bool} : bO (some b) μ = .ok (.bl b) μ := rfl
theorem zSrc_ap : zSrc f ρ μ = (f ρ μ).bindT (fun d μ1 => okO (srcO d μ1) μ1) Tie.mk := rfl
theorem zVals_ap : zVals f ρ μ = (f ρ μ).bindT (fun d μ1 => okO (valsO d) μ1) Tie.mk := rfl
theorem zItems_ap : zItems f ρ μ = (f ρ μ).bindT (fun d μ1 => okO (itemsO d) μ1) Tie.mk := rfl
theorem zRng1_ap : zRng1 fs ρ μ = (fs ρ μ).bindT (fun ds μ1 => okO (rng1O ds) μ1) Tie.mk := rfl
theorem zRng2_ap : zRng2 fs ρ μ = (fs ρ μ).bindT (fun ds μ1 => okO (rng2O ds) μ1) Tie.mk := rfl
theorem zYes_ap : zYes ρ μ = .ok true μ := rfl
theorem zD0_ap {m} : zD0 m ρ μ = mkD m [] [] μ := rfl
theorem zPart_ap : zPart f ρ μ = (f ρ μ).bindT (fun d μ1 => match d with
  | .int i => .ok (some i) μ1
  | _ => .bad) Tie.mk := rfl
theorem zNoPart_ap : zNoPart ρ μ = .ok none μ := rfl
theorem zSl_ap {m lo hi} : zSl m f lo hi ρ μ = (f ρ μ).bindT (fun d μ1 => (lo ρ μ1).bindT (fun l μ2 => (hi ρ μ2).bindT (fun h μ3 => cutO m d l h μ3) Tie.mk) Tie.mk) Tie.mk := rfl
theorem zRev_ap {m} : zRev m f ρ μ = (f ρ μ).bindT (fun d μ1 => match asL μ1 d with
  | some ds => mkL m ds.reverse μ1
  | none => .bad) Tie.mk := rfl
theorem zFrz_ap {cls} : zFrz cls f ρ μ = (f ρ μ).bindT (fun a μ1 => frzO cls a μ1) Tie.mk := rfl
theorem zAttr_ap {cls x} : zAttr cls x f ρ μ = (f ρ μ).bindT (fun d μ1 => okO (attrO cls x d μ1) μ1) Tie.mk := rfl
theorem sPass_ap : sPass ρ μ = .nx ρ μ := rfl
theorem sBreak_ap : sBreak ρ μ = .bk ρ μ := rfl
theorem sCont_ap : sCont ρ μ = .ct ρ μ := rfl
theorem sSeq_ap : sSeq s1 s2 ρ μ = (s1 ρ μ).then s2 := rfl
theorem sExp_ap : sExp f ρ μ = (f ρ μ).outT ρ (fun _ μ1 => .nx ρ μ1) Tie.mk := rfl
theorem sRet_ap : sRet f ρ μ = (f ρ μ).outT ρ (fun d μ1 => .rt d μ1) Tie.mk := rfl
theorem sRetN_ap : sRetN ρ μ = .rt .non μ := rfl
theorem sIf_ap : sIf p s1 s2 ρ μ = (p ρ μ).outT ρ (fun b μ1 => if b then s1 ρ μ1 else s2 ρ μ1) Tie.mk := rfl
theorem sAsg_ap : sAsg f T ρ μ = (f ρ μ).outT ρ (fun d μ1 => outO (T d ρ) μ1) Tie.mk := rfl
theorem outO_some : outO (some ρ) μ = .nx ρ μ := rfl
theorem gN_ap : gN i d ρ = some (ρ.set i (some d)) := rfl
theorem gT_ap {ts ds} : gT ts (.tup ds) ρ = gTs ts ds ρ := rfl
theorem gTs_nil : gTs [] [] ρ = some ρ := rfl
theorem gTs_cons {t : Tg} {ts ds} : gTs (t :: ts) (d :: ds) ρ = match t d ρ with
    | some ρ' => gTs ts ds ρ'
    | none => none := rfl
theorem sFor_ap {src} : sFor src T s1 ρ μ = (src ρ μ).outT ρ (fun p μ1 => loopF p T s1 p.1 ρ μ1) Tie.mk := rfl
theorem sSet_ap : sSet f g h ρ μ = (f ρ μ).outT ρ (fun c μ1 => (g ρ μ1).outT ρ (fun x μ2 => (h ρ μ2).outT ρ (fun y μ3 => outM (setO x y c μ3) ρ) Tie.mk) Tie.mk) Tie.mk := rfl
theorem outM_some : outM (some μ) ρ = .nx ρ μ := rfl
theorem sRaise_ap {c} : sRaise c n fs ρ μ = (fs ρ μ).outT ρ (fun ds μ1 => if ds.length = n then .exc c ds.reverse ρ μ1 else .bad) Tie.mk := rfl
theorem sAttr_ap {cls x} : sAttr cls x f g ρ μ = (g ρ μ).outT ρ (fun c μ1 => (f ρ μ1).outT ρ (fun y μ2 => outM (satO cls x y c μ2) ρ) Tie.mk) Tie.mk := rfl
def Out.res (o : Out) : Res D := match o with
  | .nx _ μ' => .ok .non μ'
  | .rt d μ' => .ok d μ'
  | .exc c ds' _ μ' => .exc c ds' μ'
  | _ => .bad
theorem res_congr1 {o o' : Out} (h : o = o') : o.res = o'.res := by rw [h]
theorem res_nx : (Out.nx ρ μ).res = .ok .non μ := rfl
theorem res_rt : (Out.rt d μ).res = .ok d μ := rfl
theorem res_exc {c ds} : (Out.exc c ds ρ μ).res = .exc c ds μ := rfl
theorem runF_ap {ds} : runF n s1 ds μ = (s1 (ds.map some ++ List.replicate (n - ds.length) none) μ).res := by
  unfold runF Out.res
  cases s1 (ds.map some ++ List.replicate (n - ds.length) none) μ <;> rfl
theorem purF_ok {ds : List D} (hc : D.cls ds = true) {r : D} {ν : Sto} (e : F ds [] = .ok r ν) (hr : r.cl = true) : purF F ds μ = .ok r μ := by
  unfold purF
  rw [if_pos hc, e]
  unfold pureR
  dsimp only
  rw [if_pos hr]
theorem purF_exc {ds es : List D} {c : Str} (hc : D.cls ds = true) {ν : Sto} (e : F ds [] = .exc c es ν) (hr : D.cls es = true) : purF F ds μ = .exc c es μ := by
  unfold purF
  rw [if_pos hc, e]
  unfold pureR
  dsimp only
  rw [if_pos hr]
end
/-! loops over things that are not changed -/
section
variable {T : Tg} {body : Ex} {ρ : Env'} {μ : Sto} {d : D} {r ds acc : List D} {tt : Ev Bool} {f : Ev D}
theorem loopF_nil : loopF (ds, none) T body [] ρ μ = .nx ρ μ := if_pos trivial
def Out.turn (o : Out) (k : Env' → Sto → Out) : Out := match o with
  | .nx ρ μ => k ρ μ
  | .ct ρ μ => k ρ μ
  | .bk ρ μ => .nx ρ μ
  | o => o
theorem turn_congr1 {o o' : Out} {k} (h : o = o') : o.turn k = o'.turn k := by rw [h]
theorem turn_nx {k} : (Out.nx ρ μ).turn k = k ρ μ := rfl
theorem turn_ct {k} : (Out.ct ρ μ).turn k = k ρ μ := rfl
theorem turn_bk {k} : (Out.bk ρ μ).turn k = .nx ρ μ := rfl
theorem turn_rt {k} : (Out.rt d μ).turn k = .rt d μ := rfl
theorem turn_exc {c es k} : (Out.exc c es ρ μ).turn k = .exc c es ρ μ := rfl
theorem loopF_cons : loopF (ds, none) T body (d :: r) ρ μ = match T d ρ with
    | none => .bad
    | some ρ1 => (body ρ1 μ).turn fun ρ2 μ2 => loopF (ds, none) T body r ρ2 μ2 := by
  rw [loopF]
  rw [if_pos (show grd (ds, none) μ from trivial)]
  cases T d ρ with
  | none => rfl
  | some ρ1 =>
    simp only
    cases body ρ1 μ <;> rfl
def Out.turnT (o : Out) (k : Env' → Sto → Out) (_ : Tie k) : Out := o.turn k
theorem turnT_nx {k} {t : Tie k} : (Out.nx ρ μ).turnT k t = k ρ μ := rfl
theorem turnT_ct {k} {t : Tie k} : (Out.ct ρ μ).turnT k t = k ρ μ := rfl
theorem turnT_bk {k} {t : Tie k} : (Out.bk ρ μ).turnT k t = .nx ρ μ := rfl
theorem turnT_rt {k} {t : Tie k} : (Out.rt d μ).turnT k t = .rt d μ := rfl
theorem turnT_exc {c es k} {t : Tie k} : (Out.exc c es ρ μ).turnT k t = .exc c es ρ μ := rfl
theorem loopF_consT : loopF (ds, none) T body (d :: r) ρ μ = match T d ρ with
    | none => .bad
    | some ρ1 => (body ρ1 μ).turnT (fun ρ2 μ2 => loopF (ds, none) T body r ρ2 μ2) Tie.mk := loopF_cons
theorem nox_ok {α : Type} {a : α} : (Res.ok a μ).nox = .ok a μ := rfl
theorem nox_congr1 {α : Type} {r r' : Res α} (h : r = r') : r.nox = r'.nox := by rw [h]
theorem lcF_nil : lcF (ds, none) T tt f ρ [] μ acc = .ok acc μ := by rw [lcF]; exact if_pos trivial
theorem lcF_cons : lcF (ds, none) T tt f ρ (d :: r) μ acc = match T d ρ with
    | none => .bad
    | some ρ1 => (tt ρ1 μ).nox.bind fun b μ1 => if b then (f ρ1 μ1).nox.bind fun y μ2 => if acc.length < lim then lcF (ds, none) T tt f ρ r μ2 (acc ++ [y]) else .bad else lcF (ds, none) T tt f ρ r μ1 acc := by
  rw [lcF, if_pos (show grd (ds, none) μ from trivial)]
  all_goals rfl
/-- what leaves a loop -/
def Out.leaves (o : Out) : Prop := ∀ k, o.turn k = o
theorem leaves_rt {d : D} {μ : Sto} : (Out.rt d μ).leaves := fun _ => rfl
theorem leaves_exc {c : Str} {ds : List D} {ρ : Env'} {μ : Sto} : (Out.exc c ds ρ μ).leaves := fun _ => rfl
/-- a loop by its invariant: P k holds ahead of the k-th turn; a turn may leave with R -/
theorem loop_inv {α : Type} {T : Tg} (emb : α → D) (P : Nat → Env' → Sto → Prop) (R : Out → Prop) : ∀ (l : List α) (k : Nat) (ρ : Env') (μ : Sto), P k ρ μ →
    (∀ (j : Nat) a ρ μ, l[j]? = some a → P (k + j) ρ μ → ∃ ρ1, T (emb a) ρ = some ρ1 ∧ ((∃ ρ' μ', body ρ1 μ = .nx ρ' μ' ∧ P (k + j + 1) ρ' μ') ∨ ((body ρ1 μ).leaves ∧ R (body ρ1 μ)))) →
    (∃ ρ' μ', loopF (ds, none) T body (l.map emb) ρ μ = .nx ρ' μ' ∧ P (k + l.length) ρ' μ') ∨ R (loopF (ds, none) T body (l.map emb) ρ μ)
  | [], k, ρ, μ, h, _ => .inl ⟨ρ, μ, by rw [List.map_nil, loopF_nil], h⟩
  | a :: l, k, ρ, μ, h, hs => by
    obtain ⟨ρ1, e1, hb⟩ := hs 0 a ρ μ rfl h
    rw [List.map_cons, loopF_cons, e1]
    simp only
    rcases hb with ⟨ρ', μ', e2, h2⟩ | ⟨h2, h3⟩
    · rw [e2, turn_nx]
      have := loop_inv emb P R l (k + 1) ρ' μ' h2 (fun j a ρ μ hj hp => by
        have := hs (j + 1) a ρ μ (by simpa using hj) (by rw [show k + (j + 1) = k + 1 + j by omega]; exact hp)
        rwa [show k + (j + 1) = k + 1 + j by omega] at this)
      rwa [show k + (a :: l).length = k + 1 + l.length by simp; omega]
    · rw [h2]; exact .inr h3
theorem loop_inv0 {α : Type} {T : Tg} (emb : α → D) (P : Nat → Env' → Sto → Prop) (R : Out → Prop) (l : List α) (ρ : Env') (μ : Sto) (h : P 0 ρ μ)
    (hs : ∀ (j : Nat) a ρ μ, l[j]? = some a → P j ρ μ → ∃ ρ1, T (emb a) ρ = some ρ1 ∧ ((∃ ρ' μ', body ρ1 μ = .nx ρ' μ' ∧ P (j + 1) ρ' μ') ∨ ((body ρ1 μ).leaves ∧ R (body ρ1 μ)))) :
    (∃ ρ' μ', loopF (ds, none) T body (l.map emb) ρ μ = .nx ρ' μ' ∧ P l.length ρ' μ') ∨ R (loopF (ds, none) T body (l.map emb) ρ μ) := by
  have := loop_inv (ds := ds) (T := T) (body := body) emb P R l 0 ρ μ h (fun j a ρ μ hj hp => by
    rw [Nat.zero_add] at hp
    obtain ⟨ρ1, q1, q2⟩ := hs j a ρ μ hj hp
    exact ⟨ρ1, q1, by rw [Nat.zero_add]; exact q2⟩)
  rwa [Nat.zero_add] at this
/-- a comprehension that looks at its things alone -/
theorem lcF_map (c : D → Bool) (g : D → D) : ∀ (r : List D) (acc : List D), acc.length + r.length ≤ lim → (∀ d ∈ r, ∃ ρ1, T d ρ = some ρ1 ∧ tt ρ1 μ = .ok (c d) μ ∧ (c d = true → f ρ1 μ = .ok (g d) μ)) →
    lcF (ds, none) T tt f ρ r μ acc = .ok (acc ++ (r.filter c).map g) μ
  | [], acc, _, _ => by simp [lcF_nil]
  | d :: r, acc, hl, h => by
    obtain ⟨ρ1, e1, e2, e3⟩ := h d (by simp)
    simp only [List.length_cons] at hl
    rw [lcF_cons, e1]
    simp only [e2, nox_ok, bind_ok']
    cases hc : c d with
    | true =>
      rw [e3 hc]
      simp only [nox_ok, bind_ok', if_true]
      rw [if_pos (by omega), lcF_map c g r _ (by simp; omega) (fun d hd => h d (by simp [hd]))]
      simp [List.filter_cons, hc]
    | false =>
      simp only [Bool.false_eq_true, if_false]
      rw [lcF_map c g r _ (by omega) (fun d hd => h d (by simp [hd]))]
      simp [List.filter_cons, hc]
theorem lcF_of {α : Type} (emb : α → D) (c : α → Bool) (g : α → D) : ∀ (r : List α) (acc : List D), acc.length + r.length ≤ lim → (∀ a ∈ r, ∃ ρ1, T (emb a) ρ = some ρ1 ∧ tt ρ1 μ = .ok (c a) μ ∧ (c a = true → f ρ1 μ = .ok (g a) μ)) →
    lcF (ds, none) T tt f ρ (r.map emb) μ acc = .ok (acc ++ (r.filter c).map g) μ
  | [], acc, _, _ => by simp [lcF_nil]
  | d :: r, acc, hl, h => by
    obtain ⟨ρ1, e1, e2, e3⟩ := h d (by simp)
    simp only [List.length_cons] at hl
    rw [List.map_cons, lcF_cons, e1]
    simp only [e2, nox_ok, bind_ok']
    cases hc : c d with
    | true =>
      rw [e3 hc]
      simp only [nox_ok, bind_ok', if_true]
      rw [if_pos (by omega), lcF_of emb c g r _ (by simp; omega) (fun d hd => h d (by simp [hd]))]
      simp [List.filter_cons, hc]
    | false =>
      simp only [Bool.false_eq_true, if_false]
      rw [lcF_of emb c g r _ (by omega) (fun d hd => h d (by simp [hd]))]
      simp [List.filter_cons, hc]
def Out.of {α : Type} (o : Option α) (f : α → Out) (z : Out) : Out := match o with
  | some a => f a
  | none => z
theorem of_some {α : Type} {a : α} {f : α → Out} {z : Out} : Out.of (some a) f z = f a := rfl
theorem of_none {α : Type} {f : α → Out} {z : Out} : Out.of (none : Option α) f z = z := rfl
theorem of_congr1 {α : Type} {a b : Option α} {f : α → Out} {z : Out} (h : a = b) : Out.of a f z = Out.of b f z := by rw [h]
/-- a loop that looks at one thing after another, and leaves at the first of a kind -/
theorem loop_find {i : Nat} (bad : D → Bool) (out : D → Out) (hout : ∀ d k, (out d).turn k = out d) : ∀ (r : List D) (ρ : Env'), i < ρ.length → (∀ d ∈ r, body (ρ.set i (some d)) μ = if bad d then out d else .nx (ρ.set i (some d)) μ) →
    ∃ x, loopF (ds, none) (gN i) body r ρ μ = Out.of (r.find? bad) out (.nx (ρ.set i x) μ)
  | [], ρ, hi, _ => ⟨ρ[i], by simp [loopF_nil, of_none]⟩
  | d :: r, ρ, hi, h => by
    have h0 := h d (by simp)
    rw [loopF_cons]
    simp only [gN_ap, h0, List.find?_cons]
    cases hb : bad d with
    | true => exact ⟨none, by simp [hout, of_some]⟩
    | false =>
      obtain ⟨x, e⟩ := loop_find bad out hout r (ρ.set i (some d)) (by simpa using hi) (fun d' hd => by
        have := h d' (by simp [hd])
        simpa using this)
      refine ⟨x, ?_⟩
      simp only [Bool.false_eq_true, if_false, turn_nx, e]
      simp [List.set_set]
theorem loop_of {α : Type} {i : Nat} (emb : α → D) (bad : α → Bool) (out : α → Out) (hout : ∀ d k, (out d).turn k = out d) : ∀ (r : List α) (ρ : Env'), i < ρ.length → (∀ d ∈ r, body (ρ.set i (some (emb d))) μ = if bad d then out d else .nx (ρ.set i (some (emb d))) μ) →
    ∃ x, loopF (ds, none) (gN i) body (r.map emb) ρ μ = Out.of (r.find? bad) out (.nx (ρ.set i x) μ)
  | [], ρ, hi, _ => ⟨ρ[i], by simp [loopF_nil, of_none]⟩
  | d :: r, ρ, hi, h => by
    have h0 := h d (by simp)
    rw [List.map_cons, loopF_cons]
    simp only [gN_ap, h0, List.find?_cons]
    cases hb : bad d with
    | true => exact ⟨none, by simp [hout, of_some]⟩
    | false =>
      obtain ⟨x, e⟩ := loop_of emb bad out hout r (ρ.set i (some (emb d))) (by simpa using hi) (fun d' hd => by
        have := h d' (by simp [hd])
        simpa using this)
      refine ⟨x, ?_⟩
      simp only [Bool.false_eq_true, if_false, turn_nx, e]
      simp [List.set_set]
theorem zLc_ap {m src own} : zLc m src T tt f own ρ μ = (src ρ μ).bindT (fun p μ1 => (lcF p T tt f (wipeE ρ own) p.1 μ1 []).bindT (fun acc μ2 => mkL m acc μ2) Tie.mk) Tie.mk := rfl
theorem wipeE_nil : wipeE ρ [] = ρ := rfl
theorem wipeE_cons {v vs} : wipeE ρ (v :: vs) = (wipeE ρ vs).set v none := rfl
end
end Z

/-! the operators on known data -/
namespace Z
open PySem L2
section
variable {μ : Sto} {i j : Int} {b c : Bool} {x y : Str} {ds es ks vs : List D} {d : D} {n : Str}
theorem le_ii : cmpO .le (.int i) (.int j) μ = .ok (.bl (decide (i ≤ j))) μ := rfl
theorem lt_ii : cmpO .lt (.int i) (.int j) μ = .ok (.bl (decide (i < j))) μ := rfl
theorem ge_ii : cmpO .ge (.int i) (.int j) μ = .ok (.bl (decide (j ≤ i))) μ := rfl
theorem gt_ii : cmpO .gt (.int i) (.int j) μ = .ok (.bl (decide (j < i))) μ := rfl
theorem isN_ap : cmpO .isN d .non μ = .ok (.bl d.isNon) μ := rfl
theorem notN_ap : cmpO .notN d .non μ = .ok (.bl (!d.isNon)) μ := rfl
theorem isB_ap : cmpO .isB (.bl b) (.bl c) μ = .ok (.bl (b == c)) μ := rfl
theorem notB_ap : cmpO .notB (.bl b) (.bl c) μ = .ok (.bl (!(b == c))) μ := rfl
theorem eq_ap {e : D} : cmpO .eq d e μ = bO (eqO d e μ) μ := rfl
theorem ne_ap {e : D} : cmpO .ne d e μ = bO ((eqO d e μ).map (!·)) μ := rfl
theorem in_ap {e : D} : cmpO .inn d e μ = bO (inO d e μ) μ := rfl
theorem nin_ap {e : D} : cmpO .nin d e μ = bO ((inO d e μ).map (!·)) μ := rfl
theorem eqO_int : eqO (.int i) (.int j) μ = some (i == j) := by simp [eqO, resL, D.depth, eqD]
theorem eqO_str : eqO (.str x) (.str y) μ = some (x == y) := by simp [eqO, resL, D.depth, eqD]
theorem eqO_bl : eqO (.bl b) (.bl c) μ = some (b == c) := by simp [eqO, resL, D.depth, eqD]
theorem isNon_non : D.isNon .non = true := rfl
theorem isNon_bl : D.isNon (.bl b) = false := rfl
theorem isNon_int : D.isNon (.int i) = false := rfl
theorem isNon_str : D.isNon (.str x) = false := rfl
theorem isNon_tup : D.isNon (.tup ds) = false := rfl
theorem isNon_lst : D.isNon (.lst ds) = false := rfl
theorem isNon_dct : D.isNon (.dct ks vs) = false := rfl
theorem isNon_ins : D.isNon (.ins n ds) = false := rfl
theorem truO_non : truO .non μ = some false := rfl
theorem truO_bl : truO (.bl b) μ = some b := rfl
theorem truO_int : truO (.int i) μ = some (i != 0) := rfl
theorem truO_tup : truO (.tup ds) μ = some (!ds.isEmpty) := rfl
theorem truO_lst : truO (.lst ds) μ = some (!ds.isEmpty) := rfl
theorem truO_dct : truO (.dct ks vs) μ = some (!ks.isEmpty) := rfl
theorem asL_lst : asL μ (.lst ds) = some ds := rfl
theorem asL_dct : asL μ (.dct ks vs) = none := rfl
theorem asL_tup : asL μ (.tup ds) = none := rfl
theorem asL_str : asL μ (.str x) = none := rfl
theorem asL_int : asL μ (.int i) = none := rfl
theorem asL_bl : asL μ (.bl b) = none := rfl
theorem asL_non : asL μ .non = none := rfl
theorem asL_ins : asL μ (.ins n ds) = none := rfl
theorem asD_dct : asD μ (.dct ks vs) = some (ks, vs) := rfl
theorem asD_lst : asD μ (.lst ds) = none := rfl
theorem asT_tup : asT (.tup ds) = some ds := rfl
theorem asT_lst : asT (.lst ds) = none := rfl
theorem asT_dct : asT (.dct ks vs) = none := rfl
theorem lenO_tup : lenO (.tup ds) μ = some ds.length := rfl
theorem lenO_lst : lenO (.lst ds) μ = some ds.length := rfl
theorem lenO_dct : lenO (.dct ks vs) μ = some ks.length := rfl
theorem lenO_str (h : x.length ≤ lim) : lenO (.str x) μ = some x.length := if_pos h
theorem lenB_ap : lenB [d] μ = okO ((lenO d μ).map fun n : Nat => D.int (n : Int)) μ := rfl
theorem allB_ap : allB [d] μ = okO (((asL μ d).bind D.bls).map fun bs => .bl (bs.all id)) μ := rfl
theorem anyB_ap : anyB [d] μ = okO (((asL μ d).bind D.bls).map fun bs => .bl (bs.any id)) μ := rfl
theorem sumB_ap : sumB [d] μ = okO (((asL μ d).bind D.ints).map fun ns => .int ns.sum) μ := rfl
theorem max2B_ap : max2B [.int i, .int j] μ = .ok (.int (if j > i then j else i)) μ := rfl
theorem intB_int : intB [.int i] μ = .ok (.int i) μ := rfl
theorem listB_tup {m} : listB m [.tup ds] μ = mkL m ds μ := rfl
theorem listB_lst {m} : listB m [.lst ds] μ = mkL m ds μ := rfl
theorem listB_dct {m} : listB m [.dct ks vs] μ = mkL m ks μ := rfl
theorem tupB_tup : tupB [.tup ds] μ = .ok (.tup ds) μ := rfl
theorem tupB_lst : tupB [.lst ds] μ = .ok (.tup ds) μ := rfl
theorem srcO_tup : srcO (.tup ds) μ = some (ds, none) := rfl
theorem srcO_lst : srcO (.lst ds) μ = some (ds, none) := rfl
theorem srcO_dct : srcO (.dct ks vs) μ = some (ks, none) := rfl
theorem srcO_str : srcO (.str x) μ = some (x.cps.toList.map fun c => .str ⟨#[c]⟩, none) := rfl
theorem itemO_tup : itemO (.tup ds) (.int i) μ = atI ds i := rfl
theorem itemO_lst : itemO (.lst ds) (.int i) μ = atI ds i := rfl
theorem itemO_dct : itemO (.dct ks vs) d μ = match d.kk with
  | some k => D.look ks vs k
  | none => none := by
  have e : itemO (.dct ks vs) d μ = match asD μ (.dct ks vs), d.kk with
      | some (ks, vs), some k => D.look ks vs k
      | _, _ => none := by cases d <;> rfl
  rw [e]
  cases d.kk <;> rfl
theorem add_ii : addO (.int i) (.int j) μ = .ok (.int (i + j)) μ := rfl
theorem sub_ii : subO (.int i) (.int j) μ = .ok (.int (i - j)) μ := rfl
theorem neg_i : negO (.int i) μ = .ok (.int (-i)) μ := rfl
theorem mul_ii (h : (-(2 ^ 64) < i ∧ i < 2 ^ 64) ∨ (-(2 ^ 64) < j ∧ j < 2 ^ 64)) : mulO (.int i) (.int j) μ = .ok (.int (i * j)) μ := if_pos h
theorem div_ii (h : j ≠ 0 ∧ j.natAbs < 1073741824) : divO (.int i) (.int j) μ = .ok (.int (i.fdiv j)) μ := if_pos h
theorem mod_ii (h : j ≠ 0) : modO (.int i) (.int j) μ = .ok (.int (i.fmod j)) μ := if_pos h
theorem add_lst : addO (.lst ds) (.lst es) μ = if ds.length + es.length ≤ lim then .ok (.lst (ds ++ es)) μ else .bad := rfl
theorem isiO_ap {f : Tag → Bool} : isiO f d μ = match tagO d μ with
  | some t => .ok (.bl (f t)) μ
  | none => .bad := rfl
theorem tagO_non : tagO .non μ = some (.b "NoneType") := rfl
theorem tagO_bl : tagO (.bl b) μ = some (.b "bool") := rfl
theorem tagO_int : tagO (.int i) μ = some (.b "int") := rfl
theorem tagO_str : tagO (.str x) μ = some (.b "str") := rfl
theorem tagO_tup : tagO (.tup ds) μ = some (.b "tuple") := rfl
theorem tagO_lst : tagO (.lst ds) μ = some (.b "list") := rfl
theorem tagO_dct : tagO (.dct ks vs) μ = some (.b "dict") := rfl
theorem tagO_ins : tagO (.ins n ds) μ = some (.c n) := rfl
theorem isB_b {T a : String} : isB T (.b a) = (a == T || (a == "bool" && T == "int")) := rfl
theorem isB_c {T : String} {c : Str} : isB T (.c c) = false := rfl
theorem isC_b {T : Str} {a : String} : isC T (.b a) = false := rfl
theorem isC_c {T c : Str} : isC T (.c c) = (c == T) := rfl
theorem kk_non : D.kk .non = some .none := rfl
theorem kk_int : D.kk (.int i) = some (.num i) := rfl
theorem kk_str : D.kk (.str x) = some (.text x) := rfl
theorem kk_bl : D.kk (.bl b) = some (.num (if b then 1 else 0)) := rfl
theorem kks_nil : D.kks [] = some [] := rfl
theorem kks_cons : D.kks (d :: ds) = match d.kk, D.kks ds with
    | some k, some ks => some (k :: ks)
    | _, _ => none := rfl
theorem kks_strs : ∀ xs : List Str, D.kks (xs.map D.str) = some (xs.map .text)
  | [] => rfl
  | x :: xs => by simp [kks_cons, kks_strs xs, kk_str]
theorem bls_map {α : Type} (g : α → Bool) : ∀ l : List α, D.bls (l.map fun a => D.bl (g a)) = some (l.map g)
  | [] => rfl
  | a :: l => by simp [D.bls, bls_map g l]
theorem strs_map : ∀ xs : List Str, D.strs (xs.map D.str) = some xs
  | [] => rfl
  | x :: xs => by simp [D.strs, strs_map xs]
theorem ints_map : ∀ xs : List Int, D.ints (xs.map D.int) = some xs
  | [] => rfl
  | x :: xs => by simp [D.ints, ints_map xs]
theorem rng1_nat {n : Nat} (h : n ≤ 1000000) : rng1O [.int (n : Int)] = some ((List.range n).map fun i : Nat => D.int i, none) := by
  have e : rng1O [.int (n : Int)] = if -(2 ^ 62) ≤ (n : Int) ∧ (n : Int) < 2 ^ 62 then some ((List.range (n : Int).toNat).map fun i : Nat => D.int i, none) else none := rfl
  rw [e, if_pos (by omega), Int.toNat_natCast]
theorem rng1_int {j : Int} (h0 : 0 ≤ j) (h : j ≤ 1000000) : rng1O [.int j] = some ((List.range j.toNat).map fun i : Nat => D.int i, none) := by
  have e : rng1O [.int j] = if -(2 ^ 62) ≤ j ∧ j < 2 ^ 62 then some ((List.range j.toNat).map fun i : Nat => D.int i, none) else none := rfl
  rw [e, if_pos (by omega)]
theorem atI_nat {α : Type} {xs : List α} {n : Nat} : L2.atI xs (n : Int) = xs[n]? := by
  unfold L2.atI L2.ixN
  rw [if_pos (by omega)]
  by_cases h : n < xs.length
  · rw [if_pos (by omega)]; simp
  · rw [if_neg (by omega)]; simp; omega
theorem atI_of {α : Type} {xs : List α} {i : Int} (h0 : 0 ≤ i) : L2.atI xs i = xs[i.toNat]? := by
  obtain ⟨n, rfl⟩ := Int.eq_ofNat_of_zero_le h0
  rw [atI_nat]; simp
theorem atI_0 {α : Type} {xs : List α} : L2.atI xs 0 = xs[0]? := atI_nat (n := 0)
theorem atI_1 {α : Type} {xs : List α} : L2.atI xs 1 = xs[1]? := atI_nat (n := 1)
theorem atI_2 {α : Type} {xs : List α} : L2.atI xs 2 = xs[2]? := atI_nat (n := 2)
theorem atI_3 {α : Type} {xs : List α} : L2.atI xs 3 = xs[3]? := atI_nat (n := 3)
theorem atI_m1 {α : Type} {xs : List α} : L2.atI xs (-1) = xs.getLast? := by
  unfold L2.atI L2.ixN
  rw [if_neg (by omega)]
  cases xs with
  | nil => rfl
  | cons a l =>
    rw [if_pos (by simp; omega), List.getLast?_eq_getElem?]
    have : (-1 + ((a :: l).length : Int)).toNat = (a :: l).length - 1 := by omega
    rw [Option.bind_some, this]
/-- one text in a row of texts -/
theorem in_strs {a : Str} {xs : List Str} : inO (.str a) (.lst (xs.map D.str)) μ = some (decide (a ∈ xs)) := by
  have e : inO (.str a) (.lst (xs.map D.str)) μ = (D.kks (xs.map D.str)).map fun ks => ks.any fun k => decide (k = .text a) := rfl
  rw [e, kks_strs, Option.map_some]
  congr 1
  rw [List.any_map, Bool.eq_iff_iff, List.any_eq_true, decide_eq_true_iff]
  constructor
  · rintro ⟨k, h1, h2⟩
    have := of_decide_eq_true h2
    injection this with this
    rw [← this]; exact h1
  · intro h
    exact ⟨a, h, decide_eq_true rfl⟩
theorem in_strsT {a : Str} {xs : List Str} : inO (.str a) (.tup (xs.map D.str)) μ = some (decide (a ∈ xs)) := by
  have e : inO (.str a) (.tup (xs.map D.str)) μ = (D.kks (xs.map D.str)).map fun ks => ks.any fun k => decide (k = .text a) := rfl
  rw [e, kks_strs, Option.map_some]
  congr 1
  rw [List.any_map, Bool.eq_iff_iff, List.any_eq_true, decide_eq_true_iff]
  constructor
  · rintro ⟨k, h1, h2⟩
    have := of_decide_eq_true h2
    injection this with this
    rw [← this]; exact h1
  · intro h
    exact ⟨a, h, decide_eq_true rfl⟩
theorem in_2 {a b c : Str} : inO (.str a) (.tup [.str b, .str c]) μ = some (decide (a = b) || decide (a = c)) := by
  have e := in_strsT (μ := μ) (a := a) (xs := [b, c])
  simp only [List.map_cons, List.map_nil] at e
  rw [e]
  simp [List.mem_cons]
theorem in_sign {c : Nat} : inO (.str ⟨#[c]⟩) (.str y) μ = some (decide (c ∈ y.cps.toList)) := rfl
theorem in_dct {k : NK} (h : d.kk = some k) : inO d (.dct ks vs) μ = some (D.look ks vs k).isSome := by
  have e : inO d (.dct ks vs) μ = match d.kk with
    | none => none
    | some k => some (D.look ks vs k).isSome := rfl
  rw [e, h]
end
end Z

/-! things that stand in the store -/
namespace Z
open PySem
section
variable {μ : Sto} {i : Nat} {k : Int} {ds es ks vs : List D} {d c : D} {b : Bool}
theorem asL_hd : asL μ (.hd i) = match μ[i]? with
  | some (some (.lst ds)) => some ds
  | _ => none := by
  have e : asL μ (.hd i) = match (match μ[i]? with
      | some (some (.lst ds)) => D.lst ds
      | some (some (.dct ks vs)) => D.dct ks vs
      | _ => D.hd i) with
    | .lst ds => some ds
    | _ => none := rfl
  rw [e]
  rcases μ[i]? with _ | _ | m
  · rfl
  · rfl
  · cases m <;> rfl
theorem asD_hd : asD μ (.hd i) = match μ[i]? with
  | some (some (.dct ks vs)) => some (ks, vs)
  | _ => none := by
  have e : asD μ (.hd i) = match (match μ[i]? with
      | some (some (.lst ds)) => D.lst ds
      | some (some (.dct ks vs)) => D.dct ks vs
      | _ => D.hd i) with
    | .dct ks vs => some (ks, vs)
    | _ => none := rfl
  rw [e]
  rcases μ[i]? with _ | _ | m
  · rfl
  · rfl
  · cases m <;> rfl
theorem itemO_hd : itemO (.hd i) (.int k) μ = match μ[i]? with
  | some (some (.lst ds)) => L2.atI ds k
  | some (some (.dct ks vs)) => D.look ks vs (.num k)
  | _ => none := by
  have e : itemO (.hd i) (.int k) μ = match asL μ (.hd i) with
    | some ds => L2.atI ds k
    | none => match asD μ (.hd i) with
      | some (ks, vs) => D.look ks vs (.num k)
      | none => none := by
    have e1 : itemO (.hd i) (.int k) μ = match asL μ (.hd i) with
      | some ds => L2.atI ds k
      | none => match asD μ (.hd i), D.kk (.int k) with
        | some (ks, vs), some k => D.look ks vs k
        | _, _ => none := rfl
    rw [e1, kk_int]
    cases asL μ (.hd i) with
    | some _ => rfl
    | none => cases asD μ (.hd i) <;> rfl
  rw [e, asL_hd, asD_hd]
  rcases μ[i]? with _ | _ | m
  · rfl
  · rfl
  · cases m <;> rfl
theorem itemO_hdD {x : D} {n : NK} (h : μ[i]? = some (some (.dct ks vs))) (hk : x.kk = some n) : itemO (.hd i) x μ = D.look ks vs n := by
  have e1 : asL μ (.hd i) = none := by rw [asL_hd, h]
  have e2 : asD μ (.hd i) = some (ks, vs) := by rw [asD_hd, h]
  have e : itemO (.hd i) x μ = match asL μ (.hd i) with
      | some ds => (match x with
        | .int i => L2.atI ds i
        | _ => none)
      | none => match asD μ (.hd i), D.kk x with
        | some (ks, vs), some k => D.look ks vs k
        | _, _ => none := by
    cases x <;> rfl
  rw [e, e1, e2, hk]
theorem lenO_hd : lenO (.hd i) μ = match μ[i]? with
  | some (some (.lst ds)) => some ds.length
  | some (some (.dct ks vs)) => some ks.length
  | _ => none := by
  have e : lenO (.hd i) μ = match asL μ (.hd i) with
    | some ds => some ds.length
    | none => match asD μ (.hd i) with
      | some (ks, _) => some ks.length
      | none => none := rfl
  rw [e, asL_hd, asD_hd]
  rcases μ[i]? with _ | _ | m
  · rfl
  · rfl
  · cases m <;> rfl
theorem add_hl : addO (.hd i) (.lst es) μ = match asL μ (.hd i) with
  | some x => if x.length + es.length ≤ lim then .ok (.lst (x ++ es)) μ else .bad
  | none => .bad := by
  have e : addO (.hd i) (.lst es) μ = match asL μ (.hd i), asL μ (.lst es) with
    | some x, some y => if x.length + y.length ≤ lim then .ok (.lst (x ++ y)) μ else .bad
    | _, _ => .bad := rfl
  rw [e, asL_lst]
  cases asL μ (.hd i) <;> rfl
theorem setO_hd : setO (.hd i) d c μ = match μ[i]? with
    | some (some (.lst ds)) => (match d with
      | .int k => (match L2.ixN ds.length k with
        | some j => some (μ.set i (some (.lst (ds.set j c))))
        | none => none)
      | _ => none)
    | some (some (.dct ks vs)) => (match d.kk with
      | some k => (match D.ixOf ks k with
        | some j => some (μ.set i (some (.dct ks (vs.set j c))))
        | none => if ks.length < lim then some (μ.set i (some (.dct (ks ++ [d]) (vs ++ [c])))) else none)
      | none => none)
    | _ => none := rfl
theorem ixN_in {n j : Nat} (h : j < n) : L2.ixN n (j : Int) = some j := by
  unfold L2.ixN
  rw [if_pos (by omega), if_pos (by omega)]; simp
theorem ixN_int {n : Nat} {k : Int} (h0 : 0 ≤ k) (h : k < n) : L2.ixN n k = some k.toNat := by
  unfold L2.ixN
  rw [if_pos h0, if_pos h]
theorem ixN_0 {n : Nat} : L2.ixN (n + 1) 0 = some 0 := ixN_in (j := 0) (by omega)
theorem ixN_1 {n : Nat} : L2.ixN (n + 1 + 1) 1 = some 1 := ixN_in (j := 1) (by omega)
theorem ixN_2 {n : Nat} : L2.ixN (n + 1 + 1 + 1) 2 = some 2 := ixN_in (j := 2) (by omega)
theorem ixN_40 : L2.ixN 4 0 = some 0 := rfl
theorem ixN_41 : L2.ixN 4 1 = some 1 := rfl
theorem ixN_42 : L2.ixN 4 2 = some 2 := rfl
end
theorem zMakeP_ap {cls : Str → Option CI} {c : Str} {n : Nat} {F : Fn} {ar : List D → List D} {fs gs : Ev (List D)} {ρ : Env'} {μ : Sto} : zMakeP cls c n F ar fs gs ρ μ = (fs ρ μ).bindT (fun ds μ1 => (gs ρ μ1).bindT (fun es μ2 => mkP cls c n F ar (ds ++ es) μ2) Tie.mk) Tie.mk := rfl
def Out.tried (o : Out) (m : Str → Option Bool) (i : Option Nat) (h : Str → List D → Ex) : Out := match o with
  | .exc c ds ρ1 μ1 => match m c with
    | some true => if inI i ρ1 then clearI i (h c ds (setI i ρ1) μ1) else .bad
    | some false => .exc c ds ρ1 μ1
    | none => .bad
  | o => o
theorem tried_congr1 {o o' : Out} {m i h} (e : o = o') : o.tried m i h = o'.tried m i h := by rw [e]
section
variable {ρ : Env'} {μ : Sto} {m : Str → Option Bool} {i : Option Nat} {n : Nat} {h : Str → List D → Ex} {body : Ex} {c c0 : Str} {ds : List D} {d : D}
theorem sTry_ap : sTry m i body h ρ μ = (body ρ μ).tried m i h := rfl
theorem tried_nx : (Out.nx ρ μ).tried m i h = .nx ρ μ := rfl
theorem tried_rt : (Out.rt d μ).tried m i h = .rt d μ := rfl
theorem tried_exc : (Out.exc c ds ρ μ).tried m i h = match m c with
    | some true => if inI i ρ then clearI i (h c ds (setI i ρ) μ) else .bad
    | some false => .exc c ds ρ μ
    | none => .bad := rfl
theorem inI_some : inI (some n) ρ = decide (n < ρ.length) := rfl
theorem inI_none : inI none ρ = true := rfl
theorem setI_some : setI (some n) ρ = ρ.set n none := rfl
theorem setI_none : setI none ρ = ρ := rfl
theorem clearI_nx : clearI (some n) (.nx ρ μ) = .nx (ρ.set n none) μ := rfl
theorem clearI_rt : clearI (some n) (.rt d μ) = .rt d μ := rfl
theorem clearI_none {o : Out} : clearI none o = o := rfl
theorem clearI_congr1 {o o' : Out} (e : o = o') : clearI i o = clearI i o' := by rw [e]
theorem noX_nx : noX (.nx ρ μ) = .nx ρ μ := rfl
theorem noX_rt : noX (.rt d μ) = .rt d μ := rfl
theorem zXA_ap {j : Nat} : zXA c0 j c ds ρ μ = if c = c0 then (match ds[j]? with | some d => .ok d μ | none => .bad) else .bad := rfl
theorem zXIs_ap {b : Bool} : zXIs c0 b c ds ρ μ = if c = c0 then .ok b μ else .bad := rfl
end
/-! stores without handles within -/
def Node.clN : Node → Bool
  | .lst ds => D.cls ds
  | .dct ks vs => D.cls ks && D.cls vs
  | .ins _ fs => D.cls (fs.map (·.2))
def clN (μ : Sto) : Bool := μ.all fun o => match o with
  | some m => m.clN
  | none => true
mutual
theorem D.cl_hb {n : Nat} : ∀ d : D, d.cl = true → d.hb n = true
  | .non, _ => rfl | .bl _, _ => rfl | .int _, _ => rfl | .str _, _ => rfl
  | .tup ds, h => D.cls_hbs ds h
  | .lst ds, h => D.cls_hbs ds h
  | .set ds, h => D.cls_hbs ds h
  | .dct ks vs, h => by
    simp only [D.cl, Bool.and_eq_true] at h
    simp only [D.hb, Bool.and_eq_true]
    exact ⟨D.cls_hbs ks h.1, D.cls_hbs vs h.2⟩
  | .ins _ ds, h => D.cls_hbs ds h
  | .hd _, h => by cases h
theorem D.cls_hbs {n : Nat} : ∀ ds : List D, D.cls ds = true → D.hbs n ds = true
  | [], _ => rfl
  | d :: ds, h => by
    simp only [D.cls, Bool.and_eq_true] at h
    simp only [D.hbs, Bool.and_eq_true]
    exact ⟨D.cl_hb d h.1, D.cls_hbs ds h.2⟩
end
theorem Node.cl_hb {n : Nat} {m : Node} (h : m.clN = true) : m.hb n = true := by
  cases m with
  | lst ds => exact D.cls_hbs ds h
  | dct ks vs =>
    simp only [Node.clN, Bool.and_eq_true] at h
    simp only [Node.hb, Bool.and_eq_true]
    exact ⟨D.cls_hbs ks h.1, D.cls_hbs vs h.2⟩
  | ins c fs => exact D.cls_hbs _ h
theorem cls_ints (kn : List Int) : D.cls (kn.map D.int) = true := by induction kn with
    | nil => rfl
    | cons a l ih => simpa [D.cls, D.cl] using ih
/-! ### the source of draws -/
structure St where
  cells : List Int
  s : Int
  i : Int
  hl : cells.length ≤ 63
def St.sto (t : St) : Sto := [some (.lst (t.cells.map .int)), some (.lst [.int t.s, .hd 0, .int t.i, .int 14])]
theorem sto_hb (t : St) {ν : Sto} (h : clN ν = true) : stoB (2 + ν.length) (t.sto ++ ν) = true := by
  unfold stoB
  rw [List.take_of_length_le (by simp [St.sto]; omega)]
  unfold St.sto
  simp only [List.cons_append, List.nil_append, List.all_cons, Bool.and_eq_true]
  refine ⟨D.cls_hbs _ (cls_ints _), ?_, ?_⟩
  · simp [Node.hb, D.hbs, D.hb]
    omega
  · rw [List.all_eq_true]
    intro o ho
    have := List.all_eq_true.mp h o ho
    cases o with
    | none => rfl
    | some m => exact Node.cl_hb this
theorem trim_next {t t' : St} {ν : Sto} {r : D} (h : clN ν = true) (hr : r.cl = true) {F : Fn} {ds : List D} (e : F ds (t.sto ++ ν) = .ok r (t'.sto ++ ν)) : trimF F ds (t.sto ++ ν) = .ok r (t'.sto ++ ν) := by
  unfold trimF trimR
  rw [e]
  have hn : (t.sto ++ ν).length = 2 + ν.length := by simp [St.sto]; omega
  simp only
  rw [hn, if_pos (by rw [Bool.and_eq_true]; exact ⟨D.cl_hb _ hr, sto_hb t' h⟩), List.take_of_length_le (by simp [St.sto]; omega)]
/-- behind a call that made things of its own -/
theorem trim_more {t t' : St} {ν κ : Sto} {r : D} (h : clN ν = true) (hr : r.cl = true) {F : Fn} {ds : List D} (e : F ds (t.sto ++ ν) = .ok r (t'.sto ++ (ν ++ κ))) : trimF F ds (t.sto ++ ν) = .ok r (t'.sto ++ ν) := by
  unfold trimF trimR
  rw [e]
  have hn : (t.sto ++ ν).length = 2 + ν.length := by simp [St.sto]; omega
  have ht : (t'.sto ++ (ν ++ κ)).take (2 + ν.length) = t'.sto ++ ν := by
    rw [← List.append_assoc, List.take_left']
    simp [St.sto]; omega
  have hb : stoB (2 + ν.length) (t'.sto ++ (ν ++ κ)) = true := by
    have := sto_hb t' h
    unfold stoB at this ⊢
    rw [ht]
    rw [List.take_of_length_le (by simp [St.sto]; omega)] at this
    exact this
  simp only
  rw [hn, if_pos (by rw [Bool.and_eq_true]; exact ⟨D.cl_hb _ hr, hb⟩), ht]
end Z

namespace Z
open PySem
local macro_rules | `(tactic| simp! only [$ls,*]) => `(tactic| simp -dsimp -implicitDefEqProofs only [seval, sv_and_true, sv_true_and, sv_and_false, sv_false_and, sv_or_true, sv_true_or, sv_or_false, sv_false_or, sv_not_true, sv_not_false, sv_ft, sv_tf, sv_eqs, sv_bnt, sv_bnf, sv_bat, sv_bta, sv_baf, sv_bfa, sv_bot, sv_bto, sv_bof, sv_bfo, sv_dtr, sv_dfa, sv_dec, sv_ndec, sv_nb, sv_map_nil, sv_map_cons, sv_len_nil, sv_len_cons, sv_app_nil, sv_app_cons, sv_app_nil', sv_set_z, sv_set_s, sv_get_z, sv_get_s, sv_get_n, sv_rep_z, sv_rep_s, sv_rev_nil, sv_rev_1, sv_rev_2, sv_omap_s, sv_omap_n, sv_obind_s, sv_obind_n, sv_isEmpty_n, sv_isEmpty_c, sv_beq, lim_eq, bindT_ok, bindT_exc, outT_ok, outT_exc, bind_ok', bind_exc', out_ok, out_exc, then_nx, then_rt, then_bk, then_ct, then_exc, zVar_ap, zC_ap, zBin_ap, zUn_ap, zTru_ap, zChain_ap, zNotT_ap, zAndT_ap, zOrT_ap, zNot_ap, zAnd_ap, zOr_ap, zIf_ap, zNil_ap, zCons_ap, zTup_ap, zLst_ap, mkL_f, mkL_t, mkD_f, mkD_t, zCall_ap, zB_ap, zIx_ap, okO_some, bT_some', bO_some', zSrc_ap, zVals_ap, zItems_ap, zRng1_ap, zRng2_ap, zYes_ap, zD0_ap, zPart_ap, zNoPart_ap, zSl_ap, zRev_ap, zFrz_ap, zAttr_ap, sPass_ap, sBreak_ap, sCont_ap, sSeq_ap, sExp_ap, sRet_ap, sRetN_ap, sIf_ap, sAsg_ap, outO_some, gN_ap, gT_ap, gTs_nil, gTs_cons, sFor_ap, sSet_ap, outM_some, sRaise_ap, sAttr_ap, res_nx, res_rt, res_exc, loopF_nil, turn_nx, turn_ct, turn_bk, turn_rt, turn_exc, turnT_nx, turnT_ct, turnT_bk, turnT_rt, turnT_exc, nox_ok, lcF_nil, of_some, of_none, zLc_ap, wipeE_nil, wipeE_cons, le_ii, lt_ii, ge_ii, gt_ii, isN_ap, notN_ap, isB_ap, notB_ap, eq_ap, ne_ap, in_ap, nin_ap, eqO_int, eqO_str, eqO_bl, isNon_non, isNon_bl, isNon_int, isNon_str, isNon_tup, isNon_lst, isNon_dct, isNon_ins, truO_non, truO_bl, truO_int, truO_tup, truO_lst, truO_dct, asL_lst, asL_dct, asL_tup, asL_str, asL_int, asL_bl, asL_non, asL_ins, asD_dct, asD_lst, asT_tup, asT_lst, asT_dct, lenO_tup, lenO_lst, lenO_dct, lenB_ap, allB_ap, anyB_ap, sumB_ap, max2B_ap, intB_int, listB_tup, listB_lst, listB_dct, tupB_tup, tupB_lst, srcO_tup, srcO_lst, srcO_dct, srcO_str, itemO_tup, itemO_lst, itemO_dct, add_ii, sub_ii, neg_i, add_lst, isiO_ap, tagO_non, tagO_bl, tagO_int, tagO_str, tagO_tup, tagO_lst, tagO_dct, tagO_ins, isB_b, isB_c, isC_b, isC_c, kk_non, kk_int, kk_str, kk_bl, kks_nil, atI_0, atI_1, atI_2, atI_3, in_strs, in_strsT, in_2, in_sign, asL_hd, asD_hd, itemO_hd, lenO_hd, add_hl, setO_hd, ixN_0, ixN_1, ixN_2, ixN_40, ixN_41, ixN_42, zMakeP_ap, sTry_ap, tried_nx, tried_rt, tried_exc, inI_some, inI_none, setI_some, setI_none, clearI_nx, clearI_rt, clearI_none, noX_nx, noX_rt, zXA_ap, zXIs_ap, $ls,*])
local macro_rules | `(tactic| simp! only) => `(tactic| simp -implicitDefEqProofs only [seval, sv_and_true, sv_true_and, sv_and_false, sv_false_and, sv_or_true, sv_true_or, sv_or_false, sv_false_or, sv_not_true, sv_not_false, sv_ft, sv_tf, sv_eqs, sv_bnt, sv_bnf, sv_bat, sv_bta, sv_baf, sv_bfa, sv_bot, sv_bto, sv_bof, sv_bfo, sv_dtr, sv_dfa, sv_dec, sv_ndec, sv_nb, sv_map_nil, sv_map_cons, sv_len_nil, sv_len_cons, sv_app_nil, sv_app_cons, sv_app_nil', sv_set_z, sv_set_s, sv_get_z, sv_get_s, sv_get_n, sv_rep_z, sv_rep_s, sv_rev_nil, sv_rev_1, sv_rev_2, sv_omap_s, sv_omap_n, sv_obind_s, sv_obind_n, sv_isEmpty_n, sv_isEmpty_c, sv_beq, lim_eq, bindT_ok, bindT_exc, outT_ok, outT_exc, bind_ok', bind_exc', out_ok, out_exc, then_nx, then_rt, then_bk, then_ct, then_exc, zVar_ap, zC_ap, zBin_ap, zUn_ap, zTru_ap, zChain_ap, zNotT_ap, zAndT_ap, zOrT_ap, zNot_ap, zAnd_ap, zOr_ap, zIf_ap, zNil_ap, zCons_ap, zTup_ap, zLst_ap, mkL_f, mkL_t, mkD_f, mkD_t, zCall_ap, zB_ap, zIx_ap, okO_some, bT_some', bO_some', zSrc_ap, zVals_ap, zItems_ap, zRng1_ap, zRng2_ap, zYes_ap, zD0_ap, zPart_ap, zNoPart_ap, zSl_ap, zRev_ap, zFrz_ap, zAttr_ap, sPass_ap, sBreak_ap, sCont_ap, sSeq_ap, sExp_ap, sRet_ap, sRetN_ap, sIf_ap, sAsg_ap, outO_some, gN_ap, gT_ap, gTs_nil, gTs_cons, sFor_ap, sSet_ap, outM_some, sRaise_ap, sAttr_ap, res_nx, res_rt, res_exc, loopF_nil, turn_nx, turn_ct, turn_bk, turn_rt, turn_exc, turnT_nx, turnT_ct, turnT_bk, turnT_rt, turnT_exc, nox_ok, lcF_nil, of_some, of_none, zLc_ap, wipeE_nil, wipeE_cons, le_ii, lt_ii, ge_ii, gt_ii, isN_ap, notN_ap, isB_ap, notB_ap, eq_ap, ne_ap, in_ap, nin_ap, eqO_int, eqO_str, eqO_bl, isNon_non, isNon_bl, isNon_int, isNon_str, isNon_tup, isNon_lst, isNon_dct, isNon_ins, truO_non, truO_bl, truO_int, truO_tup, truO_lst, truO_dct, asL_lst, asL_dct, asL_tup, asL_str, asL_int, asL_bl, asL_non, asL_ins, asD_dct, asD_lst, asT_tup, asT_lst, asT_dct, lenO_tup, lenO_lst, lenO_dct, lenB_ap, allB_ap, anyB_ap, sumB_ap, max2B_ap, intB_int, listB_tup, listB_lst, listB_dct, tupB_tup, tupB_lst, srcO_tup, srcO_lst, srcO_dct, srcO_str, itemO_tup, itemO_lst, itemO_dct, add_ii, sub_ii, neg_i, add_lst, isiO_ap, tagO_non, tagO_bl, tagO_int, tagO_str, tagO_tup, tagO_lst, tagO_dct, tagO_ins, isB_b, isB_c, isC_b, isC_c, kk_non, kk_int, kk_str, kk_bl, kks_nil, atI_0, atI_1, atI_2, atI_3, in_strs, in_strsT, in_2, in_sign, asL_hd, asD_hd, itemO_hd, lenO_hd, add_hl, setO_hd, ixN_0, ixN_1, ixN_2, ixN_40, ixN_41, ixN_42, zMakeP_ap, sTry_ap, tried_nx, tried_rt, tried_exc, inI_some, inI_none, setI_some, setI_none, clearI_nx, clearI_rt, clearI_none, noX_nx, noX_rt, zXA_ap, zXIs_ap])
mutual
/-- plain closed data -/
def D.pl : D → Bool
  | .non => true | .bl _ => true | .int _ => true
  | .str x => decide (x.length ≤ lim)
  | .tup ds => D.pls ds | .lst ds => D.pls ds | .set _ => false
  | .dct ks vs => D.pls ks && D.pls vs
  | .ins _ ds => D.pls ds
  | .hd _ => false
def D.pls : List D → Bool
  | [] => true
  | d :: ds => D.pl d && D.pls ds
end
mutual
theorem D.pl_cl : ∀ d : D, d.pl = true → d.cl = true
  | .non, _ => rfl | .bl _, _ => rfl | .int _, _ => rfl | .str _, _ => rfl
  | .tup ds, h => D.pls_cls ds h
  | .lst ds, h => D.pls_cls ds h
  | .set _, h => by cases h
  | .dct ks vs, h => by
    simp only [D.pl, Bool.and_eq_true] at h
    simp only [D.cl, Bool.and_eq_true]
    exact ⟨D.pls_cls ks h.1, D.pls_cls vs h.2⟩
  | .ins _ ds, h => D.pls_cls ds h
  | .hd _, h => by cases h
theorem D.pls_cls : ∀ ds : List D, D.pls ds = true → D.cls ds = true
  | [], _ => rfl
  | d :: ds, h => by
    simp only [D.pls, Bool.and_eq_true] at h
    simp only [D.cls, Bool.and_eq_true]
    exact ⟨D.pl_cl d h.1, D.pls_cls ds h.2⟩
end
theorem cls_strs (kn : List Str) : D.cls (kn.map D.str) = true := by induction kn with
    | nil => rfl
    | cons a l ih => simpa [D.cls, D.cl] using ih
def isIntD : D → Bool | .int _ => true | _ => false
theorem sp_is_integer (d : D) (μ : Sto) (h : d.pl = true) : fn_is_integer [d] μ = .ok (.bl (isIntD d)) μ := by
  refine purF_ok (ν := []) (by simp [D.cls, D.pl_cl d h]) ?_ rfl
  rw [runF_ap, ev_is_integer]
  cases d <;> first | (simp [D.pl] at h; done) | (simp! only; rfl)
def letters : Str := "abcdefghijklmnopqrstuvwxyz"
def isNameS (x : Str) : Bool := decide (1 ≤ x.length) && decide (x.length ≤ 8) && x.cps.toList.all fun c => decide (c ∈ letters.cps.toList)
def isName : D → Bool | .str x => isNameS x | _ => false
theorem all_map_id {α : Type} (l : List α) (g : α → Bool) : (l.map g).all id = l.all g := by simp [List.all_map]
theorem filter_tt {α : Type} (l : List α) : l.filter (fun _ => true) = l := by simp
theorem sp_is_name (d : D) (μ : Sto) (h : d.pl = true) : fn_is_name [d] μ = .ok (.bl (isName d)) μ := by
  refine purF_ok (ν := []) (by simp [D.cls, D.pl_cl d h]) ?_ rfl
  rw [runF_ap, ev_is_name]
  cases d with
  | str x =>
    have hl : x.length ≤ lim := of_decide_eq_true h
    by_cases h1 : 1 ≤ x.length
    · by_cases h8 : x.length ≤ 8
      · have h1' : (1 : Int) ≤ (x.length : Int) := by omega
        have h8' : (x.length : Int) ≤ 8 := by omega
        simp! only [lenO_str hl, h1', h8']
        rw [lcF_of (emb := fun c => D.str ⟨#[c]⟩) (c := fun _ => true) (g := fun c => D.bl (decide (c ∈ letters.cps.toList))) x.cps.toList [] (by simpa [Str.length] using hl) (fun c _ => ⟨_, rfl, rfl, fun _ => rfl⟩)]
        simp! only [bls_map, all_map_id, filter_tt, isName, isNameS, h1, h8]
      · have h1' : (1 : Int) ≤ (x.length : Int) := by omega
        have h8' : ¬ (x.length : Int) ≤ 8 := by omega
        simp! only [lenO_str hl, h1', h8', isName, isNameS, h1, h8]
    · have h1' : ¬ (1 : Int) ≤ (x.length : Int) := by omega
      simp! only [lenO_str hl, h1', isName, isNameS, h1]
  | _ => first | (simp [D.pl] at h; done) | simp! only [isName]
/-- whether a value is a default of the field f among the fields kn -/
def isDefault (v : D) (f : Str) (kn : List Str) : Bool := match v with
  | .int i => decide (0 ≤ i) && decide (i ≤ 3)
  | .tup [.str a, .str b] => (decide (a = "same") || decide (a = "next")) && (decide (b ∈ kn) && !(b == f))
  | _ => false
def isRule (v : D) (f : Str) (kn : List Str) : Bool := match v with
  | .tup [d, .bl _] => isDefault d f kn
  | _ => false
theorem sp_is_default (v : D) (f : Str) (kn : List Str) (μ : Sto) (h : v.pl = true) : fn_is_default [v, .str f, .lst (kn.map .str)] μ = .ok (.bl (isDefault v f kn)) μ := by
  refine purF_ok (ν := []) (by simp [D.cls, D.cl, D.pl_cl v h, cls_strs]) ?_ rfl
  rw [runF_ap, ev_is_default]
  have e0 := sp_is_integer v [] h
  cases v with
  | tup ds =>
    rcases ds with _ | ⟨a, _ | ⟨b, _ | ⟨c, r⟩⟩⟩
    · simp! only [e0, isIntD, isDefault]
    · simp! only [e0, isIntD, isDefault]
    · simp [D.pl, D.pls] at h
      cases a with
      | str a =>
        cases b with
        | str b => 
          simp! only [e0, isIntD, isDefault]
          cases hA : (decide (a = "same") || decide (a = "next")) <;> by_cases hB : b ∈ kn <;> simp! only [hA, hB]
        | _ => first | (simp [D.pl] at h; done) | (simp! only [e0, isIntD, isDefault])
      | _ => first | (simp [D.pl] at h; done) | (simp! only [e0, isIntD, isDefault])
    · have : (((r.length + 1 + 1 + 1 : Nat) : Int) == 2) = false := by
        rw [beq_eq_false_iff_ne]; omega
      simp! only [e0, isIntD, isDefault, this]
  | int i =>
    by_cases h1 : 0 ≤ i
    · simp! only [e0, isIntD, isDefault, h1]
    · simp! only [e0, isIntD, isDefault, h1]
  | _ => first | (simp [D.pl] at h; done) | (simp! only [e0, isIntD, isDefault])
theorem sp_is_rule (v : D) (f : Str) (kn : List Str) (μ : Sto) (h : v.pl = true) : fn_is_rule [v, .str f, .lst (kn.map .str)] μ = .ok (.bl (isRule v f kn)) μ := by
  refine purF_ok (ν := []) (by simp [D.cls, D.cl, D.pl_cl v h, cls_strs]) ?_ rfl
  rw [runF_ap, ev_is_rule]
  cases v with
  | tup ds =>
    rcases ds with _ | ⟨a, _ | ⟨b, _ | ⟨c, r⟩⟩⟩
    · simp! only [isRule]
    · simp! only [isRule]
    · simp [D.pl, D.pls] at h
      have e := sp_is_default a f kn [] h.1
      simp! only [e]
      cases hd : isDefault a f kn with
      | false => cases b <;> first | (simp [D.pl] at h; done) | simp! only [isRule, hd]
      | true => cases b <;> first | (simp [D.pl] at h; done) | simp! only [isRule, hd]
    · have : (((r.length + 1 + 1 + 1 : Nat) : Int) == 2) = false := by
        rw [beq_eq_false_iff_ne]; omega
      simp! only [isRule, this]
  | _ => first | (simp [D.pl] at h; done) | simp! only [isRule]
/-! defaults that lead from field to field -/
def nextOf (R : Str → Option D) (a : Str) : Option Str := match R a with
  | some (.tup (.tup [_, .str b] :: _)) => some b
  | _ => none
def leadsN (R : Str → Option D) (f : Str) : Nat → Str → Bool
  | 0, _ => false
  | n + 1, a => match nextOf R a with
    | none => false
    | some b => if b = f then true else leadsN R f n b
/-- the things under texts in a dict -/
def lookS (ks vs : List D) (x : Str) : Option D := D.look ks vs (.text x)
theorem isRule_cases {v : D} {f : Str} {kn : List Str} (h : isRule v f kn = true) : (∃ i w, v = .tup [.int i, .bl w] ∧ 0 ≤ i ∧ i ≤ 3) ∨ ∃ a b w, v = .tup [.tup [.str a, .str b], .bl w] ∧ (a = "same" ∨ a = "next") ∧ b ∈ kn ∧ b ≠ f := by
  unfold isRule at h
  split at h
  · rename_i d w
    unfold isDefault at h
    split at h
    · rename_i i
      simp only [Bool.and_eq_true, decide_eq_true_eq] at h
      exact .inl ⟨i, w, rfl, h.1, h.2⟩
    · rename_i a b
      simp only [Bool.and_eq_true, Bool.or_eq_true, decide_eq_true_eq, Bool.not_eq_true', beq_eq_false_iff_ne] at h
      exact .inr ⟨a, b, w, rfl, h.1, h.2.1, h.2.2⟩
    · cases h
  · cases h
end Z

namespace Z
open PySem
local macro_rules | `(tactic| simp! only [$ls,*]) => `(tactic| simp -dsimp -implicitDefEqProofs only [seval, sv_and_true, sv_true_and, sv_and_false, sv_false_and, sv_or_true, sv_true_or, sv_or_false, sv_false_or, sv_not_true, sv_not_false, sv_ft, sv_tf, sv_eqs, sv_bnt, sv_bnf, sv_bat, sv_bta, sv_baf, sv_bfa, sv_bot, sv_bto, sv_bof, sv_bfo, sv_dtr, sv_dfa, sv_dec, sv_ndec, sv_nb, sv_map_nil, sv_map_cons, sv_len_nil, sv_len_cons, sv_app_nil, sv_app_cons, sv_app_nil', sv_set_z, sv_set_s, sv_get_z, sv_get_s, sv_get_n, sv_rep_z, sv_rep_s, sv_rev_nil, sv_rev_1, sv_rev_2, sv_omap_s, sv_omap_n, sv_obind_s, sv_obind_n, sv_isEmpty_n, sv_isEmpty_c, sv_beq, lim_eq, bindT_ok, bindT_exc, outT_ok, outT_exc, bind_ok', bind_exc', out_ok, out_exc, then_nx, then_rt, then_bk, then_ct, then_exc, zVar_ap, zC_ap, zBin_ap, zUn_ap, zTru_ap, zChain_ap, zNotT_ap, zAndT_ap, zOrT_ap, zNot_ap, zAnd_ap, zOr_ap, zIf_ap, zNil_ap, zCons_ap, zTup_ap, zLst_ap, mkL_f, mkL_t, mkD_f, mkD_t, zCall_ap, zB_ap, zIx_ap, okO_some, bT_some', bO_some', zSrc_ap, zVals_ap, zItems_ap, zRng1_ap, zRng2_ap, zYes_ap, zD0_ap, zPart_ap, zNoPart_ap, zSl_ap, zRev_ap, zFrz_ap, zAttr_ap, sPass_ap, sBreak_ap, sCont_ap, sSeq_ap, sExp_ap, sRet_ap, sRetN_ap, sIf_ap, sAsg_ap, outO_some, gN_ap, gT_ap, gTs_nil, gTs_cons, sFor_ap, sSet_ap, outM_some, sRaise_ap, sAttr_ap, res_nx, res_rt, res_exc, loopF_nil, turn_nx, turn_ct, turn_bk, turn_rt, turn_exc, turnT_nx, turnT_ct, turnT_bk, turnT_rt, turnT_exc, nox_ok, lcF_nil, of_some, of_none, zLc_ap, wipeE_nil, wipeE_cons, le_ii, lt_ii, ge_ii, gt_ii, isN_ap, notN_ap, isB_ap, notB_ap, eq_ap, ne_ap, in_ap, nin_ap, eqO_int, eqO_str, eqO_bl, isNon_non, isNon_bl, isNon_int, isNon_str, isNon_tup, isNon_lst, isNon_dct, isNon_ins, truO_non, truO_bl, truO_int, truO_tup, truO_lst, truO_dct, asL_lst, asL_dct, asL_tup, asL_str, asL_int, asL_bl, asL_non, asL_ins, asD_dct, asD_lst, asT_tup, asT_lst, asT_dct, lenO_tup, lenO_lst, lenO_dct, lenB_ap, allB_ap, anyB_ap, sumB_ap, max2B_ap, intB_int, listB_tup, listB_lst, listB_dct, tupB_tup, tupB_lst, srcO_tup, srcO_lst, srcO_dct, srcO_str, itemO_tup, itemO_lst, itemO_dct, add_ii, sub_ii, neg_i, add_lst, isiO_ap, tagO_non, tagO_bl, tagO_int, tagO_str, tagO_tup, tagO_lst, tagO_dct, tagO_ins, isB_b, isB_c, isC_b, isC_c, kk_non, kk_int, kk_str, kk_bl, kks_nil, atI_0, atI_1, atI_2, atI_3, in_strs, in_strsT, in_2, in_sign, asL_hd, asD_hd, itemO_hd, lenO_hd, add_hl, setO_hd, ixN_0, ixN_1, ixN_2, ixN_40, ixN_41, ixN_42, zMakeP_ap, sTry_ap, tried_nx, tried_rt, tried_exc, inI_some, inI_none, setI_some, setI_none, clearI_nx, clearI_rt, clearI_none, noX_nx, noX_rt, zXA_ap, zXIs_ap, $ls,*])
local macro_rules | `(tactic| simp! only) => `(tactic| simp -implicitDefEqProofs only [seval, sv_and_true, sv_true_and, sv_and_false, sv_false_and, sv_or_true, sv_true_or, sv_or_false, sv_false_or, sv_not_true, sv_not_false, sv_ft, sv_tf, sv_eqs, sv_bnt, sv_bnf, sv_bat, sv_bta, sv_baf, sv_bfa, sv_bot, sv_bto, sv_bof, sv_bfo, sv_dtr, sv_dfa, sv_dec, sv_ndec, sv_nb, sv_map_nil, sv_map_cons, sv_len_nil, sv_len_cons, sv_app_nil, sv_app_cons, sv_app_nil', sv_set_z, sv_set_s, sv_get_z, sv_get_s, sv_get_n, sv_rep_z, sv_rep_s, sv_rev_nil, sv_rev_1, sv_rev_2, sv_omap_s, sv_omap_n, sv_obind_s, sv_obind_n, sv_isEmpty_n, sv_isEmpty_c, sv_beq, lim_eq, bindT_ok, bindT_exc, outT_ok, outT_exc, bind_ok', bind_exc', out_ok, out_exc, then_nx, then_rt, then_bk, then_ct, then_exc, zVar_ap, zC_ap, zBin_ap, zUn_ap, zTru_ap, zChain_ap, zNotT_ap, zAndT_ap, zOrT_ap, zNot_ap, zAnd_ap, zOr_ap, zIf_ap, zNil_ap, zCons_ap, zTup_ap, zLst_ap, mkL_f, mkL_t, mkD_f, mkD_t, zCall_ap, zB_ap, zIx_ap, okO_some, bT_some', bO_some', zSrc_ap, zVals_ap, zItems_ap, zRng1_ap, zRng2_ap, zYes_ap, zD0_ap, zPart_ap, zNoPart_ap, zSl_ap, zRev_ap, zFrz_ap, zAttr_ap, sPass_ap, sBreak_ap, sCont_ap, sSeq_ap, sExp_ap, sRet_ap, sRetN_ap, sIf_ap, sAsg_ap, outO_some, gN_ap, gT_ap, gTs_nil, gTs_cons, sFor_ap, sSet_ap, outM_some, sRaise_ap, sAttr_ap, res_nx, res_rt, res_exc, loopF_nil, turn_nx, turn_ct, turn_bk, turn_rt, turn_exc, turnT_nx, turnT_ct, turnT_bk, turnT_rt, turnT_exc, nox_ok, lcF_nil, of_some, of_none, zLc_ap, wipeE_nil, wipeE_cons, le_ii, lt_ii, ge_ii, gt_ii, isN_ap, notN_ap, isB_ap, notB_ap, eq_ap, ne_ap, in_ap, nin_ap, eqO_int, eqO_str, eqO_bl, isNon_non, isNon_bl, isNon_int, isNon_str, isNon_tup, isNon_lst, isNon_dct, isNon_ins, truO_non, truO_bl, truO_int, truO_tup, truO_lst, truO_dct, asL_lst, asL_dct, asL_tup, asL_str, asL_int, asL_bl, asL_non, asL_ins, asD_dct, asD_lst, asT_tup, asT_lst, asT_dct, lenO_tup, lenO_lst, lenO_dct, lenB_ap, allB_ap, anyB_ap, sumB_ap, max2B_ap, intB_int, listB_tup, listB_lst, listB_dct, tupB_tup, tupB_lst, srcO_tup, srcO_lst, srcO_dct, srcO_str, itemO_tup, itemO_lst, itemO_dct, add_ii, sub_ii, neg_i, add_lst, isiO_ap, tagO_non, tagO_bl, tagO_int, tagO_str, tagO_tup, tagO_lst, tagO_dct, tagO_ins, isB_b, isB_c, isC_b, isC_c, kk_non, kk_int, kk_str, kk_bl, kks_nil, atI_0, atI_1, atI_2, atI_3, in_strs, in_strsT, in_2, in_sign, asL_hd, asD_hd, itemO_hd, lenO_hd, add_hl, setO_hd, ixN_0, ixN_1, ixN_2, ixN_40, ixN_41, ixN_42, zMakeP_ap, sTry_ap, tried_nx, tried_rt, tried_exc, inI_some, inI_none, setI_some, setI_none, clearI_nx, clearI_rt, clearI_none, noX_nx, noX_rt, zXA_ap, zXIs_ap])
theorem pls_mem {d : D} : ∀ {ds : List D}, D.pls ds = true → d ∈ ds → d.pl = true
  | [], _, h => by simp at h
  | e :: ds, h, hm => by
    simp only [D.pls, Bool.and_eq_true] at h
    rcases List.mem_cons.mp hm with rfl | hm
    · exact h.1
    · exact pls_mem h.2 hm
theorem look_mem {ks vs : List D} {k : NK} {v : D} (h : D.look ks vs k = some v) : v ∈ vs := by
  unfold D.look at h
  cases e : D.ixOf ks k with
  | none => rw [e] at h; cases h
  | some i => rw [e] at h; exact List.mem_of_getElem? h
theorem lookS_pl {ks vs : List D} {x : Str} {v : D} (h : lookS ks vs x = some v) (hv : D.pls vs = true) : v.pl = true := pls_mem hv (look_mem h)
theorem sp_leads_back (ks vs : List D) (f : Str) (kn : List Str) (μ : Sto) (hc : D.pls ks = true ∧ D.pls vs = true) (hlen : ks.length ≤ 1000) (hf : f ∈ kn) (hg : ∀ a ∈ kn, ∃ v, lookS ks vs a = some v ∧ isRule v a kn = true) :
    fn_leads_back [.dct ks vs, .str f] μ = .ok (.bl (leadsN (lookS ks vs) f ks.length f)) μ := by
  refine purF_ok (ν := []) (by simp [D.cls, D.cl, D.pls_cls _ hc.1, D.pls_cls _ hc.2]) ?_ rfl
  rw [runF_ap, ev_leads_back]
  have hr : rng1O [.int (ks.length : Int)] = some ((List.range ks.length).map fun i : Nat => D.int i, none) := rng1_nat (by omega)
  simp! only [hr]
  have key : ∀ (all : List D) (l : List Nat) (a : Str) (x y : Option D), a ∈ kn → 
      ((loopF (all, none) (gN 3) bd_leads_back_0 (l.map fun i : Nat => D.int i) [some (.dct ks vs), some (.str f), some (.str a), x, y] []).then (sRet (zC (.bl false)))).res = .ok (.bl (leadsN (lookS ks vs) f l.length a)) [] := by
    intro all l
    induction l with
    | nil => intro a x y ha; simp! only; rfl
    | cons n l ih =>
      intro a x y ha
      obtain ⟨v, e1, e2⟩ := hg a ha
      have e1' : D.look ks vs (.text a) = some v := e1
      have hc0 := hc.2
      rcases isRule_cases e2 with ⟨i, w, rfl, _⟩ | ⟨c, b, w, rfl, hc, hb, hn⟩
      · simp! only [loopF_consT, bd_leads_back_0, e1', sp_is_integer (.int i) [] rfl, isIntD, leadsN, nextOf, e1]
      · have hp : (D.tup [.str c, .str b]).pl = true := by
          have := lookS_pl e1 hc0
          simp only [D.pl, D.pls, Bool.and_eq_true] at this ⊢
          exact ⟨this.1.1, this.1.2.1, trivial⟩
        simp! only [loopF_consT, bd_leads_back_0, e1', sp_is_integer _ [] hp, isIntD, leadsN, nextOf, e1]
        rw [← bd_leads_back_0]
        by_cases q : b = f
        · subst q
          simp! only
        · have q' : (b == f) = false := beq_eq_false_iff_ne.mpr q
          simp! only [q, q']
          exact ih b _ _ hb
  have := key ((List.range ks.length).map fun i : Nat => D.int i) (List.range ks.length) f none none hf
  rw [List.length_range] at this
  exact this
end Z

namespace Z
open PySem
local macro_rules | `(tactic| simp! only [$ls,*]) => `(tactic| simp -dsimp -implicitDefEqProofs only [seval, sv_and_true, sv_true_and, sv_and_false, sv_false_and, sv_or_true, sv_true_or, sv_or_false, sv_false_or, sv_not_true, sv_not_false, sv_ft, sv_tf, sv_eqs, sv_bnt, sv_bnf, sv_bat, sv_bta, sv_baf, sv_bfa, sv_bot, sv_bto, sv_bof, sv_bfo, sv_dtr, sv_dfa, sv_dec, sv_ndec, sv_nb, sv_map_nil, sv_map_cons, sv_len_nil, sv_len_cons, sv_app_nil, sv_app_cons, sv_app_nil', sv_set_z, sv_set_s, sv_get_z, sv_get_s, sv_get_n, sv_rep_z, sv_rep_s, sv_rev_nil, sv_rev_1, sv_rev_2, sv_omap_s, sv_omap_n, sv_obind_s, sv_obind_n, sv_isEmpty_n, sv_isEmpty_c, sv_beq, lim_eq, bindT_ok, bindT_exc, outT_ok, outT_exc, bind_ok', bind_exc', out_ok, out_exc, then_nx, then_rt, then_bk, then_ct, then_exc, zVar_ap, zC_ap, zBin_ap, zUn_ap, zTru_ap, zChain_ap, zNotT_ap, zAndT_ap, zOrT_ap, zNot_ap, zAnd_ap, zOr_ap, zIf_ap, zNil_ap, zCons_ap, zTup_ap, zLst_ap, mkL_f, mkL_t, mkD_f, mkD_t, zCall_ap, zB_ap, zIx_ap, okO_some, bT_some', bO_some', zSrc_ap, zVals_ap, zItems_ap, zRng1_ap, zRng2_ap, zYes_ap, zD0_ap, zPart_ap, zNoPart_ap, zSl_ap, zRev_ap, zFrz_ap, zAttr_ap, sPass_ap, sBreak_ap, sCont_ap, sSeq_ap, sExp_ap, sRet_ap, sRetN_ap, sIf_ap, sAsg_ap, outO_some, gN_ap, gT_ap, gTs_nil, gTs_cons, sFor_ap, sSet_ap, outM_some, sRaise_ap, sAttr_ap, res_nx, res_rt, res_exc, loopF_nil, turn_nx, turn_ct, turn_bk, turn_rt, turn_exc, turnT_nx, turnT_ct, turnT_bk, turnT_rt, turnT_exc, nox_ok, lcF_nil, of_some, of_none, zLc_ap, wipeE_nil, wipeE_cons, le_ii, lt_ii, ge_ii, gt_ii, isN_ap, notN_ap, isB_ap, notB_ap, eq_ap, ne_ap, in_ap, nin_ap, eqO_int, eqO_str, eqO_bl, isNon_non, isNon_bl, isNon_int, isNon_str, isNon_tup, isNon_lst, isNon_dct, isNon_ins, truO_non, truO_bl, truO_int, truO_tup, truO_lst, truO_dct, asL_lst, asL_dct, asL_tup, asL_str, asL_int, asL_bl, asL_non, asL_ins, asD_dct, asD_lst, asT_tup, asT_lst, asT_dct, lenO_tup, lenO_lst, lenO_dct, lenB_ap, allB_ap, anyB_ap, sumB_ap, max2B_ap, intB_int, listB_tup, listB_lst, listB_dct, tupB_tup, tupB_lst, srcO_tup, srcO_lst, srcO_dct, srcO_str, itemO_tup, itemO_lst, itemO_dct, add_ii, sub_ii, neg_i, add_lst, isiO_ap, tagO_non, tagO_bl, tagO_int, tagO_str, tagO_tup, tagO_lst, tagO_dct, tagO_ins, isB_b, isB_c, isC_b, isC_c, kk_non, kk_int, kk_str, kk_bl, kks_nil, atI_0, atI_1, atI_2, atI_3, in_strs, in_strsT, in_2, in_sign, asL_hd, asD_hd, itemO_hd, lenO_hd, add_hl, setO_hd, ixN_0, ixN_1, ixN_2, ixN_40, ixN_41, ixN_42, zMakeP_ap, sTry_ap, tried_nx, tried_rt, tried_exc, inI_some, inI_none, setI_some, setI_none, clearI_nx, clearI_rt, clearI_none, noX_nx, noX_rt, zXA_ap, zXIs_ap, $ls,*])
local macro_rules | `(tactic| simp! only) => `(tactic| simp -implicitDefEqProofs only [seval, sv_and_true, sv_true_and, sv_and_false, sv_false_and, sv_or_true, sv_true_or, sv_or_false, sv_false_or, sv_not_true, sv_not_false, sv_ft, sv_tf, sv_eqs, sv_bnt, sv_bnf, sv_bat, sv_bta, sv_baf, sv_bfa, sv_bot, sv_bto, sv_bof, sv_bfo, sv_dtr, sv_dfa, sv_dec, sv_ndec, sv_nb, sv_map_nil, sv_map_cons, sv_len_nil, sv_len_cons, sv_app_nil, sv_app_cons, sv_app_nil', sv_set_z, sv_set_s, sv_get_z, sv_get_s, sv_get_n, sv_rep_z, sv_rep_s, sv_rev_nil, sv_rev_1, sv_rev_2, sv_omap_s, sv_omap_n, sv_obind_s, sv_obind_n, sv_isEmpty_n, sv_isEmpty_c, sv_beq, lim_eq, bindT_ok, bindT_exc, outT_ok, outT_exc, bind_ok', bind_exc', out_ok, out_exc, then_nx, then_rt, then_bk, then_ct, then_exc, zVar_ap, zC_ap, zBin_ap, zUn_ap, zTru_ap, zChain_ap, zNotT_ap, zAndT_ap, zOrT_ap, zNot_ap, zAnd_ap, zOr_ap, zIf_ap, zNil_ap, zCons_ap, zTup_ap, zLst_ap, mkL_f, mkL_t, mkD_f, mkD_t, zCall_ap, zB_ap, zIx_ap, okO_some, bT_some', bO_some', zSrc_ap, zVals_ap, zItems_ap, zRng1_ap, zRng2_ap, zYes_ap, zD0_ap, zPart_ap, zNoPart_ap, zSl_ap, zRev_ap, zFrz_ap, zAttr_ap, sPass_ap, sBreak_ap, sCont_ap, sSeq_ap, sExp_ap, sRet_ap, sRetN_ap, sIf_ap, sAsg_ap, outO_some, gN_ap, gT_ap, gTs_nil, gTs_cons, sFor_ap, sSet_ap, outM_some, sRaise_ap, sAttr_ap, res_nx, res_rt, res_exc, loopF_nil, turn_nx, turn_ct, turn_bk, turn_rt, turn_exc, turnT_nx, turnT_ct, turnT_bk, turnT_rt, turnT_exc, nox_ok, lcF_nil, of_some, of_none, zLc_ap, wipeE_nil, wipeE_cons, le_ii, lt_ii, ge_ii, gt_ii, isN_ap, notN_ap, isB_ap, notB_ap, eq_ap, ne_ap, in_ap, nin_ap, eqO_int, eqO_str, eqO_bl, isNon_non, isNon_bl, isNon_int, isNon_str, isNon_tup, isNon_lst, isNon_dct, isNon_ins, truO_non, truO_bl, truO_int, truO_tup, truO_lst, truO_dct, asL_lst, asL_dct, asL_tup, asL_str, asL_int, asL_bl, asL_non, asL_ins, asD_dct, asD_lst, asT_tup, asT_lst, asT_dct, lenO_tup, lenO_lst, lenO_dct, lenB_ap, allB_ap, anyB_ap, sumB_ap, max2B_ap, intB_int, listB_tup, listB_lst, listB_dct, tupB_tup, tupB_lst, srcO_tup, srcO_lst, srcO_dct, srcO_str, itemO_tup, itemO_lst, itemO_dct, add_ii, sub_ii, neg_i, add_lst, isiO_ap, tagO_non, tagO_bl, tagO_int, tagO_str, tagO_tup, tagO_lst, tagO_dct, tagO_ins, isB_b, isB_c, isC_b, isC_c, kk_non, kk_int, kk_str, kk_bl, kks_nil, atI_0, atI_1, atI_2, atI_3, in_strs, in_strsT, in_2, in_sign, asL_hd, asD_hd, itemO_hd, lenO_hd, add_hl, setO_hd, ixN_0, ixN_1, ixN_2, ixN_40, ixN_41, ixN_42, zMakeP_ap, sTry_ap, tried_nx, tried_rt, tried_exc, inI_some, inI_none, setI_some, setI_none, clearI_nx, clearI_rt, clearI_none, noX_nx, noX_rt, zXA_ap, zXIs_ap])
def strOf : D → Str | .str x => x | _ => ""
def namesOf (ks : List D) : List Str := (ks.filter isName).map strOf
theorem isName_str {d : D} (h : isName d = true) : d = .str (strOf d) := by
  cases d <;> first | rfl | cases h
theorem map_strOf {l : List D} (h : ∀ d ∈ l, isName d = true) : (l.map strOf).map D.str = l := by
  induction l with
  | nil => rfl
  | cons d l ih =>
    rw [List.map_cons, List.map_cons, ← isName_str (h d (by simp)), ih fun d hd => h d (by simp [hd])]
theorem namesOf_str (ks : List D) : (namesOf ks).map D.str = ks.filter isName := map_strOf fun d hd => (List.mem_filter.mp hd).2
theorem mem_namesOf {ks : List D} {x : Str} (h : x ∈ namesOf ks) : D.str x ∈ ks ∧ isNameS x = true := by
  unfold namesOf at h
  obtain ⟨d, hd, rfl⟩ := List.mem_map.mp h
  obtain ⟨h1, h2⟩ := List.mem_filter.mp hd
  rw [← isName_str h2]
  refine ⟨h1, ?_⟩
  rw [isName_str h2] at h2
  exact h2
theorem mem_sortS {x : Str} {xs : List Str} : x ∈ sortS xs ↔ x ∈ xs := (List.mergeSort_perm xs strLe).mem_iff
theorem length_sortS (xs : List Str) : (sortS xs).length = xs.length := (List.mergeSort_perm xs strLe).length_eq
def knownOf (ks : List D) : List Str := sortS (namesOf ks)
theorem lookS_some {ks vs : List D} {x : Str} (h : D.str x ∈ ks) (hl : ks.length = vs.length) : ∃ v, lookS ks vs x = some v := by
  unfold lookS D.look D.ixOf
  have : (ks.findIdx? fun d => decide (d.key = some (.text x))).isSome = true := by
    rw [List.findIdx?_isSome, List.any_eq_true]
    exact ⟨_, h, by simp [D.key]⟩
  obtain ⟨i, hi⟩ := Option.isSome_iff_exists.mp this
  rw [hi]
  have := (List.findIdx?_eq_some_iff_findIdx_eq.mp hi).1
  rw [hl] at this
  exact ⟨vs[i], by simp [this]⟩
def valS (ks vs : List D) (x : Str) : D := (lookS ks vs x).getD .non
theorem valS_eq {ks vs : List D} {x : Str} (h : D.str x ∈ ks) (hl : ks.length = vs.length) : D.look ks vs (.text x) = some (valS ks vs x) := by
  obtain ⟨v, e⟩ := lookS_some h hl
  unfold valS
  rw [e]; exact e
/-- the first fault of a dict of fields -/
def dfault (ks vs : List D) : Option (Str × Str) :=
  if 1 ≤ ks.length ∧ ks.length ≤ 5 then
    match (knownOf ks).find? fun f => !isRule (valS ks vs f) f (knownOf ks) with
    | some f => some ("rule", f)
    | none => if (knownOf ks).length < ks.length then some ("field", "") else
      match (knownOf ks).find? fun f => leadsN (lookS ks vs) f ks.length f with
      | some f => some ("ring", f)
      | none => none
  else some ("fields", "")
def efault : D → Option (Str × Str)
  | .dct ks vs => dfault ks vs
  | _ => some ("fields", "")
def exE (o : Option (Str × Str)) (r : Res D) (μ : Sto) : Res D := match o with
  | some (a, b) => .exc "InvalidEdition" [.str b, .str a] μ
  | none => r
def GoodD : D → Prop
  | .dct ks vs => ks.length = vs.length
  | _ => True
theorem exc_then {c : Str} {ds : List D} {ρ : Env'} {μ : Sto} (k : Env' → Sto → Out) : (Out.exc c ds ρ μ).turn k = .exc c ds ρ μ := rfl
theorem purF_both {F : Fn} {ds : List D} (o : Option (Str × Str)) {r : D} {μ : Sto} {ν : Sto} (hc : D.cls ds = true) (e : F ds [] = exE o (.ok r ν) ν) (hr : r.cl = true) : purF F ds μ = exE o (.ok r μ) μ := by
  cases o with
  | none => exact purF_ok hc e hr
  | some p => exact purF_exc hc e rfl
theorem sp_look_at_fields (d : D) (μ : Sto) (h : d.pl = true) (hg : GoodD d) : fn_look_at_fields [d] μ = exE (efault d) (.ok .non μ) μ := by
  refine purF_both (ν := []) _ (by simp [D.cls, D.pl_cl d h]) ?_ rfl
  rw [runF_ap, ev_look_at_fields]
  cases d with
  | dct ks vs =>
    have hl : ks.length = vs.length := hg
    have hp : D.pls ks = true ∧ D.pls vs = true := by simpa only [D.pl, Bool.and_eq_true] using h
    unfold efault dfault
    by_cases h1 : 1 ≤ ks.length
    · by_cases h5 : ks.length ≤ 5
      · have h1' : (1 : Int) ≤ (ks.length : Int) := by omega
        have h5' : (ks.length : Int) ≤ 5 := by omega
        simp! only [h1', h5', h1, h5]
        rw [lcF_map isName id ks [] (by simp only [List.length_nil, lim]; omega) ?side]
        case side => exact fun d hd => ⟨_, rfl, by simp! only [sp_is_name d [] (pls_mem hp.1 hd)], fun _ => by simp! only; rfl⟩
        have hlen : (namesOf ks).length ≤ ks.length := by
          unfold namesOf
          rw [List.length_map]
          exact List.length_filter_le _ _
        have hs : sortedB false [.lst ((ks.filter isName).map id)] [] = .ok (.lst ((knownOf ks).map D.str)) [] := by
          rw [List.map_id, ← namesOf_str]
          unfold sortedB
          simp! only
          rw [if_pos (by rw [List.length_map]; omega), strs_map]
          rfl
        simp! only [hs]
        have hk : ∀ f ∈ knownOf ks, D.str f ∈ ks := fun f hf => (mem_namesOf (mem_sortS.mp hf)).1
        rw [(loop_of (μ := []) (i := 2) D.str (fun f => !isRule (valS ks vs f) f (knownOf ks)) (fun f => .exc "InvalidEdition" [.str f, .str "rule"] [some (D.dct ks vs), some (.lst ((knownOf ks).map D.str)), some (.str f)] []) (fun _ _ => rfl) (knownOf ks) [some (D.dct ks vs), some (.lst ((knownOf ks).map D.str)), none] (by simp) ?side).choose_spec]
        case side => 
          intro f hf
          have e := valS_eq (hk f hf) hl
          have e2 := sp_is_rule (valS ks vs f) f (knownOf ks) [] (lookS_pl e hp.2)
          simp! only [bd_look_at_fields_0, e, e2]
        generalize (Exists.choose _) = x1
        cases e1 : (knownOf ks).find? fun f => !isRule (valS ks vs f) f (knownOf ks) with
        | some f => simp! only [exE]
        | none =>
          simp! only
          by_cases hlt : (knownOf ks).length < ks.length
          · have hlt' : (((knownOf ks).length : Int) < (ks.length : Int)) := by omega
            simp! only [exE, List.length_map, hlt, hlt']
          · have hlt' : ¬ (((knownOf ks).length : Int) < (ks.length : Int)) := by omega
            simp! only [exE, List.length_map, hlt, hlt']
            have hr : ∀ a ∈ knownOf ks, ∃ v, lookS ks vs a = some v ∧ isRule v a (knownOf ks) = true := fun a ha => by
              refine ⟨_, valS_eq (hk a ha) hl, ?_⟩
              have := List.find?_eq_none.mp e1 a ha
              simpa using this
            rw [(loop_of (μ := []) (i := 2) D.str (fun f => leadsN (lookS ks vs) f ks.length f) (fun f => .exc "InvalidEdition" [.str f, .str "ring"] [some (D.dct ks vs), some (.lst ((knownOf ks).map D.str)), some (.str f)] []) (fun _ _ => rfl) (knownOf ks) [some (D.dct ks vs), some (.lst ((knownOf ks).map D.str)), x1] (by simp) ?side2).choose_spec]
            case side2 =>
              intro f hf
              simp! only [bd_look_at_fields_1, sp_leads_back ks vs f (knownOf ks) [] hp (by omega) hf hr]
            generalize (Exists.choose _) = x2
            cases (knownOf ks).find? fun f => leadsN (lookS ks vs) f ks.length f <;> simp! only
      · have h1' : (1 : Int) ≤ (ks.length : Int) := by omega
        have h5' : ¬ (ks.length : Int) ≤ 5 := by omega
        simp! only [h1', h5', h1, h5, exE]
    · have h1' : ¬ (1 : Int) ≤ (ks.length : Int) := by omega
      simp! only [h1', h1, exE]
  | _ => first | (simp [D.pl] at h; done) | (simp! only [efault, exE])
/-- the names of a tuple of texts -/
def areNames : D → Bool
  | .tup ds => ds.all isName && decide ((ddS (ds.map strOf) ds.length).length = ds.length)
  | _ => false
theorem sp_are_names (d : D) (μ : Sto) (h : d.pl = true) (hl : ∀ ds, d = .tup ds → ds.length < 1000) : fn_are_names [d] μ = .ok (.bl (areNames d)) μ := by
  refine purF_ok (ν := []) (by simp [D.cls, D.pl_cl d h]) ?_ rfl
  rw [runF_ap, ev_are_names]
  cases d with
  | tup ds =>
    have hlen := hl ds rfl
    have hp : D.pls ds = true := h
    simp! only
    rw [lcF_map (fun _ => true) (fun d => .bl (isName d)) ds [] (by simp only [List.length_nil, lim]; omega) ?side]
    case side => exact fun d hd => ⟨_, rfl, rfl, fun _ => by simp! only [sp_is_name d [] (pls_mem hp hd)]⟩
    simp! only [bls_map, all_map_id, filter_tt, areNames]
    cases ha : ds.all isName with
    | false => simp! only
    | true =>
      have hs : D.strs ds = some (ds.map strOf) := by
        rw [← strs_map, map_strOf (fun d hd => List.all_eq_true.mp ha d hd)]
      have hn : lenSetO (.tup ds) [] = some (ddS (ds.map strOf) ds.length).length := by
        unfold lenSetO
        simp only [hs, List.length_map]
        rw [if_pos hlen]
      have e : (((ddS (ds.map strOf) ds.length).length : Int) == (ds.length : Int)) = decide ((ddS (ds.map strOf) ds.length).length = ds.length) := by
        rw [Bool.eq_iff_iff, beq_iff_eq, decide_eq_true_iff]; omega
      simp! only [lenSetB, hn, e]
  | _ => first | (simp [D.pl] at h; done) | simp! only [areNames]
end Z

namespace Z
open PySem
local macro_rules | `(tactic| simp! only [$ls,*]) => `(tactic| simp -dsimp -implicitDefEqProofs only [seval, sv_and_true, sv_true_and, sv_and_false, sv_false_and, sv_or_true, sv_true_or, sv_or_false, sv_false_or, sv_not_true, sv_not_false, sv_ft, sv_tf, sv_eqs, sv_bnt, sv_bnf, sv_bat, sv_bta, sv_baf, sv_bfa, sv_bot, sv_bto, sv_bof, sv_bfo, sv_dtr, sv_dfa, sv_dec, sv_ndec, sv_nb, sv_map_nil, sv_map_cons, sv_len_nil, sv_len_cons, sv_app_nil, sv_app_cons, sv_app_nil', sv_set_z, sv_set_s, sv_get_z, sv_get_s, sv_get_n, sv_rep_z, sv_rep_s, sv_rev_nil, sv_rev_1, sv_rev_2, sv_omap_s, sv_omap_n, sv_obind_s, sv_obind_n, sv_isEmpty_n, sv_isEmpty_c, sv_beq, lim_eq, bindT_ok, bindT_exc, outT_ok, outT_exc, bind_ok', bind_exc', out_ok, out_exc, then_nx, then_rt, then_bk, then_ct, then_exc, zVar_ap, zC_ap, zBin_ap, zUn_ap, zTru_ap, zChain_ap, zNotT_ap, zAndT_ap, zOrT_ap, zNot_ap, zAnd_ap, zOr_ap, zIf_ap, zNil_ap, zCons_ap, zTup_ap, zLst_ap, mkL_f, mkL_t, mkD_f, mkD_t, zCall_ap, zB_ap, zIx_ap, okO_some, bT_some', bO_some', zSrc_ap, zVals_ap, zItems_ap, zRng1_ap, zRng2_ap, zYes_ap, zD0_ap, zPart_ap, zNoPart_ap, zSl_ap, zRev_ap, zFrz_ap, zAttr_ap, sPass_ap, sBreak_ap, sCont_ap, sSeq_ap, sExp_ap, sRet_ap, sRetN_ap, sIf_ap, sAsg_ap, outO_some, gN_ap, gT_ap, gTs_nil, gTs_cons, sFor_ap, sSet_ap, outM_some, sRaise_ap, sAttr_ap, res_nx, res_rt, res_exc, loopF_nil, turn_nx, turn_ct, turn_bk, turn_rt, turn_exc, turnT_nx, turnT_ct, turnT_bk, turnT_rt, turnT_exc, nox_ok, lcF_nil, of_some, of_none, zLc_ap, wipeE_nil, wipeE_cons, le_ii, lt_ii, ge_ii, gt_ii, isN_ap, notN_ap, isB_ap, notB_ap, eq_ap, ne_ap, in_ap, nin_ap, eqO_int, eqO_str, eqO_bl, isNon_non, isNon_bl, isNon_int, isNon_str, isNon_tup, isNon_lst, isNon_dct, isNon_ins, truO_non, truO_bl, truO_int, truO_tup, truO_lst, truO_dct, asL_lst, asL_dct, asL_tup, asL_str, asL_int, asL_bl, asL_non, asL_ins, asD_dct, asD_lst, asT_tup, asT_lst, asT_dct, lenO_tup, lenO_lst, lenO_dct, lenB_ap, allB_ap, anyB_ap, sumB_ap, max2B_ap, intB_int, listB_tup, listB_lst, listB_dct, tupB_tup, tupB_lst, srcO_tup, srcO_lst, srcO_dct, srcO_str, itemO_tup, itemO_lst, itemO_dct, add_ii, sub_ii, neg_i, add_lst, isiO_ap, tagO_non, tagO_bl, tagO_int, tagO_str, tagO_tup, tagO_lst, tagO_dct, tagO_ins, isB_b, isB_c, isC_b, isC_c, kk_non, kk_int, kk_str, kk_bl, kks_nil, atI_0, atI_1, atI_2, atI_3, in_strs, in_strsT, in_2, in_sign, asL_hd, asD_hd, itemO_hd, lenO_hd, add_hl, setO_hd, ixN_0, ixN_1, ixN_2, ixN_40, ixN_41, ixN_42, zMakeP_ap, sTry_ap, tried_nx, tried_rt, tried_exc, inI_some, inI_none, setI_some, setI_none, clearI_nx, clearI_rt, clearI_none, noX_nx, noX_rt, zXA_ap, zXIs_ap, $ls,*])
local macro_rules | `(tactic| simp! only) => `(tactic| simp -implicitDefEqProofs only [seval, sv_and_true, sv_true_and, sv_and_false, sv_false_and, sv_or_true, sv_true_or, sv_or_false, sv_false_or, sv_not_true, sv_not_false, sv_ft, sv_tf, sv_eqs, sv_bnt, sv_bnf, sv_bat, sv_bta, sv_baf, sv_bfa, sv_bot, sv_bto, sv_bof, sv_bfo, sv_dtr, sv_dfa, sv_dec, sv_ndec, sv_nb, sv_map_nil, sv_map_cons, sv_len_nil, sv_len_cons, sv_app_nil, sv_app_cons, sv_app_nil', sv_set_z, sv_set_s, sv_get_z, sv_get_s, sv_get_n, sv_rep_z, sv_rep_s, sv_rev_nil, sv_rev_1, sv_rev_2, sv_omap_s, sv_omap_n, sv_obind_s, sv_obind_n, sv_isEmpty_n, sv_isEmpty_c, sv_beq, lim_eq, bindT_ok, bindT_exc, outT_ok, outT_exc, bind_ok', bind_exc', out_ok, out_exc, then_nx, then_rt, then_bk, then_ct, then_exc, zVar_ap, zC_ap, zBin_ap, zUn_ap, zTru_ap, zChain_ap, zNotT_ap, zAndT_ap, zOrT_ap, zNot_ap, zAnd_ap, zOr_ap, zIf_ap, zNil_ap, zCons_ap, zTup_ap, zLst_ap, mkL_f, mkL_t, mkD_f, mkD_t, zCall_ap, zB_ap, zIx_ap, okO_some, bT_some', bO_some', zSrc_ap, zVals_ap, zItems_ap, zRng1_ap, zRng2_ap, zYes_ap, zD0_ap, zPart_ap, zNoPart_ap, zSl_ap, zRev_ap, zFrz_ap, zAttr_ap, sPass_ap, sBreak_ap, sCont_ap, sSeq_ap, sExp_ap, sRet_ap, sRetN_ap, sIf_ap, sAsg_ap, outO_some, gN_ap, gT_ap, gTs_nil, gTs_cons, sFor_ap, sSet_ap, outM_some, sRaise_ap, sAttr_ap, res_nx, res_rt, res_exc, loopF_nil, turn_nx, turn_ct, turn_bk, turn_rt, turn_exc, turnT_nx, turnT_ct, turnT_bk, turnT_rt, turnT_exc, nox_ok, lcF_nil, of_some, of_none, zLc_ap, wipeE_nil, wipeE_cons, le_ii, lt_ii, ge_ii, gt_ii, isN_ap, notN_ap, isB_ap, notB_ap, eq_ap, ne_ap, in_ap, nin_ap, eqO_int, eqO_str, eqO_bl, isNon_non, isNon_bl, isNon_int, isNon_str, isNon_tup, isNon_lst, isNon_dct, isNon_ins, truO_non, truO_bl, truO_int, truO_tup, truO_lst, truO_dct, asL_lst, asL_dct, asL_tup, asL_str, asL_int, asL_bl, asL_non, asL_ins, asD_dct, asD_lst, asT_tup, asT_lst, asT_dct, lenO_tup, lenO_lst, lenO_dct, lenB_ap, allB_ap, anyB_ap, sumB_ap, max2B_ap, intB_int, listB_tup, listB_lst, listB_dct, tupB_tup, tupB_lst, srcO_tup, srcO_lst, srcO_dct, srcO_str, itemO_tup, itemO_lst, itemO_dct, add_ii, sub_ii, neg_i, add_lst, isiO_ap, tagO_non, tagO_bl, tagO_int, tagO_str, tagO_tup, tagO_lst, tagO_dct, tagO_ins, isB_b, isB_c, isC_b, isC_c, kk_non, kk_int, kk_str, kk_bl, kks_nil, atI_0, atI_1, atI_2, atI_3, in_strs, in_strsT, in_2, in_sign, asL_hd, asD_hd, itemO_hd, lenO_hd, add_hl, setO_hd, ixN_0, ixN_1, ixN_2, ixN_40, ixN_41, ixN_42, zMakeP_ap, sTry_ap, tried_nx, tried_rt, tried_exc, inI_some, inI_none, setI_some, setI_none, clearI_nx, clearI_rt, clearI_none, noX_nx, noX_rt, zXA_ap, zXIs_ap])
/-! dict comprehensions over different texts -/
section
variable {T : Tg} {tt : Ev Bool} {f g : Ev D} {ρ : Env'} {μ : Sto} {ds : List D}
theorem putD_new {ks vs : List D} {x : Str} {v : D} (h : D.str x ∉ ks) : putD ks vs (.str x) v = (ks ++ [.str x], vs ++ [v]) := by
  unfold putD
  simp! only
  have : D.ixOf ks (.text x) = none := by
    unfold D.ixOf
    rw [List.findIdx?_eq_none_iff]
    intro d hd
    rw [decide_eq_false_iff_not]
    intro e
    cases d <;> simp [D.key] at e
    subst e; exact h hd
  rw [this]
theorem dcF_nil {ks vs : List D} : dcF (ds, none) T tt f g ρ [] μ ks vs = .ok (ks, vs) μ := by
  rw [dcF]; exact if_pos trivial
theorem dcF_cons {ks vs : List D} {d : D} {r : List D} : dcF (ds, none) T tt f g ρ (d :: r) μ ks vs = match T d ρ with
    | none => .bad
    | some ρ1 => (tt ρ1 μ).nox.bind fun b μ1 => if b then (f ρ1 μ1).nox.bind fun kd μ2 => (g ρ1 μ2).nox.bind fun vd μ3 =>
        if kd.ky.isSome ∧ ks.length < lim then dcF (ds, none) T tt f g ρ r μ3 (putD ks vs kd vd).1 (putD ks vs kd vd).2 else .bad
      else dcF (ds, none) T tt f g ρ r μ1 ks vs := by
  rw [dcF, if_pos (show grd (ds, none) μ from trivial)]
  all_goals rfl
theorem dcF_of {α : Type} (emb : α → D) (c : α → Bool) (kf : α → Str) (vf : α → D) : ∀ (r : List α) (ks vs : List D), ks.length + r.length ≤ lim → (∀ a ∈ r, D.str (kf a) ∉ ks) → (r.map kf).Nodup →
    (∀ a ∈ r, ∃ ρ1, T (emb a) ρ = some ρ1 ∧ tt ρ1 μ = .ok (c a) μ ∧ (c a = true → f ρ1 μ = .ok (.str (kf a)) μ ∧ g ρ1 μ = .ok (vf a) μ)) →
    dcF (ds, none) T tt f g ρ (r.map emb) μ ks vs = .ok (ks ++ (r.filter c).map (fun a => D.str (kf a)), vs ++ (r.filter c).map vf) μ
  | [], ks, vs, _, _, _, _ => by simp [dcF_nil]
  | a :: r, ks, vs, hl, hk, hn, h => by
    obtain ⟨ρ1, e1, e2, e3⟩ := h a (by simp)
    simp only [List.length_cons] at hl
    simp only [List.map_cons, List.nodup_cons] at hn
    rw [List.map_cons, dcF_cons, e1]
    simp only [e2, nox_ok, bind_ok']
    cases hc : c a with
    | true =>
      obtain ⟨e4, e5⟩ := e3 hc
      rw [e4]
      simp only [nox_ok, bind_ok', if_true, e5]
      rw [if_pos ⟨rfl, by omega⟩, putD_new (hk a (by simp)), dcF_of emb c kf vf r _ _ (by simp; omega) (fun b hb => ?_) hn.2 (fun d hd => h d (by simp [hd]))]
      · simp [List.filter_cons, hc]
      · intro hm
        rcases List.mem_append.mp hm with hm | hm
        · exact hk b (by simp [hb]) hm
        · simp only [List.mem_singleton, D.str.injEq] at hm
          exact hn.1 (by rw [← hm]; exact List.mem_map.mpr ⟨b, hb, rfl⟩)
    | false =>
      simp only [Bool.false_eq_true, if_false]
      rw [dcF_of emb c kf vf r _ _ (by omega) (fun b hb => hk b (by simp [hb])) hn.2 (fun d hd => h d (by simp [hd]))]
      simp [List.filter_cons, hc]
theorem zDc_ap {m src own} : zDc m src T tt f g own ρ μ = (src ρ μ).bindT (fun p μ1 => (dcF p T tt f g (wipeE ρ own) p.1 μ1 [] []).bindT (fun q μ2 => mkD m q.1 q.2 μ2) Tie.mk) Tie.mk := rfl
end
theorem frzLs_cl {cls : Str → Option CI} {n : Nat} {μ : Sto} : ∀ {ds : List D}, D.cls ds = true → frzLs (frzD cls (n + 1)) ds μ = some (ds, μ)
  | [], _ => rfl
  | d :: ds, h => by
    simp only [D.cls, Bool.and_eq_true] at h
    have e : frzD cls (n + 1) d μ = some (d, μ) := by
      unfold frzD
      rw [if_pos h.1]
    unfold frzLs
    rw [e]
    simp only [frzLs_cl h.2]
/-- an instance with slots that is frozen -/
theorem frzD_ins {cls : Str → Option CI} {n i : Nat} {μ : Sto} {c : Str} {fs : List (Str × D)} {ci : CI} {ds : List D} (hm : μ[i]? = some (some (.ins c fs))) (hc : cls c = some ci) (hs : ci.slots = true) (hi : insFs ci fs = some ds) (hd : D.cls ds = true) :
    frzD cls (n + 2) (.hd i) μ = some (.ins c ds, μ.set i none) := by
  unfold frzD
  rw [if_neg (by simp [D.cl])]
  simp only [hm, hc, hs, if_true, hi, frzLs_cl hd]
theorem cls_Edition : cls "Edition" = some ⟨["called", "rules", "is_keeping", "sources"], true, false⟩ := rfl
def isBlD : D → Bool | .bl _ => true | _ => false
/-- the first fault of what an edition is made of -/
def edFault (nm fields kp src : D) : Option (Str × Str) :=
  if isName nm = true then match efault fields with
    | some p => some p
    | none => if isBlD kp = true then (if src.isNon = true ∨ areNames src = true then none else some ("reads", "")) else some ("keeps", "")
  else some ("name", "")
def rulesD : D → D
  | .dct ks vs => .dct ((knownOf ks).map .str) ((knownOf ks).map (valS ks vs))
  | d => d
def edD (nm fields kp src : D) : D := .ins "Edition" [nm, rulesD fields, kp, src]
theorem efault_none {d : D} (h : efault d = none) : ∃ ks vs, d = .dct ks vs ∧ 1 ≤ ks.length ∧ ks.length ≤ 5 ∧ (∀ f ∈ knownOf ks, isRule (valS ks vs f) f (knownOf ks) = true) ∧ ks = (namesOf ks).map .str ∧ ∀ f ∈ knownOf ks, leadsN (lookS ks vs) f ks.length f = false := by
  unfold efault at h
  split at h
  · rename_i ks vs
    unfold dfault at h
    split at h
    · rename_i hl
      split at h
      · cases h
      · rename_i e1
        split at h
        · cases h
        · rename_i hlt
          split at h
          · cases h
          · rename_i e2
            refine ⟨ks, vs, rfl, hl.1, hl.2, fun f hf => ?_, ?_, fun f hf => ?_⟩
            · simpa using List.find?_eq_none.mp e1 f hf
            · rw [namesOf_str]
              have h1 : (knownOf ks).length = (ks.filter isName).length := by
                unfold knownOf namesOf
                rw [length_sortS, List.length_map]
              have h2 := List.length_filter_le isName ks
              exact (List.filter_eq_self.mpr (List.length_filter_eq_length_iff.mp (by omega))).symm
            · simpa using List.find?_eq_none.mp e2 f hf
    · cases h
  · cases h
def NamesNd : D → Prop
  | .dct ks _ => (namesOf ks).Nodup
  | _ => True
theorem cls_of {ds : List D} (h : ∀ d ∈ ds, d.cl = true) : D.cls ds = true := by
  induction ds with
  | nil => rfl
  | cons d l ih =>
    simp only [D.cls, Bool.and_eq_true]
    exact ⟨h d (by simp), ih fun d hd => h d (by simp [hd])⟩
theorem pls_of {ds : List D} (h : ∀ d ∈ ds, d.pl = true) : D.pls ds = true := by
  induction ds with
  | nil => rfl
  | cons d l ih =>
    simp only [D.pls, Bool.and_eq_true]
    exact ⟨h d (by simp), ih fun d hd => h d (by simp [hd])⟩
theorem valS_pl {ks vs : List D} {x : Str} (h : D.pls vs = true) : (valS ks vs x).pl = true := by
  unfold valS
  cases e : lookS ks vs x with
  | none => rfl
  | some v => exact lookS_pl e h
theorem rulesD_cl {d : D} (h : d.pl = true) : (rulesD d).cl = true := by
  cases d with
  | dct ks vs =>
    simp only [D.pl, Bool.and_eq_true] at h
    unfold rulesD
    simp only [D.cl, Bool.and_eq_true]
    refine ⟨cls_strs _, cls_of fun d hd => ?_⟩
    obtain ⟨x, _, rfl⟩ := List.mem_map.mp hd
    exact D.pl_cl _ (valS_pl h.2)
  | _ => exact D.pl_cl _ h
theorem sp_Edition (nm fields kp src : D) (μ : Sto) (h1 : nm.pl = true) (h2 : fields.pl = true) (h3 : kp.pl = true) (h4 : src.pl = true) (hg : GoodD fields) (hn : NamesNd fields) (hs : ∀ ds, src = .tup ds → ds.length < 1000) :
    mkP cls "Edition" 5 fn_Edition__init ar_Edition_2_keeps_reads [nm, fields, kp, src] μ = exE (edFault nm fields kp src) (.ok (edD nm fields kp src) μ) μ := by
  have c1 := D.pl_cl _ h1
  have c2 := D.pl_cl _ h2
  have c3 := D.pl_cl _ h3
  have c4 := D.pl_cl _ h4
  have hr : ∀ o : Option (Str × Str), runF 6 ev_Edition__init [.hd 0, nm, fields, kp, src] [some (.ins "Edition" [])] =
      exE (edFault nm fields kp src) (.ok .non [some (.ins "Edition" [("sources", src), ("is_keeping", kp), ("rules", rulesD fields), ("called", nm)])]) [some (.ins "Edition" [])] := by
    intro o
    rw [runF_ap, ev_Edition__init]
    unfold edFault
    simp! only [sp_is_name nm _ h1]
    by_cases hN : isName nm = true
    · simp! only [hN, sp_look_at_fields fields _ h2 hg]
      cases hE : efault fields with
      | some p => simp! only [exE]
      | none =>
        simp! only [exE]
        have hB : isiO (isB "bool") kp [some (.ins "Edition" [])] = .ok (.bl (isBlD kp)) [some (.ins "Edition" [])] := by
          cases kp <;> first | (simp [D.pl] at h3; done) | (simp! only; rfl)
        cases hb : isBlD kp with
        | false => 
          cases kp <;> first | (simp [isBlD] at hb; done) | (simp [D.pl] at h3; done) | simp! only
        | true =>
          obtain ⟨b, rfl⟩ : ∃ b, kp = .bl b := by cases kp <;> first | exact ⟨_, rfl⟩ | cases hb
          simp! only [sp_are_names src _ h4 hs]
          obtain ⟨ks, vs, rfl, hl1, hl5, hru, hks, hld⟩ := efault_none hE
          have hnd : (knownOf ks).Nodup := by
            unfold knownOf
            exact ((List.mergeSort_perm (namesOf ks) strLe).nodup_iff).mpr hn
          have hlen : (namesOf ks).length = ks.length := by
            have := congrArg List.length hks
            rw [List.length_map] at this
            exact this.symm
          have hsort : ∀ ν, sortedB false [.lst ks] ν = .ok (.lst ((knownOf ks).map D.str)) ν := fun ν => by
            unfold sortedB
            simp! only
            rw [if_pos (by omega)]
            have : D.strs ks = some (namesOf ks) := by
              conv => lhs; rw [hks]
              exact strs_map _
            rw [this]
            rfl
          have fin : ((sAttr cls "called" (zVar 0) (zVar 1) [some (.hd 0), some nm, some (.dct ks vs), some (.bl b), some src, none] [some (.ins "Edition" [])]).then
              (sSeq (sAttr cls "rules" (zVar 0) (zDc false (zSrc (zB (sortedB false) (zCons (zB (listB false) (zCons (zVar 2) (zNil))) (zNil)))) (gN 5) (zYes) (zVar 5) (zIx (zVar 2) (zVar 5)) [5]))
  (sSeq (sAttr cls "is_keeping" (zVar 0) (zVar 3))
  (sAttr cls "sources" (zVar 0) (zVar 4))))).res = .ok .non [some (.ins "Edition" [("sources", src), ("is_keeping", .bl b), ("rules", rulesD (.dct ks vs)), ("called", nm)])] := by
            have s1 : satO cls "called" (.hd 0) nm [some (.ins "Edition" [])] = some [some (.ins "Edition" [("called", nm)])] := rfl
            have s2 : ∀ c, satO cls "rules" (.hd 0) c [some (.ins "Edition" [("called", nm)])] = some [some (.ins "Edition" [("rules", c), ("called", nm)])] := fun _ => rfl
            have s3 : ∀ c d, satO cls "is_keeping" (.hd 0) d [some (.ins "Edition" [("rules", c), ("called", nm)])] = some [some (.ins "Edition" [("is_keeping", d), ("rules", c), ("called", nm)])] := fun _ _ => rfl
            have s4 : ∀ c d e, satO cls "sources" (.hd 0) e [some (.ins "Edition" [("is_keeping", d), ("rules", c), ("called", nm)])] = some [some (.ins "Edition" [("sources", e), ("is_keeping", d), ("rules", c), ("called", nm)])] := fun _ _ _ => rfl
            simp! only [hsort, s1, zDc_ap]
            rw [dcF_of D.str (fun _ => true) id (valS ks vs) (knownOf ks) [] [] (by simp only [List.length_nil, lim, knownOf, length_sortS]; omega) (by simp) (by rw [List.map_id]; exact hnd) ?side]
            case side =>
              intro f hf
              refine ⟨_, rfl, rfl, fun _ => ⟨rfl, ?_⟩⟩
              have := valS_eq (mem_namesOf (mem_sortS.mp hf)).1 (show ks.length = vs.length from hg)
              simp! only [this]
            simp! only [s2, s3, s4, filter_tt, rulesD]
            rfl
          cases hsn : src.isNon with
          | true =>
            simp! only
            exact fin
          | false =>
            simp! only
            cases hsa : areNames src with
            | true => simp! only; exact fin
            | false => simp! only
    · have hN : isName nm = false := by simpa using hN
      simp! only [hN, exE]
  unfold mkP
  rw [if_pos (by simp [D.cls, c1, c2, c3, c4])]
  unfold mkO fn_Edition__init trimF
  have := hr none
  simp! only [ar_Edition_2_keeps_reads]
  rw [this]
  cases hf : edFault nm fields kp src with
  | some p =>
    obtain ⟨a, b⟩ := p
    simp! only [exE, trimR, D.hbs, D.hb, stoB, Node.hb, D.cls, D.cl]
    rfl
  | none =>
    have cr : (rulesD fields).cl = true := rulesD_cl h2
    have hb : stoB 1 [some (.ins "Edition" [("sources", src), ("is_keeping", kp), ("rules", rulesD fields), ("called", nm)])] = true := by
      simp [stoB, Node.hb, D.hbs, D.cl_hb _ c1, D.cl_hb _ cr, D.cl_hb _ c3, D.cl_hb _ c4]
    simp! only [exE, trimR, hb, D.hb]
    rw [show List.take 1 [some (Node.ins "Edition" [("sources", src), ("is_keeping", kp), ("rules", rulesD fields), ("called", nm)])] = [some (.ins "Edition" [("sources", src), ("is_keeping", kp), ("rules", rulesD fields), ("called", nm)])] from rfl]
    rw [frzD_ins (n := 7) (ds := [nm, rulesD fields, kp, src]) rfl cls_Edition rfl rfl (by simp [D.cls, c1, cr, c3, c4])]
    simp! only
    rw [if_pos (by simp [D.cl, D.cls, c1, cr, c3, c4])]
    rfl
end Z

namespace Z
open PySem
local macro_rules | `(tactic| simp! only [$ls,*]) => `(tactic| simp -dsimp -implicitDefEqProofs only [seval, sv_and_true, sv_true_and, sv_and_false, sv_false_and, sv_or_true, sv_true_or, sv_or_false, sv_false_or, sv_not_true, sv_not_false, sv_ft, sv_tf, sv_eqs, sv_bnt, sv_bnf, sv_bat, sv_bta, sv_baf, sv_bfa, sv_bot, sv_bto, sv_bof, sv_bfo, sv_dtr, sv_dfa, sv_dec, sv_ndec, sv_nb, sv_map_nil, sv_map_cons, sv_len_nil, sv_len_cons, sv_app_nil, sv_app_cons, sv_app_nil', sv_set_z, sv_set_s, sv_get_z, sv_get_s, sv_get_n, sv_rep_z, sv_rep_s, sv_rev_nil, sv_rev_1, sv_rev_2, sv_omap_s, sv_omap_n, sv_obind_s, sv_obind_n, sv_isEmpty_n, sv_isEmpty_c, sv_beq, lim_eq, bindT_ok, bindT_exc, outT_ok, outT_exc, bind_ok', bind_exc', out_ok, out_exc, then_nx, then_rt, then_bk, then_ct, then_exc, zVar_ap, zC_ap, zBin_ap, zUn_ap, zTru_ap, zChain_ap, zNotT_ap, zAndT_ap, zOrT_ap, zNot_ap, zAnd_ap, zOr_ap, zIf_ap, zNil_ap, zCons_ap, zTup_ap, zLst_ap, mkL_f, mkL_t, mkD_f, mkD_t, zCall_ap, zB_ap, zIx_ap, okO_some, bT_some', bO_some', zSrc_ap, zVals_ap, zItems_ap, zRng1_ap, zRng2_ap, zYes_ap, zD0_ap, zPart_ap, zNoPart_ap, zSl_ap, zRev_ap, zFrz_ap, zAttr_ap, sPass_ap, sBreak_ap, sCont_ap, sSeq_ap, sExp_ap, sRet_ap, sRetN_ap, sIf_ap, sAsg_ap, outO_some, gN_ap, gT_ap, gTs_nil, gTs_cons, sFor_ap, sSet_ap, outM_some, sRaise_ap, sAttr_ap, res_nx, res_rt, res_exc, loopF_nil, turn_nx, turn_ct, turn_bk, turn_rt, turn_exc, turnT_nx, turnT_ct, turnT_bk, turnT_rt, turnT_exc, nox_ok, lcF_nil, of_some, of_none, zLc_ap, wipeE_nil, wipeE_cons, le_ii, lt_ii, ge_ii, gt_ii, isN_ap, notN_ap, isB_ap, notB_ap, eq_ap, ne_ap, in_ap, nin_ap, eqO_int, eqO_str, eqO_bl, isNon_non, isNon_bl, isNon_int, isNon_str, isNon_tup, isNon_lst, isNon_dct, isNon_ins, truO_non, truO_bl, truO_int, truO_tup, truO_lst, truO_dct, asL_lst, asL_dct, asL_tup, asL_str, asL_int, asL_bl, asL_non, asL_ins, asD_dct, asD_lst, asT_tup, asT_lst, asT_dct, lenO_tup, lenO_lst, lenO_dct, lenB_ap, allB_ap, anyB_ap, sumB_ap, max2B_ap, intB_int, listB_tup, listB_lst, listB_dct, tupB_tup, tupB_lst, srcO_tup, srcO_lst, srcO_dct, srcO_str, itemO_tup, itemO_lst, itemO_dct, add_ii, sub_ii, neg_i, add_lst, isiO_ap, tagO_non, tagO_bl, tagO_int, tagO_str, tagO_tup, tagO_lst, tagO_dct, tagO_ins, isB_b, isB_c, isC_b, isC_c, kk_non, kk_int, kk_str, kk_bl, kks_nil, atI_0, atI_1, atI_2, atI_3, in_strs, in_strsT, in_2, in_sign, asL_hd, asD_hd, itemO_hd, lenO_hd, add_hl, setO_hd, ixN_0, ixN_1, ixN_2, ixN_40, ixN_41, ixN_42, zMakeP_ap, sTry_ap, tried_nx, tried_rt, tried_exc, inI_some, inI_none, setI_some, setI_none, clearI_nx, clearI_rt, clearI_none, noX_nx, noX_rt, zXA_ap, zXIs_ap, zDc_ap, $ls,*])
local macro_rules | `(tactic| simp! only) => `(tactic| simp -implicitDefEqProofs only [seval, sv_and_true, sv_true_and, sv_and_false, sv_false_and, sv_or_true, sv_true_or, sv_or_false, sv_false_or, sv_not_true, sv_not_false, sv_ft, sv_tf, sv_eqs, sv_bnt, sv_bnf, sv_bat, sv_bta, sv_baf, sv_bfa, sv_bot, sv_bto, sv_bof, sv_bfo, sv_dtr, sv_dfa, sv_dec, sv_ndec, sv_nb, sv_map_nil, sv_map_cons, sv_len_nil, sv_len_cons, sv_app_nil, sv_app_cons, sv_app_nil', sv_set_z, sv_set_s, sv_get_z, sv_get_s, sv_get_n, sv_rep_z, sv_rep_s, sv_rev_nil, sv_rev_1, sv_rev_2, sv_omap_s, sv_omap_n, sv_obind_s, sv_obind_n, sv_isEmpty_n, sv_isEmpty_c, sv_beq, lim_eq, bindT_ok, bindT_exc, outT_ok, outT_exc, bind_ok', bind_exc', out_ok, out_exc, then_nx, then_rt, then_bk, then_ct, then_exc, zVar_ap, zC_ap, zBin_ap, zUn_ap, zTru_ap, zChain_ap, zNotT_ap, zAndT_ap, zOrT_ap, zNot_ap, zAnd_ap, zOr_ap, zIf_ap, zNil_ap, zCons_ap, zTup_ap, zLst_ap, mkL_f, mkL_t, mkD_f, mkD_t, zCall_ap, zB_ap, zIx_ap, okO_some, bT_some', bO_some', zSrc_ap, zVals_ap, zItems_ap, zRng1_ap, zRng2_ap, zYes_ap, zD0_ap, zPart_ap, zNoPart_ap, zSl_ap, zRev_ap, zFrz_ap, zAttr_ap, sPass_ap, sBreak_ap, sCont_ap, sSeq_ap, sExp_ap, sRet_ap, sRetN_ap, sIf_ap, sAsg_ap, outO_some, gN_ap, gT_ap, gTs_nil, gTs_cons, sFor_ap, sSet_ap, outM_some, sRaise_ap, sAttr_ap, res_nx, res_rt, res_exc, loopF_nil, turn_nx, turn_ct, turn_bk, turn_rt, turn_exc, turnT_nx, turnT_ct, turnT_bk, turnT_rt, turnT_exc, nox_ok, lcF_nil, of_some, of_none, zLc_ap, wipeE_nil, wipeE_cons, le_ii, lt_ii, ge_ii, gt_ii, isN_ap, notN_ap, isB_ap, notB_ap, eq_ap, ne_ap, in_ap, nin_ap, eqO_int, eqO_str, eqO_bl, isNon_non, isNon_bl, isNon_int, isNon_str, isNon_tup, isNon_lst, isNon_dct, isNon_ins, truO_non, truO_bl, truO_int, truO_tup, truO_lst, truO_dct, asL_lst, asL_dct, asL_tup, asL_str, asL_int, asL_bl, asL_non, asL_ins, asD_dct, asD_lst, asT_tup, asT_lst, asT_dct, lenO_tup, lenO_lst, lenO_dct, lenB_ap, allB_ap, anyB_ap, sumB_ap, max2B_ap, intB_int, listB_tup, listB_lst, listB_dct, tupB_tup, tupB_lst, srcO_tup, srcO_lst, srcO_dct, srcO_str, itemO_tup, itemO_lst, itemO_dct, add_ii, sub_ii, neg_i, add_lst, isiO_ap, tagO_non, tagO_bl, tagO_int, tagO_str, tagO_tup, tagO_lst, tagO_dct, tagO_ins, isB_b, isB_c, isC_b, isC_c, kk_non, kk_int, kk_str, kk_bl, kks_nil, atI_0, atI_1, atI_2, atI_3, in_strs, in_strsT, in_2, in_sign, asL_hd, asD_hd, itemO_hd, lenO_hd, add_hl, setO_hd, ixN_0, ixN_1, ixN_2, ixN_40, ixN_41, ixN_42, zMakeP_ap, sTry_ap, tried_nx, tried_rt, tried_exc, inI_some, inI_none, setI_some, setI_none, clearI_nx, clearI_rt, clearI_none, noX_nx, noX_rt, zXA_ap, zXIs_ap, zDc_ap])
theorem nextF_ex (t : St) (b : Int) (h0 : 0 < b) (h1 : b < 1073741824) : ∃ (r : Int) (t' : St), 0 ≤ r ∧ r < b ∧ ∀ ν : Sto, runF 3 ev__law_next [.hd 1, .int b] (t.sto ++ ν) = .ok (.int r) (t'.sto ++ ν) := by
  obtain ⟨cells, s, i, hl⟩ := t
  have hmax : ∀ n : Nat, (if (n : Int) > 1 then (n : Int) else 1) = ((max 1 n : Nat) : Int) := fun n => by
    by_cases h : 1 < n
    · rw [if_pos (by omega), Nat.max_eq_right (by omega)]
    · rw [if_neg (by omega), Nat.max_eq_left (by omega)]; rfl
  -- the cell
  have hm1 : ((max 1 cells.length : Nat) : Int) ≠ 0 := by omega
  obtain ⟨m, hm⟩ : ∃ m : Nat, i.fmod ((max 1 cells.length : Nat) : Int) = (m : Int) ∧ m < max 1 cells.length := by
    have p1 := Int.fmod_nonneg_of_pos i (b := ((max 1 cells.length : Nat) : Int)) (by omega)
    have p2 := Int.fmod_lt_of_pos i (b := ((max 1 cells.length : Nat) : Int)) (by omega)
    exact ⟨(i.fmod ((max 1 cells.length : Nat) : Int)).toNat, by omega, by omega⟩
  obtain ⟨hme, hmlt⟩ := hm
  obtain ⟨cell, hcell⟩ : ∃ cell : Int, (cells.map D.int ++ [D.int 0])[m]? = some (.int cell) ∧ (cell ≠ 0 → m < cells.length ∧ cells[m]? = some cell) := by
    by_cases h : m < cells.length
    · refine ⟨cells[m], ?_, fun _ => ⟨h, by simp [h]⟩⟩
      rw [List.getElem?_append_left (by simpa using h)]; simp [h]
    · refine ⟨0, ?_, fun h => absurd rfl h⟩
      have : m = cells.length := by omega
      subst this
      rw [List.getElem?_append_right (by simp)]; simp
  obtain ⟨hc1, hc2⟩ := hcell
  have hadd : cells.length ≤ 15999999 := by omega
  have hb : b ≠ 0 := by omega
  have hbd : b ≠ 0 ∧ b.natAbs < 1073741824 := ⟨hb, by omega⟩
  have hpow : powO (.int 10) (.int 18) = fun μ => .ok (.int 1000000000000000000) μ := by
    funext μ
    show (if (0 : Int) ≤ 18 ∧ (18 : Int) ≤ 1000000 ∧ (10 : Int).natAbs < 2 ^ 64 then Res.ok (D.int ((10 : Int) ^ (18 : Int).toNat)) μ else .bad) = _
    rw [if_pos (by decide)]
    rfl
  have hm48 : ∀ x : Int, (-(2 ^ 64) < x ∧ x < 2 ^ 64) ∨ (-(2 ^ 64) < (48271 : Int) ∧ (48271 : Int) < 2 ^ 64) := fun _ => .inr (by decide)
  have hm69 : ∀ x : Int, (-(2 ^ 64) < x ∧ x < 2 ^ 64) ∨ (-(2 ^ 64) < (69621 : Int) ∧ (69621 : Int) < 2 ^ 64) := fun _ => .inr (by decide)
  have hm2 : (2147483647 : Int) ≠ 0 := by decide
  have h7 : (7 : Int) ≠ 0 ∧ (7 : Int).natAbs < 1073741824 := by decide
  by_cases hge : (1000000000000000000 : Int) ≤ cell
  · have hn0 : cell ≠ 0 := by
      intro h; rw [h] at hge; exact absurd hge (by decide)
    obtain ⟨hml, hcm⟩ := hc2 hn0
    have hmx : max 1 cells.length = cells.length := by omega
    have hlen0 : (cells.length : Int) ≠ 0 := by omega
    rw [hmx] at hme
    refine ⟨cell.fmod b, ⟨cells.set m (cell.fdiv b), s, i, by simpa using hl⟩, Int.fmod_nonneg_of_pos _ h0, Int.fmod_lt_of_pos _ h0, fun ν => ?_⟩
    rw [runF_ap, ev__law_next]
    unfold St.sto
    simp! only [hmax, mod_ii hm1, hmx, List.length_map, hme, atI_nat, hc1, hadd, hpow, hge, div_ii hbd, mod_ii hlen0, mod_ii hb, ixN_in hml, List.map_set]
  · refine ⟨(((s * 48271 + cell * 69621 + 11).fmod 2147483647).fdiv 7).fmod b, ⟨cells, (s * 48271 + cell * 69621 + 11).fmod 2147483647, i + 1, hl⟩, Int.fmod_nonneg_of_pos _ h0, Int.fmod_lt_of_pos _ h0, fun ν => ?_⟩
    rw [runF_ap, ev__law_next]
    unfold St.sto
    simp! only [hmax, mod_ii hm1, List.length_map, hme, atI_nat, hc1, hadd, hpow, hge, div_ii hbd, mod_ii hb, mul_ii (hm48 _), mul_ii (hm69 _), mod_ii hm2, div_ii h7]
noncomputable def nx (t : St) (b : Int) : Int × St := if h : 0 < b ∧ b < 1073741824 then ((nextF_ex t b h.1 h.2).choose, (nextF_ex t b h.1 h.2).choose_spec.choose) else (0, t)
theorem nx_lo (t : St) (b : Int) (h0 : 0 < b) (h1 : b < 1073741824) : 0 ≤ (nx t b).1 := by
  unfold nx; rw [dif_pos ⟨h0, h1⟩]; exact (nextF_ex t b h0 h1).choose_spec.choose_spec.1
theorem nx_hi (t : St) (b : Int) (h0 : 0 < b) (h1 : b < 1073741824) : (nx t b).1 < b := by
  unfold nx; rw [dif_pos ⟨h0, h1⟩]; exact (nextF_ex t b h0 h1).choose_spec.choose_spec.2.1
theorem sp_next (t : St) (b : Int) (ν : Sto) (h0 : 0 < b) (h1 : b < 1073741824) (hν : clN ν = true) : fn__law_next [.hd 1, .int b] (t.sto ++ ν) = .ok (.int (nx t b).1) ((nx t b).2.sto ++ ν) := by
  unfold nx; rw [dif_pos ⟨h0, h1⟩]
  exact trim_next hν rfl ((nextF_ex t b h0 h1).choose_spec.choose_spec.2.2 ν)
theorem mixF (ns : List Int) (hn : ns.length ≤ 63) (seed : Int) : ∃ t : St, fn__law_mix [.lst (ns.map D.int), .int seed] [] = .ok (.hd 1) t.sto := by
  have h1 : (2147483629 : Int) ≠ 0 := by decide
  have h2 : (2147483647 : Int) ≠ 0 := by decide
  have hm48 : ∀ x : Int, (-(2 ^ 64) < x ∧ x < 2 ^ 64) ∨ (-(2 ^ 64) < (48271 : Int) ∧ (48271 : Int) < 2 ^ 64) := fun _ => .inr (by decide)
  have turn : ∀ (a b : Option D) (s n : Int), bd__law_mix_0 [a, b, some (.int s), some (.int n)] [] = .nx [a, b, some (.int ((s * 48271 + n.fmod 2147483629 + 1).fmod 2147483647)), some (.int n)] [] := by
    intro a b s n
    unfold bd__law_mix_0
    simp! only [mul_ii (hm48 _), mod_ii h1, mod_ii h2]
  have key : ∀ (all : List D) (l : List Int) (s : Int) (a b x : Option D), ∃ (s' : Int) (x' : Option D), loopF (all, none) (gN 3) bd__law_mix_0 (l.map D.int) [a, b, some (.int s), x] [] = .nx [a, b, some (.int s'), x'] [] := by
    intro all l
    induction l with
    | nil => exact fun s a b x => ⟨s, x, by simp! only⟩
    | cons n l ih =>
      intro s a b x
      obtain ⟨s', x', e⟩ := ih ((s * 48271 + n.fmod 2147483629 + 1).fmod 2147483647) a b (some (.int n))
      refine ⟨s', x', ?_⟩
      simp! only [loopF_consT, turn]
      exact e
  obtain ⟨s', x', e⟩ := key (ns.map D.int) ns seed (some (.lst (ns.map D.int))) (some (.int seed)) none
  refine ⟨⟨ns, s', 0, hn⟩, ?_⟩
  unfold fn__law_mix rawF
  rw [runF_ap, ev__law_mix]
  simp! only [e]
  rfl
end Z

namespace Z
open PySem
local macro_rules | `(tactic| simp! only [$ls,*]) => `(tactic| simp -dsimp -implicitDefEqProofs only [seval, sv_and_true, sv_true_and, sv_and_false, sv_false_and, sv_or_true, sv_true_or, sv_or_false, sv_false_or, sv_not_true, sv_not_false, sv_ft, sv_tf, sv_eqs, sv_bnt, sv_bnf, sv_bat, sv_bta, sv_baf, sv_bfa, sv_bot, sv_bto, sv_bof, sv_bfo, sv_dtr, sv_dfa, sv_dec, sv_ndec, sv_nb, sv_map_nil, sv_map_cons, sv_len_nil, sv_len_cons, sv_app_nil, sv_app_cons, sv_app_nil', sv_set_z, sv_set_s, sv_get_z, sv_get_s, sv_get_n, sv_rep_z, sv_rep_s, sv_rev_nil, sv_rev_1, sv_rev_2, sv_omap_s, sv_omap_n, sv_obind_s, sv_obind_n, sv_isEmpty_n, sv_isEmpty_c, sv_beq, lim_eq, bindT_ok, bindT_exc, outT_ok, outT_exc, bind_ok', bind_exc', out_ok, out_exc, then_nx, then_rt, then_bk, then_ct, then_exc, zVar_ap, zC_ap, zBin_ap, zUn_ap, zTru_ap, zChain_ap, zNotT_ap, zAndT_ap, zOrT_ap, zNot_ap, zAnd_ap, zOr_ap, zIf_ap, zNil_ap, zCons_ap, zTup_ap, zLst_ap, mkL_f, mkL_t, mkD_f, mkD_t, zCall_ap, zB_ap, zIx_ap, okO_some, bT_some', bO_some', zSrc_ap, zVals_ap, zItems_ap, zRng1_ap, zRng2_ap, zYes_ap, zD0_ap, zPart_ap, zNoPart_ap, zSl_ap, zRev_ap, zFrz_ap, zAttr_ap, sPass_ap, sBreak_ap, sCont_ap, sSeq_ap, sExp_ap, sRet_ap, sRetN_ap, sIf_ap, sAsg_ap, outO_some, gN_ap, gT_ap, gTs_nil, gTs_cons, sFor_ap, sSet_ap, outM_some, sRaise_ap, sAttr_ap, res_nx, res_rt, res_exc, loopF_nil, turn_nx, turn_ct, turn_bk, turn_rt, turn_exc, turnT_nx, turnT_ct, turnT_bk, turnT_rt, turnT_exc, nox_ok, lcF_nil, of_some, of_none, zLc_ap, wipeE_nil, wipeE_cons, le_ii, lt_ii, ge_ii, gt_ii, isN_ap, notN_ap, isB_ap, notB_ap, eq_ap, ne_ap, in_ap, nin_ap, eqO_int, eqO_str, eqO_bl, isNon_non, isNon_bl, isNon_int, isNon_str, isNon_tup, isNon_lst, isNon_dct, isNon_ins, truO_non, truO_bl, truO_int, truO_tup, truO_lst, truO_dct, asL_lst, asL_dct, asL_tup, asL_str, asL_int, asL_bl, asL_non, asL_ins, asD_dct, asD_lst, asT_tup, asT_lst, asT_dct, lenO_tup, lenO_lst, lenO_dct, lenB_ap, allB_ap, anyB_ap, sumB_ap, max2B_ap, intB_int, listB_tup, listB_lst, listB_dct, tupB_tup, tupB_lst, srcO_tup, srcO_lst, srcO_dct, srcO_str, itemO_tup, itemO_lst, itemO_dct, add_ii, sub_ii, neg_i, add_lst, isiO_ap, tagO_non, tagO_bl, tagO_int, tagO_str, tagO_tup, tagO_lst, tagO_dct, tagO_ins, isB_b, isB_c, isC_b, isC_c, kk_non, kk_int, kk_str, kk_bl, kks_nil, atI_0, atI_1, atI_2, atI_3, in_strs, in_strsT, in_2, in_sign, asL_hd, asD_hd, itemO_hd, lenO_hd, add_hl, setO_hd, ixN_0, ixN_1, ixN_2, ixN_40, ixN_41, ixN_42, zMakeP_ap, sTry_ap, tried_nx, tried_rt, tried_exc, inI_some, inI_none, setI_some, setI_none, clearI_nx, clearI_rt, clearI_none, noX_nx, noX_rt, zXA_ap, zXIs_ap, zDc_ap, $ls,*])
local macro_rules | `(tactic| simp! only) => `(tactic| simp -implicitDefEqProofs only [seval, sv_and_true, sv_true_and, sv_and_false, sv_false_and, sv_or_true, sv_true_or, sv_or_false, sv_false_or, sv_not_true, sv_not_false, sv_ft, sv_tf, sv_eqs, sv_bnt, sv_bnf, sv_bat, sv_bta, sv_baf, sv_bfa, sv_bot, sv_bto, sv_bof, sv_bfo, sv_dtr, sv_dfa, sv_dec, sv_ndec, sv_nb, sv_map_nil, sv_map_cons, sv_len_nil, sv_len_cons, sv_app_nil, sv_app_cons, sv_app_nil', sv_set_z, sv_set_s, sv_get_z, sv_get_s, sv_get_n, sv_rep_z, sv_rep_s, sv_rev_nil, sv_rev_1, sv_rev_2, sv_omap_s, sv_omap_n, sv_obind_s, sv_obind_n, sv_isEmpty_n, sv_isEmpty_c, sv_beq, lim_eq, bindT_ok, bindT_exc, outT_ok, outT_exc, bind_ok', bind_exc', out_ok, out_exc, then_nx, then_rt, then_bk, then_ct, then_exc, zVar_ap, zC_ap, zBin_ap, zUn_ap, zTru_ap, zChain_ap, zNotT_ap, zAndT_ap, zOrT_ap, zNot_ap, zAnd_ap, zOr_ap, zIf_ap, zNil_ap, zCons_ap, zTup_ap, zLst_ap, mkL_f, mkL_t, mkD_f, mkD_t, zCall_ap, zB_ap, zIx_ap, okO_some, bT_some', bO_some', zSrc_ap, zVals_ap, zItems_ap, zRng1_ap, zRng2_ap, zYes_ap, zD0_ap, zPart_ap, zNoPart_ap, zSl_ap, zRev_ap, zFrz_ap, zAttr_ap, sPass_ap, sBreak_ap, sCont_ap, sSeq_ap, sExp_ap, sRet_ap, sRetN_ap, sIf_ap, sAsg_ap, outO_some, gN_ap, gT_ap, gTs_nil, gTs_cons, sFor_ap, sSet_ap, outM_some, sRaise_ap, sAttr_ap, res_nx, res_rt, res_exc, loopF_nil, turn_nx, turn_ct, turn_bk, turn_rt, turn_exc, turnT_nx, turnT_ct, turnT_bk, turnT_rt, turnT_exc, nox_ok, lcF_nil, of_some, of_none, zLc_ap, wipeE_nil, wipeE_cons, le_ii, lt_ii, ge_ii, gt_ii, isN_ap, notN_ap, isB_ap, notB_ap, eq_ap, ne_ap, in_ap, nin_ap, eqO_int, eqO_str, eqO_bl, isNon_non, isNon_bl, isNon_int, isNon_str, isNon_tup, isNon_lst, isNon_dct, isNon_ins, truO_non, truO_bl, truO_int, truO_tup, truO_lst, truO_dct, asL_lst, asL_dct, asL_tup, asL_str, asL_int, asL_bl, asL_non, asL_ins, asD_dct, asD_lst, asT_tup, asT_lst, asT_dct, lenO_tup, lenO_lst, lenO_dct, lenB_ap, allB_ap, anyB_ap, sumB_ap, max2B_ap, intB_int, listB_tup, listB_lst, listB_dct, tupB_tup, tupB_lst, srcO_tup, srcO_lst, srcO_dct, srcO_str, itemO_tup, itemO_lst, itemO_dct, add_ii, sub_ii, neg_i, add_lst, isiO_ap, tagO_non, tagO_bl, tagO_int, tagO_str, tagO_tup, tagO_lst, tagO_dct, tagO_ins, isB_b, isB_c, isC_b, isC_c, kk_non, kk_int, kk_str, kk_bl, kks_nil, atI_0, atI_1, atI_2, atI_3, in_strs, in_strsT, in_2, in_sign, asL_hd, asD_hd, itemO_hd, lenO_hd, add_hl, setO_hd, ixN_0, ixN_1, ixN_2, ixN_40, ixN_41, ixN_42, zMakeP_ap, sTry_ap, tried_nx, tried_rt, tried_exc, inI_some, inI_none, setI_some, setI_none, clearI_nx, clearI_rt, clearI_none, noX_nx, noX_rt, zXA_ap, zXIs_ap, zDc_ap])
theorem next_ex (t : St) (b : Int) (h0 : 0 < b) (h1 : b < 1073741824) : ∃ (r : Int) (t' : St), 0 ≤ r ∧ r < b ∧ ∀ ν : Sto, clN ν = true → fn__law_next [.hd 1, .int b] (t.sto ++ ν) = .ok (.int r) (t'.sto ++ ν) :=
  ⟨_, _, nx_lo t b h0 h1, nx_hi t b h0 h1, fun ν hν => sp_next t b ν h0 h1 hν⟩
theorem pick {l : List D} {r : Int} (h0 : 0 ≤ r) (h1 : r < l.length) : ∃ d, d ∈ l ∧ L2.atI l r = some d ∧ l[r.toNat]? = some d := by
  rw [atI_of h0]
  have : r.toNat < l.length := by omega
  exact ⟨l[r.toNat], List.getElem_mem this, by simp [this], by simp [this]⟩
theorem sto_len (t : St) : t.sto.length = 2 := rfl
theorem sto_get {t : St} {ν κ : Sto} {x : Option Node} : (t.sto ++ (ν ++ x :: κ))[2 + ν.length]? = some x := by
  rw [List.getElem?_append_right (by rw [sto_len]; omega), sto_len, List.getElem?_append_right (by omega)]
  have : 2 + ν.length - 2 - ν.length = 0 := by omega
  rw [this]; rfl
theorem sto_set {t : St} {ν κ : Sto} {x y : Option Node} : (t.sto ++ (ν ++ x :: κ)).set (2 + ν.length) y = t.sto ++ (ν ++ y :: κ) := by
  rw [List.set_append_right _ _ (by rw [sto_len]; omega), sto_len, List.set_append_right _ _ (by omega)]
  have : 2 + ν.length - 2 - ν.length = 0 := by omega
  rw [this]; rfl
theorem clN_push {ν : Sto} {m : Node} (h : clN ν = true) (hm : m.clN = true) : clN (ν ++ [some m]) = true := by
  unfold clN at *
  rw [List.all_append, h]
  simp [hm]
theorem ixOf_none {ks : List D} {x : Str} (h : D.str x ∉ ks) : D.ixOf ks (.text x) = none := by
  unfold D.ixOf
  rw [List.findIdx?_eq_none_iff]
  intro d hd
  rw [decide_eq_false_iff_not]
  intro e
  cases d <;> simp [D.key] at e
  subst e; exact h hd
/-- a rule that may stand at the k-th place -/
def RuleK (fs : List Str) (most : Int) (k : Nat) (v : D) : Prop := ∃ w, (∃ i, 0 ≤ i ∧ i ≤ most ∧ v = .tup [.int i, .bl w]) ∨ ∃ a g j, (a = ("same" : Str) ∨ a = ("next" : Str)) ∧ j < k ∧ fs[j]? = some g ∧ v = .tup [.tup [.str a, .str g], .bl w]
theorem RuleK.cl {fs : List Str} {most : Int} {k : Nat} {v : D} (h : RuleK fs most k v) : v.cl = true := by
  obtain ⟨w, ⟨i, _, _, rfl⟩ | ⟨a, g, j, _, _, _, rfl⟩⟩ := h <;> rfl
theorem ge_range' (k m : Nat) : List.range' k (m + 1) = k :: List.range' (k + 1) m := rfl
theorem take_succ_map {fs : List Str} {k : Nat} {x : Str} (h : fs[k]? = some x) : (fs.take (k + 1)).map D.str = (fs.take k).map D.str ++ [.str x] := by
  rw [List.take_add_one, h]; simp
/-- the store of the rules that are made -/
def rulesSt (ν : Sto) (fs : List Str) (k : Nat) (vs : List D) : Sto := ν ++ [some (.dct ((fs.take k).map .str) vs)]
theorem RuleK.cls {fs : List Str} {most : Int} {vs : List D} (h : ∀ (j : Nat) v, vs[j]? = some v → RuleK fs most j v) : D.cls vs = true := cls_of fun d hd => by
  obtain ⟨j, hj⟩ := List.getElem?_of_mem hd
  exact (h j d hj).cl
theorem take_not {fs : List Str} {k : Nat} {f : Str} (hnd : fs.Nodup) (hf : fs[k]? = some f) : D.str f ∉ (fs.take k).map D.str := by
  intro hm
  obtain ⟨g, hg, e⟩ := List.mem_map.mp hm
  injection e with e
  subst e
  have hk : k < fs.length := (List.getElem?_eq_some_iff.mp hf).1
  have e2 : fs = fs.take k ++ g :: fs.drop (k + 1) := by
    have h3 : fs[k] = g := (List.getElem?_eq_some_iff.mp hf).2
    rw [← h3, ← List.drop_eq_getElem_cons hk, List.take_append_drop]
  rw [e2] at hnd
  exact (List.nodup_append.mp hnd).2.2 g hg g (by simp) rfl
theorem rules_turn (t : St) (fs : List Str) (most : Int) (ν : Sto) (hnd : fs.Nodup) (hl : fs.length ≤ 1000) (h0 : 0 ≤ most) (h1 : most ≤ 1000) (hν : clN ν = true) (k : Nat) (hk : k < fs.length) (vs : List D) (hv : vs.length = k)
    (hr : ∀ (j : Nat) v, vs[j]? = some v → RuleK fs most j v) (y : Option D) :
    ∃ (t' : St) (d : D) (y' : Option D), RuleK fs most k d ∧ bd__law_rules_0 [some (.hd 1), some (.lst (fs.map .str)), some (.int most), some (.hd (2 + ν.length)), some (.int k), y] (t.sto ++ (ν ++ [some (.dct ((fs.take k).map .str) vs)])) =
      .nx [some (.hd 1), some (.lst (fs.map .str)), some (.int most), some (.hd (2 + ν.length)), some (.int k), y'] (t'.sto ++ (ν ++ [some (.dct ((fs.take (k + 1)).map .str) (vs ++ [d]))])) := by
  obtain ⟨f, hf⟩ : ∃ f, fs[k]? = some f := ⟨fs[k], by simp [hk]⟩
  have hcl : clN (ν ++ [some (.dct ((fs.take k).map .str) vs)]) = true := clN_push hν (by show (D.cls _ && D.cls _) = true; rw [cls_strs, RuleK.cls hr]; rfl)
  have hix := ixOf_none (take_not hnd hf)
  have hlt : ((fs.take k).map D.str).length < 16000000 := by
    simp only [List.length_map, List.length_take]; omega
  have hfi : L2.atI (fs.map D.str) (k : Int) = some (.str f) := by rw [atI_nat, List.getElem?_map, hf]; rfl
  obtain ⟨r1, t1, a1, b1, e1⟩ := next_ex t (most + 1) (by omega) (by omega)
  have e1 := e1 _ hcl
  unfold bd__law_rules_0
  rw [take_succ_map hf]
  by_cases hk0 : 0 < (k : Int)
  · obtain ⟨r2, t2, a2, b2, e2⟩ := next_ex t1 2 (by omega) (by omega)
    have e2 := e2 _ hcl
    by_cases hr2 : r2 = 0
    · obtain ⟨r3, t3, a3, b3, e3⟩ := next_ex t2 2 (by omega) (by omega)
      have e3 := e3 _ hcl
      obtain ⟨r5, t5, a5, b5, e5⟩ := next_ex t3 k hk0 (by omega)
      have e5 := e5 _ hcl
      obtain ⟨w, hw, ew, _⟩ := pick (l := [D.str "same", D.str "next"]) a3 b3
      obtain ⟨g, hg⟩ : ∃ g, fs[r5.toNat]? = some g := ⟨fs[r5.toNat]'(by omega), by simp⟩
      have eg : L2.atI (fs.map D.str) r5 = some (.str g) := by rw [atI_of a5, List.getElem?_map, hg]; rfl
      obtain ⟨a, rfl, ha⟩ : ∃ a : Str, w = .str a ∧ (a = "same" ∨ a = "next") := by
        rcases List.mem_cons.mp hw with h | h
        · exact ⟨_, h, .inl rfl⟩
        · exact ⟨_, List.mem_singleton.mp h, .inr rfl⟩
      obtain ⟨r4, t4, a4, b4, e4⟩ := next_ex t5 4 (by omega) (by omega)
      have e4 := e4 _ hcl
      refine ⟨t4, .tup [.tup [.str a, .str g], .bl (r4 == 0)], some (.tup [.str a, .str g]), ⟨_, .inr ⟨a, g, r5.toNat, ha, by omega, hg, rfl⟩⟩, ?_⟩
      simp! only [e1, hk0, e2, hr2, e3, ew, e5, eg, e4, sto_get, hix, hfi, sto_set, hlt]
    · have hr2' : (r2 == 0) = false := beq_eq_false_iff_ne.mpr hr2
      obtain ⟨r4, t4, a4, b4, e4⟩ := next_ex t2 4 (by omega) (by omega)
      have e4 := e4 _ hcl
      refine ⟨t4, .tup [.int r1, .bl (r4 == 0)], some (.int r1), ⟨_, .inl ⟨r1, a1, by omega, rfl⟩⟩, ?_⟩
      simp! only [e1, hk0, e2, hr2', e4, sto_get, hix, hfi, sto_set, hlt]
  · obtain ⟨r4, t4, a4, b4, e4⟩ := next_ex t1 4 (by omega) (by omega)
    have e4 := e4 _ hcl
    refine ⟨t4, .tup [.int r1, .bl (r4 == 0)], some (.int r1), ⟨_, .inl ⟨r1, a1, by omega, rfl⟩⟩, ?_⟩
    simp! only [e1, hk0, e4, sto_get, hix, hfi, sto_set, hlt]
theorem frz_dct {cls : Str → Option CI} {n i : Nat} {μ : Sto} {ks vs : List D} (hm : μ[i]? = some (some (.dct ks vs))) (hk : D.cls ks = true) (hv : D.cls vs = true) : frzD cls (n + 2) (.hd i) μ = some (.dct ks vs, μ.set i none) := by
  unfold frzD
  rw [if_neg (by simp [D.cl])]
  simp only [hm, hk, if_true, frzLs_cl hv]
theorem frzO_dct {cls : Str → Option CI} {i : Nat} {μ : Sto} {ks vs : List D} (hm : μ[i]? = some (some (.dct ks vs))) (hk : D.cls ks = true) (hv : D.cls vs = true) : frzO cls (.hd i) μ = .ok (.dct ks vs) (μ.set i none) := by
  unfold frzO
  rw [frz_dct hm hk hv]
theorem rulesF (t : St) (fs : List Str) (most : Int) (ν : Sto) (hnd : fs.Nodup) (hl : fs.length ≤ 1000) (h0 : 0 ≤ most) (h1 : most ≤ 1000) (hν : clN ν = true) :
    ∃ (t' : St) (vs : List D), fn__law_rules [.hd 1, .lst (fs.map .str), .int most] (t.sto ++ ν) = .ok (.dct (fs.map .str) vs) (t'.sto ++ ν) ∧ vs.length = fs.length ∧ ∀ (j : Nat) v, vs[j]? = some v → RuleK fs most j v := by
  let P : Nat → Env' → Sto → Prop := fun k ρ μ => k ≤ fs.length ∧ ∃ (t : St) (vs : List D) (x y : Option D), ρ = [some (.hd 1), some (.lst (fs.map .str)), some (.int most), some (.hd (2 + ν.length)), x, y] ∧ μ = t.sto ++ (ν ++ [some (.dct ((fs.take k).map .str) vs)]) ∧ vs.length = k ∧ ∀ (j : Nat) v, vs[j]? = some v → RuleK fs most j v
  rcases loop_inv0 (ds := (List.range fs.length).map fun i : Nat => D.int i) (T := gN 4) (body := bd__law_rules_0) (fun i : Nat => D.int i) P (fun _ => False) (List.range fs.length) [some (.hd 1), some (.lst (fs.map .str)), some (.int most), some (.hd (2 + ν.length)), none, none] (t.sto ++ (ν ++ [some (.dct [] [])]))
    ⟨Nat.zero_le _, t, [], none, none, rfl, rfl, rfl, fun j v h => by cases h⟩ (fun j a ρ μ hj hP => by
      obtain ⟨_, t, vs, x, y, rfl, rfl, hv, hr⟩ := hP
      have hjl : j < fs.length := by have := (List.getElem?_eq_some_iff.mp hj).1; simpa using this
      have : a = j := by rw [List.getElem?_range hjl] at hj; exact (Option.some.inj hj).symm
      subst this
      obtain ⟨t', d, y', hR, e⟩ := rules_turn t fs most ν hnd hl h0 h1 hν a hjl vs hv hr y
      refine ⟨_, rfl, .inl ⟨_, _, e, by omega, t', vs ++ [d], _, _, rfl, rfl, by simp [hv], fun j v hj => ?_⟩⟩
      by_cases hjk : j < vs.length
      · rw [List.getElem?_append_left hjk] at hj; exact hr j v hj
      · rw [List.getElem?_append_right (by omega)] at hj
        have hj0 : j - vs.length = 0 := by
          by_cases z : j - vs.length = 0
          · exact z
          · rw [List.getElem?_eq_none (by simp; omega)] at hj; cases hj
        rw [hj0] at hj
        have : v = d := by simpa using hj.symm
        subst this
        have : j = a := by omega
        subst this; exact hR) with ⟨ρ', μ', e, _, t', vs, x, y, rfl, rfl, hv, hr⟩ | h
  · rw [List.length_range] at e hv
    refine ⟨t', vs, ?_, hv, hr⟩
    refine trim_more (κ := [none]) hν (by show (D.cls _ && D.cls _) = true; rw [cls_strs, RuleK.cls hr]; rfl) ?_
    rw [runF_ap, ev__law_rules]
    have hlen : (t.sto ++ ν).length = 2 + ν.length := by rw [List.length_append, sto_len]
    rw [List.take_of_length_le (Nat.le_refl _)] at e
    simp! only [rng1_nat (show fs.length ≤ 1000000 by omega), List.length_map, hlen, List.append_assoc, e, frzO_dct sto_get (cls_strs _) (RuleK.cls hr), sto_set]
  · exact h.elim
end Z

namespace Z
open PySem
local macro_rules | `(tactic| simp! only [$ls,*]) => `(tactic| simp -dsimp -implicitDefEqProofs only [seval, sv_and_true, sv_true_and, sv_and_false, sv_false_and, sv_or_true, sv_true_or, sv_or_false, sv_false_or, sv_not_true, sv_not_false, sv_ft, sv_tf, sv_eqs, sv_bnt, sv_bnf, sv_bat, sv_bta, sv_baf, sv_bfa, sv_bot, sv_bto, sv_bof, sv_bfo, sv_dtr, sv_dfa, sv_dec, sv_ndec, sv_nb, sv_map_nil, sv_map_cons, sv_len_nil, sv_len_cons, sv_app_nil, sv_app_cons, sv_app_nil', sv_set_z, sv_set_s, sv_get_z, sv_get_s, sv_get_n, sv_rep_z, sv_rep_s, sv_rev_nil, sv_rev_1, sv_rev_2, sv_omap_s, sv_omap_n, sv_obind_s, sv_obind_n, sv_isEmpty_n, sv_isEmpty_c, sv_beq, lim_eq, bindT_ok, bindT_exc, outT_ok, outT_exc, bind_ok', bind_exc', out_ok, out_exc, then_nx, then_rt, then_bk, then_ct, then_exc, zVar_ap, zC_ap, zBin_ap, zUn_ap, zTru_ap, zChain_ap, zNotT_ap, zAndT_ap, zOrT_ap, zNot_ap, zAnd_ap, zOr_ap, zIf_ap, zNil_ap, zCons_ap, zTup_ap, zLst_ap, mkL_f, mkL_t, mkD_f, mkD_t, zCall_ap, zB_ap, zIx_ap, okO_some, bT_some', bO_some', zSrc_ap, zVals_ap, zItems_ap, zRng1_ap, zRng2_ap, zYes_ap, zD0_ap, zPart_ap, zNoPart_ap, zSl_ap, zRev_ap, zFrz_ap, zAttr_ap, sPass_ap, sBreak_ap, sCont_ap, sSeq_ap, sExp_ap, sRet_ap, sRetN_ap, sIf_ap, sAsg_ap, outO_some, gN_ap, gT_ap, gTs_nil, gTs_cons, sFor_ap, sSet_ap, outM_some, sRaise_ap, sAttr_ap, res_nx, res_rt, res_exc, loopF_nil, turn_nx, turn_ct, turn_bk, turn_rt, turn_exc, turnT_nx, turnT_ct, turnT_bk, turnT_rt, turnT_exc, nox_ok, lcF_nil, of_some, of_none, zLc_ap, wipeE_nil, wipeE_cons, le_ii, lt_ii, ge_ii, gt_ii, isN_ap, notN_ap, isB_ap, notB_ap, eq_ap, ne_ap, in_ap, nin_ap, eqO_int, eqO_str, eqO_bl, isNon_non, isNon_bl, isNon_int, isNon_str, isNon_tup, isNon_lst, isNon_dct, isNon_ins, truO_non, truO_bl, truO_int, truO_tup, truO_lst, truO_dct, asL_lst, asL_dct, asL_tup, asL_str, asL_int, asL_bl, asL_non, asL_ins, asD_dct, asD_lst, asT_tup, asT_lst, asT_dct, lenO_tup, lenO_lst, lenO_dct, lenB_ap, allB_ap, anyB_ap, sumB_ap, max2B_ap, intB_int, listB_tup, listB_lst, listB_dct, tupB_tup, tupB_lst, srcO_tup, srcO_lst, srcO_dct, srcO_str, itemO_tup, itemO_lst, itemO_dct, add_ii, sub_ii, neg_i, add_lst, isiO_ap, tagO_non, tagO_bl, tagO_int, tagO_str, tagO_tup, tagO_lst, tagO_dct, tagO_ins, isB_b, isB_c, isC_b, isC_c, kk_non, kk_int, kk_str, kk_bl, kks_nil, atI_0, atI_1, atI_2, atI_3, in_strs, in_strsT, in_2, in_sign, asL_hd, asD_hd, itemO_hd, lenO_hd, add_hl, setO_hd, ixN_0, ixN_1, ixN_2, ixN_40, ixN_41, ixN_42, zMakeP_ap, sTry_ap, tried_nx, tried_rt, tried_exc, inI_some, inI_none, setI_some, setI_none, clearI_nx, clearI_rt, clearI_none, noX_nx, noX_rt, zXA_ap, zXIs_ap, zDc_ap, $ls,*])
local macro_rules | `(tactic| simp! only) => `(tactic| simp -implicitDefEqProofs only [seval, sv_and_true, sv_true_and, sv_and_false, sv_false_and, sv_or_true, sv_true_or, sv_or_false, sv_false_or, sv_not_true, sv_not_false, sv_ft, sv_tf, sv_eqs, sv_bnt, sv_bnf, sv_bat, sv_bta, sv_baf, sv_bfa, sv_bot, sv_bto, sv_bof, sv_bfo, sv_dtr, sv_dfa, sv_dec, sv_ndec, sv_nb, sv_map_nil, sv_map_cons, sv_len_nil, sv_len_cons, sv_app_nil, sv_app_cons, sv_app_nil', sv_set_z, sv_set_s, sv_get_z, sv_get_s, sv_get_n, sv_rep_z, sv_rep_s, sv_rev_nil, sv_rev_1, sv_rev_2, sv_omap_s, sv_omap_n, sv_obind_s, sv_obind_n, sv_isEmpty_n, sv_isEmpty_c, sv_beq, lim_eq, bindT_ok, bindT_exc, outT_ok, outT_exc, bind_ok', bind_exc', out_ok, out_exc, then_nx, then_rt, then_bk, then_ct, then_exc, zVar_ap, zC_ap, zBin_ap, zUn_ap, zTru_ap, zChain_ap, zNotT_ap, zAndT_ap, zOrT_ap, zNot_ap, zAnd_ap, zOr_ap, zIf_ap, zNil_ap, zCons_ap, zTup_ap, zLst_ap, mkL_f, mkL_t, mkD_f, mkD_t, zCall_ap, zB_ap, zIx_ap, okO_some, bT_some', bO_some', zSrc_ap, zVals_ap, zItems_ap, zRng1_ap, zRng2_ap, zYes_ap, zD0_ap, zPart_ap, zNoPart_ap, zSl_ap, zRev_ap, zFrz_ap, zAttr_ap, sPass_ap, sBreak_ap, sCont_ap, sSeq_ap, sExp_ap, sRet_ap, sRetN_ap, sIf_ap, sAsg_ap, outO_some, gN_ap, gT_ap, gTs_nil, gTs_cons, sFor_ap, sSet_ap, outM_some, sRaise_ap, sAttr_ap, res_nx, res_rt, res_exc, loopF_nil, turn_nx, turn_ct, turn_bk, turn_rt, turn_exc, turnT_nx, turnT_ct, turnT_bk, turnT_rt, turnT_exc, nox_ok, lcF_nil, of_some, of_none, zLc_ap, wipeE_nil, wipeE_cons, le_ii, lt_ii, ge_ii, gt_ii, isN_ap, notN_ap, isB_ap, notB_ap, eq_ap, ne_ap, in_ap, nin_ap, eqO_int, eqO_str, eqO_bl, isNon_non, isNon_bl, isNon_int, isNon_str, isNon_tup, isNon_lst, isNon_dct, isNon_ins, truO_non, truO_bl, truO_int, truO_tup, truO_lst, truO_dct, asL_lst, asL_dct, asL_tup, asL_str, asL_int, asL_bl, asL_non, asL_ins, asD_dct, asD_lst, asT_tup, asT_lst, asT_dct, lenO_tup, lenO_lst, lenO_dct, lenB_ap, allB_ap, anyB_ap, sumB_ap, max2B_ap, intB_int, listB_tup, listB_lst, listB_dct, tupB_tup, tupB_lst, srcO_tup, srcO_lst, srcO_dct, srcO_str, itemO_tup, itemO_lst, itemO_dct, add_ii, sub_ii, neg_i, add_lst, isiO_ap, tagO_non, tagO_bl, tagO_int, tagO_str, tagO_tup, tagO_lst, tagO_dct, tagO_ins, isB_b, isB_c, isC_b, isC_c, kk_non, kk_int, kk_str, kk_bl, kks_nil, atI_0, atI_1, atI_2, atI_3, in_strs, in_strsT, in_2, in_sign, asL_hd, asD_hd, itemO_hd, lenO_hd, add_hl, setO_hd, ixN_0, ixN_1, ixN_2, ixN_40, ixN_41, ixN_42, zMakeP_ap, sTry_ap, tried_nx, tried_rt, tried_exc, inI_some, inI_none, setI_some, setI_none, clearI_nx, clearI_rt, clearI_none, noX_nx, noX_rt, zXA_ap, zXIs_ap, zDc_ap])
/-! ### rings: eight turns are enough -/
def leadsAt (R : Str → Option D) (f : Str) : Nat → Str → Prop
  | 0, _ => False
  | 1, a => nextOf R a = some f
  | n + 2, a => ∃ b, nextOf R a = some b ∧ b ≠ f ∧ leadsAt R f (n + 1) b
theorem leadsAt_uniq {R : Str → Option D} {f : Str} : ∀ {n m : Nat} {a : Str}, leadsAt R f n a → leadsAt R f m a → n = m
  | 0, _, _, h, _ => h.elim
  | _, 0, _, _, h => h.elim
  | 1, 1, _, _, _ => rfl
  | 1, m + 2, a, h1, h2 => by
    obtain ⟨b, e, hb, _⟩ := h2
    have h1 : nextOf R a = some f := h1
    rw [h1] at e; injection e with e; exact absurd e.symm hb
  | n + 2, 1, a, h1, h2 => by
    obtain ⟨b, e, hb, _⟩ := h1
    have h2 : nextOf R a = some f := h2
    rw [h2] at e; injection e with e; exact absurd e.symm hb
  | n + 2, m + 2, a, h1, h2 => by
    obtain ⟨b, e, hb, q1⟩ := h1
    obtain ⟨c, e', hc, q2⟩ := h2
    rw [e] at e'; injection e' with e'; subst e'
    have := leadsAt_uniq q1 q2
    omega
theorem leadsN_iff {R : Str → Option D} {f : Str} : ∀ {n : Nat} {a : Str}, leadsN R f n a = true ↔ ∃ k, k ≤ n ∧ leadsAt R f k a
  | 0, a => by
    constructor
    · intro h; cases h
    · rintro ⟨k, hk, h⟩
      have : k = 0 := by omega
      subst this; exact h.elim
  | n + 1, a => by
    unfold leadsN
    cases e : nextOf R a with
    | none =>
      constructor
      · intro h; cases h
      · rintro ⟨k, _, h⟩
        match k, h with
        | 0, h => exact h.elim
        | 1, h => have h : nextOf R a = some f := h; rw [e] at h; cases h
        | k + 2, ⟨b, e', _⟩ => rw [e] at e'; cases e'
    | some b =>
      by_cases hb : b = f
      · subst hb
        simp only [if_true, true_iff]
        exact ⟨1, by omega, e⟩
      · simp only [hb, if_false]
        rw [leadsN_iff]
        constructor
        · rintro ⟨k, hk, h⟩
          match k, h with
          | 0, h => exact h.elim
          | k + 1, h => exact ⟨k + 2, by omega, b, e, hb, h⟩
        · rintro ⟨k, hk, h⟩
          match k, h with
          | 0, h => exact h.elim
          | 1, h =>
            have h : nextOf R a = some f := h
            rw [e] at h; injection h with h; exact absurd h hb
          | k + 2, ⟨c, e', _, h⟩ =>
            rw [e] at e'; injection e' with e'; subst e'
            exact ⟨k + 1, by omega, h⟩
theorem nodup_sub_len : ∀ {l m : List Str}, l.Nodup → (∀ x ∈ l, x ∈ m) → l.length ≤ m.length
  | [], _, _, _ => Nat.zero_le _
  | a :: l, m, hn, hs => by
    simp only [List.nodup_cons] at hn
    have h1 := nodup_sub_len (l := l) (m := m.erase a) hn.2 fun x hx => (List.mem_erase_of_ne (by rintro rfl; exact hn.1 hx)).mpr (hs x (by simp [hx]))
    have h2 := List.length_erase_of_mem (hs a (by simp))
    have h3 := List.length_pos_of_mem (hs a (by simp))
    simp only [List.length_cons]; omega
theorem leadsAt_path {R : Str → Option D} {f : Str} {kn : List Str} (hc : ∀ a ∈ kn, ∀ b, nextOf R a = some b → b ∈ kn) : ∀ {k : Nat} {a : Str}, leadsAt R f k a → a ∈ kn →
    ∃ l : List Str, l.length = k ∧ l.Nodup ∧ (∀ x ∈ l, x ∈ kn) ∧ ∀ x ∈ l, ∃ j, j ≤ k ∧ leadsAt R f j x
  | 0, _, h, _ => h.elim
  | 1, a, h, ha => ⟨[a], rfl, by simp, by simpa using ha, by simpa using ⟨1, Nat.le_refl _, h⟩⟩
  | k + 2, a, h, ha => by
    obtain ⟨b, e, hb, h2⟩ := id h
    obtain ⟨l, l1, l2, l3, l4⟩ := leadsAt_path hc h2 (hc a ha b e)
    refine ⟨a :: l, by simp [l1], ?_, ?_, ?_⟩
    · simp only [List.nodup_cons]
      refine ⟨fun hm => ?_, l2⟩
      obtain ⟨j, hj, hj2⟩ := l4 a hm
      have := leadsAt_uniq h hj2
      omega
    · intro x hx
      rcases List.mem_cons.mp hx with rfl | hx
      · exact ha
      · exact l3 x hx
    · intro x hx
      rcases List.mem_cons.mp hx with rfl | hx
      · exact ⟨_, Nat.le_refl _, h⟩
      · obtain ⟨j, q1, q2⟩ := l4 x hx
        exact ⟨j, by omega, q2⟩
/-- more turns than there are names tell nothing more -/
theorem leadsN_more {R : Str → Option D} {f : Str} {kn : List Str} {n m : Nat} (hc : ∀ a ∈ kn, ∀ b, nextOf R a = some b → b ∈ kn) (hf : f ∈ kn) (hn : kn.length ≤ n) (hm : kn.length ≤ m) : leadsN R f n f = leadsN R f m f := by
  rw [Bool.eq_iff_iff, leadsN_iff, leadsN_iff]
  have key : ∀ k, leadsAt R f k f → k ≤ kn.length := fun k h => by
    obtain ⟨l, l1, l2, l3, _⟩ := leadsAt_path hc h hf
    rw [← l1]; exact nodup_sub_len l2 l3
  constructor
  · rintro ⟨k, _, h⟩; exact ⟨k, Nat.le_trans (key k h) hm, h⟩
  · rintro ⟨k, _, h⟩; exact ⟨k, Nat.le_trans (key k h) hn, h⟩
theorem next_closed {ks vs : List D} {kn : List Str} (hg : ∀ a ∈ kn, ∃ v, lookS ks vs a = some v ∧ isRule v a kn = true) : ∀ a ∈ kn, ∀ b, nextOf (lookS ks vs) a = some b → b ∈ kn := by
  intro a ha b hb
  obtain ⟨v, e1, e2⟩ := hg a ha
  rcases isRule_cases e2 with ⟨i, w, rfl, _⟩ | ⟨c, g, w, rfl, _, hgk, _⟩
  · simp [nextOf, e1] at hb
  · simp only [nextOf, e1, Option.some.injEq] at hb
    subst hb; exact hgk
/-! ### the law's own looks -/
theorem sp_law_name (d : D) (μ : Sto) (h : d.pl = true) : fn__law_name [d] μ = .ok (.bl (isName d)) μ := by
  refine purF_ok (ν := []) (by simp [D.cls, D.pl_cl d h]) ?_ rfl
  rw [runF_ap, ev__law_name]
  cases d with
  | str x =>
    have hl : x.length ≤ lim := of_decide_eq_true h
    by_cases h1 : 1 ≤ x.length
    · by_cases h8 : x.length ≤ 8
      · have h1' : (1 : Int) ≤ (x.length : Int) := by omega
        have h8' : (x.length : Int) ≤ 8 := by omega
        simp! only [lenO_str hl, h1', h8']
        rw [lcF_of (emb := fun c => D.str ⟨#[c]⟩) (c := fun _ => true) (g := fun c => D.bl (decide (c ∈ letters.cps.toList))) x.cps.toList [] (by simpa [Str.length] using hl) (fun c _ => ⟨_, rfl, rfl, fun _ => rfl⟩)]
        simp! only [bls_map, all_map_id, filter_tt, isName, isNameS, h1, h8]
      · have h1' : (1 : Int) ≤ (x.length : Int) := by omega
        have h8' : ¬ (x.length : Int) ≤ 8 := by omega
        simp! only [lenO_str hl, h1', h8', isName, isNameS, h1, h8]
    · have h1' : ¬ (1 : Int) ≤ (x.length : Int) := by omega
      simp! only [lenO_str hl, h1', isName, isNameS, h1]
  | _ => first | (simp [D.pl] at h; done) | simp! only [isName]
theorem sp_law_good (v : D) (f : Str) (kn : List Str) (μ : Sto) (h : v.pl = true) : fn__law_good [v, .str f, .lst (kn.map .str)] μ = .ok (.bl (isRule v f kn)) μ := by
  refine purF_ok (ν := []) (by simp [D.cls, D.cl, D.pl_cl v h, cls_strs]) ?_ rfl
  rw [runF_ap, ev__law_good]
  cases v with
  | tup ds =>
    rcases ds with _ | ⟨d, _ | ⟨b, _ | ⟨c, r⟩⟩⟩
    · simp! only [isRule]
    · simp! only [isRule]
    · simp [D.pl, D.pls] at h
      cases b with
      | bl w =>
        cases d with
        | tup es =>
          rcases es with _ | ⟨a, _ | ⟨b, _ | ⟨c, r⟩⟩⟩
          · simp! only [isRule, isDefault]
          · simp! only [isRule, isDefault]
          · simp [D.pl, D.pls] at h
            cases a with
            | str a =>
              cases hA : (decide (a = "same") || decide (a = "next")) with
              | true =>
                cases b with
                | str b =>
                  by_cases hB : b ∈ kn <;> simp! only [isRule, isDefault, hA, hB]
                | _ => first | (simp [D.pl] at h; done) | simp! only [isRule, isDefault, hA]
              | false =>
                cases b with
                | str b => simp! only [isRule, isDefault, hA]
                | _ => first | (simp [D.pl] at h; done) | simp! only [isRule, isDefault, hA]
            | _ => first | (simp [D.pl] at h; done) | simp! only [isRule, isDefault]
          · have : (((r.length + 1 + 1 + 1 : Nat) : Int) == 2) = false := by
              rw [beq_eq_false_iff_ne]; omega
            simp! only [isRule, isDefault, this]
        | int i => by_cases h1 : 0 ≤ i <;> simp! only [isRule, isDefault, h1]
        | _ => first | (simp [D.pl] at h; done) | simp! only [isRule, isDefault]
      | _ => first | (simp [D.pl] at h; done) | simp! only [isRule]
    · have : (((r.length + 1 + 1 + 1 : Nat) : Int) == 2) = false := by
        rw [beq_eq_false_iff_ne]; omega
      simp! only [isRule, this]
  | _ => first | (simp [D.pl] at h; done) | simp! only [isRule]
theorem sp_law_ring (ks vs : List D) (f : Str) (kn : List Str) (μ : Sto) (hc : D.pls ks = true ∧ D.pls vs = true) (hf : f ∈ kn) (hg : ∀ a ∈ kn, ∃ v, lookS ks vs a = some v ∧ isRule v a kn = true) :
    fn__law_ring [.dct ks vs, .str f] μ = .ok (.bl (leadsN (lookS ks vs) f 8 f)) μ := by
  refine purF_ok (ν := []) (by simp [D.cls, D.cl, D.pls_cls _ hc.1, D.pls_cls _ hc.2]) ?_ rfl
  rw [runF_ap, ev__law_ring]
  have key : ∀ (all : List D) (l : List Nat) (a : Str) (x y : Option D), a ∈ kn → 
      ((loopF (all, none) (gN 3) bd__law_ring_0 (l.map fun i : Nat => D.int i) [some (.dct ks vs), some (.str f), some (.str a), x, y] []).then (sRet (zC (.bl false)))).res = .ok (.bl (leadsN (lookS ks vs) f l.length a)) [] := by
    intro all l
    induction l with
    | nil => intro a x y ha; simp! only; rfl
    | cons n l ih =>
      intro a x y ha
      obtain ⟨v, e1, e2⟩ := hg a ha
      have e1' : D.look ks vs (.text a) = some v := e1
      rcases isRule_cases e2 with ⟨i, w, rfl, _⟩ | ⟨c, b, w, rfl, hc, hb, hn⟩
      · have tn : bd__law_ring_0 [some (.dct ks vs), some (.str f), some (.str a), some (.int n), y] [] = .rt (.bl false) [] := by
          unfold bd__law_ring_0; simp! only [e1']
        simp! only [loopF_consT, tn, leadsN, nextOf, e1]
      · by_cases q : b = f
        · subst q
          have tn : bd__law_ring_0 [some (.dct ks vs), some (.str b), some (.str a), some (.int n), y] [] = .rt (.bl true) [] := by
            unfold bd__law_ring_0; simp! only [e1']
          simp! only [loopF_consT, tn, leadsN, nextOf, e1]
        · have q' : (b == f) = false := beq_eq_false_iff_ne.mpr q
          have tn : ∃ z, bd__law_ring_0 [some (.dct ks vs), some (.str f), some (.str a), some (.int n), y] [] = .nx [some (.dct ks vs), some (.str f), some (.str b), some (.int n), z] [] := by
            refine ⟨some (.tup [.str c, .str b]), ?_⟩
            unfold bd__law_ring_0; simp! only [e1', q']
          obtain ⟨z, tn⟩ := tn
          simp! only [loopF_consT, tn, leadsN, nextOf, e1, q]
          exact ih b _ _ hb
  have hr : rng1O [.int 8] = some ((List.range 8).map fun i : Nat => D.int i, none) := rng1_nat (n := 8) (by omega)
  simp! only [hr]
  have := key ((List.range 8).map fun i : Nat => D.int i) (List.range 8) f none none hf
  rw [List.length_range] at this
  exact this
def dueD : Option (Str × Str) → D
  | some (a, b) => .tup [.str a, .str b]
  | none => .non
theorem dueD_cl (o : Option (Str × Str)) : (dueD o).cl = true := by cases o <;> rfl
theorem sp_law_due (nm fields kp src : D) (μ : Sto) (h1 : nm.pl = true) (h2 : fields.pl = true) (h3 : kp.pl = true) (h4 : src.pl = true) (hg : GoodD fields) (hs : ∀ ds, src = .tup ds → ds.length < 1000) :
    fn__law_due [nm, fields, kp, src] μ = .ok (dueD (edFault nm fields kp src)) μ := by
  refine purF_ok (ν := []) (by simp [D.cls, D.pl_cl _ h1, D.pl_cl _ h2, D.pl_cl _ h3, D.pl_cl _ h4]) ?_ (dueD_cl _)
  rw [runF_ap, ev__law_due]
  unfold edFault
  by_cases hN : isName nm = true
  · cases fields with
    | dct ks vs =>
      have hl : ks.length = vs.length := hg
      have hp : D.pls ks = true ∧ D.pls vs = true := by simpa only [D.pl, Bool.and_eq_true] using h2
      unfold efault dfault
      by_cases h1' : 1 ≤ ks.length
      · by_cases h5 : ks.length ≤ 5
        · have i1 : (1 : Int) ≤ (ks.length : Int) := by omega
          have i5 : (ks.length : Int) ≤ 5 := by omega
          simp! only [sp_law_name nm _ h1, hN, i1, i5, h1', h5]
          rw [lcF_map isName id ks [] (by simp only [List.length_nil, lim]; omega) ?side]
          case side => exact fun d hd => ⟨_, rfl, by simp! only [sp_law_name d [] (pls_mem hp.1 hd)], fun _ => rfl⟩
          have hlen : (namesOf ks).length ≤ ks.length := by
            unfold namesOf
            rw [List.length_map]
            exact List.length_filter_le _ _
          have hsr : sortedB false [.lst ((ks.filter isName).map id)] [] = .ok (.lst ((knownOf ks).map D.str)) [] := by
            rw [List.map_id, ← namesOf_str]
            unfold sortedB
            simp! only
            rw [if_pos (by rw [List.length_map]; omega), strs_map]
            rfl
          simp! only [hsr]
          have hk : ∀ f ∈ knownOf ks, D.str f ∈ ks := fun f hf => (mem_namesOf (mem_sortS.mp hf)).1
          have step1 : ∃ x, loopF ((knownOf ks).map D.str, none) (gN 5) bd__law_due_0 ((knownOf ks).map D.str) [some nm, some (.dct ks vs), some kp, some src, some (.lst ((knownOf ks).map D.str)), none, none, none] [] = Out.of ((knownOf ks).find? (fun f => !isRule (valS ks vs f) f (knownOf ks))) (fun f => .rt (.tup [.str "rule", .str f]) []) (.nx ([some nm, some (.dct ks vs), some kp, some src, some (.lst ((knownOf ks).map D.str)), none, none, none].set 5 x) []) := by
            refine loop_of (μ := []) (i := 5) D.str (fun f => !isRule (valS ks vs f) f (knownOf ks)) (fun f => .rt (.tup [.str "rule", .str f]) []) (fun _ _ => rfl) (knownOf ks) [some nm, some (.dct ks vs), some kp, some src, some (.lst ((knownOf ks).map D.str)), none, none, none] (by simp) ?_
            intro f hf
            have e := valS_eq (hk f hf) hl
            have e2 := sp_law_good (valS ks vs f) f (knownOf ks) [] (lookS_pl e hp.2)
            unfold bd__law_due_0
            simp! only [e, e2]
          obtain ⟨x1, step1⟩ := step1
          rw [step1]
          cases e1 : (knownOf ks).find? fun f => !isRule (valS ks vs f) f (knownOf ks) with
          | some f => simp! only [dueD]
          | none =>
            by_cases hlt : (knownOf ks).length < ks.length
            · have hlt' : (((knownOf ks).length : Int) < (ks.length : Int)) := by omega
              simp! only [dueD, List.length_map, hlt, hlt']
            · have hlt' : ¬ (((knownOf ks).length : Int) < (ks.length : Int)) := by omega
              have hr : ∀ a ∈ knownOf ks, ∃ v, lookS ks vs a = some v ∧ isRule v a (knownOf ks) = true := fun a ha => by
                refine ⟨_, valS_eq (hk a ha) hl, ?_⟩
                have := List.find?_eq_none.mp e1 a ha
                simpa using this
              have hkl : (knownOf ks).length ≤ ks.length := by
                unfold knownOf; rw [length_sortS]; exact hlen
              have step2 : ∃ x, loopF ((knownOf ks).map D.str, none) (gN 5) bd__law_due_1 ((knownOf ks).map D.str) [some nm, some (.dct ks vs), some kp, some src, some (.lst ((knownOf ks).map D.str)), x1, none, none] [] = Out.of ((knownOf ks).find? (fun f => leadsN (lookS ks vs) f ks.length f)) (fun f => .rt (.tup [.str "ring", .str f]) []) (.nx ([some nm, some (.dct ks vs), some kp, some src, some (.lst ((knownOf ks).map D.str)), x1, none, none].set 5 x) []) := by
                refine loop_of (μ := []) (i := 5) D.str (fun f => leadsN (lookS ks vs) f ks.length f) (fun f => .rt (.tup [.str "ring", .str f]) []) (fun _ _ => rfl) (knownOf ks) [some nm, some (.dct ks vs), some kp, some src, some (.lst ((knownOf ks).map D.str)), x1, none, none] (by simp) ?_
                intro f hf
                have e2 := sp_law_ring ks vs f (knownOf ks) [] hp hf hr
                rw [leadsN_more (next_closed hr) hf (n := 8) (m := ks.length) (by omega) hkl] at e2
                unfold bd__law_due_1
                simp! only [e2]
              obtain ⟨x2, step2⟩ := step2
              simp! only [List.length_map, hlt, hlt', step2]
              cases e3 : (knownOf ks).find? fun f => leadsN (lookS ks vs) f ks.length f with
              | some f => simp! only [dueD]
              | none =>
                cases kp with
                | bl kb =>
                  cases src with
                  | non => simp! only [isBlD, dueD]
                  | tup ds =>
                    have hlen := hs ds rfl
                    have hps : D.pls ds = true := h4
                    simp! only [isBlD]
                    rw [lcF_map (fun _ => true) (fun d => .bl (isName d)) ds [] (by simp only [List.length_nil, lim]; omega) ?side3]
                    case side3 => exact fun d hd => ⟨_, rfl, rfl, fun _ => by simp! only [sp_law_name d [] (pls_mem hps hd)]⟩
                    simp! only [bls_map, all_map_id, filter_tt, areNames]
                    by_cases ha : ds.all isName = true
                    case neg =>
                      have ha : ds.all isName = false := by simpa using ha
                      simp! only [ha, dueD]
                    case pos =>
                      have hstr : D.strs ds = some (ds.map strOf) := by
                        rw [← strs_map, map_strOf (fun d hd => List.all_eq_true.mp ha d hd)]
                      have hn : lenSetO (.tup ds) [] = some (ddS (ds.map strOf) ds.length).length := by
                        unfold lenSetO
                        simp only [hstr, List.length_map]
                        rw [if_pos hlen]
                      by_cases hd : (ddS (ds.map strOf) ds.length).length = ds.length
                      · have hd' : (((ddS (ds.map strOf) ds.length).length : Int) == (ds.length : Int)) = true := by
                          rw [beq_iff_eq]; omega
                        simp! only [ha, lenSetB, hn, hd', hd, dueD]
                      · have hd' : (((ddS (ds.map strOf) ds.length).length : Int) == (ds.length : Int)) = false := by
                          rw [beq_eq_false_iff_ne]; omega
                        simp! only [ha, lenSetB, hn, hd', hd, dueD]
                  | _ => first | (simp [D.pl] at h4; done) | simp! only [isBlD, areNames, dueD]
                | _ => first | (simp [D.pl] at h3; done) | simp! only [isBlD, dueD]
        · have i1 : (1 : Int) ≤ (ks.length : Int) := by omega
          have i5 : ¬ (ks.length : Int) ≤ 5 := by omega
          simp! only [sp_law_name nm _ h1, hN, i1, i5, h1', h5, dueD]
      · have i1 : ¬ (1 : Int) ≤ (ks.length : Int) := by omega
        simp! only [sp_law_name nm _ h1, hN, i1, h1', dueD]
    | _ => first | (simp [D.pl] at h2; done) | simp! only [sp_law_name nm _ h1, hN, efault, dueD]
  · have hN : isName nm = false := by simpa using hN
    simp! only [sp_law_name nm _ h1, hN, dueD]
end Z

namespace Z
open PySem
local macro_rules | `(tactic| simp! only [$ls,*]) => `(tactic| simp -dsimp -implicitDefEqProofs only [seval, sv_and_true, sv_true_and, sv_and_false, sv_false_and, sv_or_true, sv_true_or, sv_or_false, sv_false_or, sv_not_true, sv_not_false, sv_ft, sv_tf, sv_eqs, sv_bnt, sv_bnf, sv_bat, sv_bta, sv_baf, sv_bfa, sv_bot, sv_bto, sv_bof, sv_bfo, sv_dtr, sv_dfa, sv_dec, sv_ndec, sv_nb, sv_map_nil, sv_map_cons, sv_len_nil, sv_len_cons, sv_app_nil, sv_app_cons, sv_app_nil', sv_set_z, sv_set_s, sv_get_z, sv_get_s, sv_get_n, sv_rep_z, sv_rep_s, sv_rev_nil, sv_rev_1, sv_rev_2, sv_omap_s, sv_omap_n, sv_obind_s, sv_obind_n, sv_isEmpty_n, sv_isEmpty_c, sv_beq, lim_eq, bindT_ok, bindT_exc, outT_ok, outT_exc, bind_ok', bind_exc', out_ok, out_exc, then_nx, then_rt, then_bk, then_ct, then_exc, zVar_ap, zC_ap, zBin_ap, zUn_ap, zTru_ap, zChain_ap, zNotT_ap, zAndT_ap, zOrT_ap, zNot_ap, zAnd_ap, zOr_ap, zIf_ap, zNil_ap, zCons_ap, zTup_ap, zLst_ap, mkL_f, mkL_t, mkD_f, mkD_t, zCall_ap, zB_ap, zIx_ap, okO_some, bT_some', bO_some', zSrc_ap, zVals_ap, zItems_ap, zRng1_ap, zRng2_ap, zYes_ap, zD0_ap, zPart_ap, zNoPart_ap, zSl_ap, zRev_ap, zFrz_ap, zAttr_ap, sPass_ap, sBreak_ap, sCont_ap, sSeq_ap, sExp_ap, sRet_ap, sRetN_ap, sIf_ap, sAsg_ap, outO_some, gN_ap, gT_ap, gTs_nil, gTs_cons, sFor_ap, sSet_ap, outM_some, sRaise_ap, sAttr_ap, res_nx, res_rt, res_exc, loopF_nil, turn_nx, turn_ct, turn_bk, turn_rt, turn_exc, turnT_nx, turnT_ct, turnT_bk, turnT_rt, turnT_exc, nox_ok, lcF_nil, of_some, of_none, zLc_ap, wipeE_nil, wipeE_cons, le_ii, lt_ii, ge_ii, gt_ii, isN_ap, notN_ap, isB_ap, notB_ap, eq_ap, ne_ap, in_ap, nin_ap, eqO_int, eqO_str, eqO_bl, isNon_non, isNon_bl, isNon_int, isNon_str, isNon_tup, isNon_lst, isNon_dct, isNon_ins, truO_non, truO_bl, truO_int, truO_tup, truO_lst, truO_dct, asL_lst, asL_dct, asL_tup, asL_str, asL_int, asL_bl, asL_non, asL_ins, asD_dct, asD_lst, asT_tup, asT_lst, asT_dct, lenO_tup, lenO_lst, lenO_dct, lenB_ap, allB_ap, anyB_ap, sumB_ap, max2B_ap, intB_int, listB_tup, listB_lst, listB_dct, tupB_tup, tupB_lst, srcO_tup, srcO_lst, srcO_dct, srcO_str, itemO_tup, itemO_lst, itemO_dct, add_ii, sub_ii, neg_i, add_lst, isiO_ap, tagO_non, tagO_bl, tagO_int, tagO_str, tagO_tup, tagO_lst, tagO_dct, tagO_ins, isB_b, isB_c, isC_b, isC_c, kk_non, kk_int, kk_str, kk_bl, kks_nil, atI_0, atI_1, atI_2, atI_3, in_strs, in_strsT, in_2, in_sign, asL_hd, asD_hd, itemO_hd, lenO_hd, add_hl, setO_hd, ixN_0, ixN_1, ixN_2, ixN_40, ixN_41, ixN_42, zMakeP_ap, sTry_ap, tried_nx, tried_rt, tried_exc, inI_some, inI_none, setI_some, setI_none, clearI_nx, clearI_rt, clearI_none, noX_nx, noX_rt, zXA_ap, zXIs_ap, zDc_ap, $ls,*])
local macro_rules | `(tactic| simp! only) => `(tactic| simp -implicitDefEqProofs only [seval, sv_and_true, sv_true_and, sv_and_false, sv_false_and, sv_or_true, sv_true_or, sv_or_false, sv_false_or, sv_not_true, sv_not_false, sv_ft, sv_tf, sv_eqs, sv_bnt, sv_bnf, sv_bat, sv_bta, sv_baf, sv_bfa, sv_bot, sv_bto, sv_bof, sv_bfo, sv_dtr, sv_dfa, sv_dec, sv_ndec, sv_nb, sv_map_nil, sv_map_cons, sv_len_nil, sv_len_cons, sv_app_nil, sv_app_cons, sv_app_nil', sv_set_z, sv_set_s, sv_get_z, sv_get_s, sv_get_n, sv_rep_z, sv_rep_s, sv_rev_nil, sv_rev_1, sv_rev_2, sv_omap_s, sv_omap_n, sv_obind_s, sv_obind_n, sv_isEmpty_n, sv_isEmpty_c, sv_beq, lim_eq, bindT_ok, bindT_exc, outT_ok, outT_exc, bind_ok', bind_exc', out_ok, out_exc, then_nx, then_rt, then_bk, then_ct, then_exc, zVar_ap, zC_ap, zBin_ap, zUn_ap, zTru_ap, zChain_ap, zNotT_ap, zAndT_ap, zOrT_ap, zNot_ap, zAnd_ap, zOr_ap, zIf_ap, zNil_ap, zCons_ap, zTup_ap, zLst_ap, mkL_f, mkL_t, mkD_f, mkD_t, zCall_ap, zB_ap, zIx_ap, okO_some, bT_some', bO_some', zSrc_ap, zVals_ap, zItems_ap, zRng1_ap, zRng2_ap, zYes_ap, zD0_ap, zPart_ap, zNoPart_ap, zSl_ap, zRev_ap, zFrz_ap, zAttr_ap, sPass_ap, sBreak_ap, sCont_ap, sSeq_ap, sExp_ap, sRet_ap, sRetN_ap, sIf_ap, sAsg_ap, outO_some, gN_ap, gT_ap, gTs_nil, gTs_cons, sFor_ap, sSet_ap, outM_some, sRaise_ap, sAttr_ap, res_nx, res_rt, res_exc, loopF_nil, turn_nx, turn_ct, turn_bk, turn_rt, turn_exc, turnT_nx, turnT_ct, turnT_bk, turnT_rt, turnT_exc, nox_ok, lcF_nil, of_some, of_none, zLc_ap, wipeE_nil, wipeE_cons, le_ii, lt_ii, ge_ii, gt_ii, isN_ap, notN_ap, isB_ap, notB_ap, eq_ap, ne_ap, in_ap, nin_ap, eqO_int, eqO_str, eqO_bl, isNon_non, isNon_bl, isNon_int, isNon_str, isNon_tup, isNon_lst, isNon_dct, isNon_ins, truO_non, truO_bl, truO_int, truO_tup, truO_lst, truO_dct, asL_lst, asL_dct, asL_tup, asL_str, asL_int, asL_bl, asL_non, asL_ins, asD_dct, asD_lst, asT_tup, asT_lst, asT_dct, lenO_tup, lenO_lst, lenO_dct, lenB_ap, allB_ap, anyB_ap, sumB_ap, max2B_ap, intB_int, listB_tup, listB_lst, listB_dct, tupB_tup, tupB_lst, srcO_tup, srcO_lst, srcO_dct, srcO_str, itemO_tup, itemO_lst, itemO_dct, add_ii, sub_ii, neg_i, add_lst, isiO_ap, tagO_non, tagO_bl, tagO_int, tagO_str, tagO_tup, tagO_lst, tagO_dct, tagO_ins, isB_b, isB_c, isC_b, isC_c, kk_non, kk_int, kk_str, kk_bl, kks_nil, atI_0, atI_1, atI_2, atI_3, in_strs, in_strsT, in_2, in_sign, asL_hd, asD_hd, itemO_hd, lenO_hd, add_hl, setO_hd, ixN_0, ixN_1, ixN_2, ixN_40, ixN_41, ixN_42, zMakeP_ap, sTry_ap, tried_nx, tried_rt, tried_exc, inI_some, inI_none, setI_some, setI_none, clearI_nx, clearI_rt, clearI_none, noX_nx, noX_rt, zXA_ap, zXIs_ap, zDc_ap])
theorem next_ex0 (t : St) (b : Int) (h0 : 0 < b) (h1 : b < 1073741824) : ∃ (r : Int) (t' : St), 0 ≤ r ∧ r < b ∧ fn__law_next [.hd 1, .int b] t.sto = .ok (.int r) t'.sto ∧ True := by
  obtain ⟨r, t', a, b, e⟩ := next_ex t b h0 h1
  have := e [] rfl
  rw [List.append_nil, List.append_nil] at this
  exact ⟨r, t', a, b, this, trivial⟩
/-- a dict of plain things -/
structure DOk (ks vs : List D) : Prop where
  len : ks.length = vs.length
  pk : D.pls ks = true
  pv : D.pls vs = true
  nd : ∃ ns, D.kks ks = some ns ∧ ns.Nodup
  dk : ∀ d ∈ ks, d.depth ≤ 3
  dv : ∀ d ∈ vs, d.depth ≤ 9
def FOK : D → Prop
  | .dct ks vs => DOk ks vs ∧ ks.length ≤ 20
  | d => d.pl = true ∧ d.depth ≤ 9
theorem pls_set {v : D} : ∀ {vs : List D} {j : Nat}, D.pls vs = true → v.pl = true → D.pls (vs.set j v) = true
  | [], _, _, _ => rfl
  | d :: vs, 0, h, hv => by
    simp only [D.pls, Bool.and_eq_true, List.set_cons_zero] at h ⊢
    exact ⟨hv, h.2⟩
  | d :: vs, j + 1, h, hv => by
    simp only [D.pls, Bool.and_eq_true, List.set_cons_succ] at h ⊢
    exact ⟨h.1, pls_set h.2 hv⟩
theorem pls_append {a b : List D} (ha : D.pls a = true) (hb : D.pls b = true) : D.pls (a ++ b) = true := by
  induction a with
  | nil => exact hb
  | cons d a ih =>
    simp only [List.cons_append, D.pls, Bool.and_eq_true] at ha ⊢
    exact ⟨ha.1, ih ha.2⟩
theorem kks_append {a b : List D} {ns ms : List NK} (ha : D.kks a = some ns) (hb : D.kks b = some ms) : D.kks (a ++ b) = some (ns ++ ms) := by
  induction a generalizing ns with
  | nil => cases ha; exact hb
  | cons d a ih =>
    rw [kks_cons] at ha
    rw [List.cons_append, kks_cons]
    cases e1 : d.kk with
    | none => rw [e1] at ha; cases ha
    | some k =>
      cases e2 : D.kks a with
      | none => rw [e1, e2] at ha; cases ha
      | some ks =>
        rw [e1, e2] at ha; cases ha
        rw [ih e2]; rfl
theorem kks_mem {ks : List D} {ns : List NK} (h : D.kks ks = some ns) {n : NK} (hn : n ∈ ns) : ∃ d ∈ ks, d.kk = some n := by
  induction ks generalizing ns with
  | nil => cases h; simp at hn
  | cons e ks ih =>
    rw [kks_cons] at h
    cases e1 : e.kk with
    | none => rw [e1] at h; cases h
    | some k =>
      cases e2 : D.kks ks with
      | none => rw [e1, e2] at h; cases h
      | some ms =>
        rw [e1, e2] at h; cases h
        rcases List.mem_cons.mp hn with rfl | hn
        · exact ⟨e, by simp, e1⟩
        · obtain ⟨d, q1, q2⟩ := ih e2 hn
          exact ⟨d, by simp [q1], q2⟩
theorem putD_old {ks vs : List D} {kd v : D} {n : NK} {j : Nat} (hk : kd.kk = some n) (e : D.ixOf ks n = some j) : putD ks vs kd v = (ks, vs.set j v) := by
  unfold putD; simp only [hk, e]
theorem putD_add {ks vs : List D} {kd v : D} {n : NK} (hk : kd.kk = some n) (e : D.ixOf ks n = none) : putD ks vs kd v = (ks ++ [kd], vs ++ [v]) := by
  unfold putD; simp only [hk, e]
theorem DOk.put {ks vs : List D} (h : DOk ks vs) {kd v : D} {n : NK} (hk : kd.kk = some n) (hp : kd.pl = true) (hv : v.pl = true) (hd1 : kd.depth ≤ 3) (hd2 : v.depth ≤ 9) :
    DOk (putD ks vs kd v).1 (putD ks vs kd v).2 ∧ (putD ks vs kd v).1.length ≤ ks.length + 1 := by
  cases e : D.ixOf ks n with
  | some j =>
    rw [putD_old hk e]
    refine ⟨⟨by simp [h.len], h.pk, pls_set h.pv hv, h.nd, h.dk, fun d hd => ?_⟩, by simp⟩
    rcases List.mem_or_eq_of_mem_set hd with hd | rfl
    · exact h.dv d hd
    · exact hd2
  | none =>
    rw [putD_add hk e]
    refine ⟨⟨by simp [h.len], pls_append h.pk (by simp [D.pls, hp]), pls_append h.pv (by simp [D.pls, hv]), ?_, fun d hd => ?_, fun d hd => ?_⟩, by simp⟩
    · obtain ⟨ns, q1, q2⟩ := h.nd
      refine ⟨ns ++ [n], kks_append q1 (by rw [kks_cons, hk]; rfl), List.nodup_append.mpr ⟨q2, by simp, fun a ha b hb e2 => ?_⟩⟩
      have hb : b = n := by simpa using hb
      subst hb; subst e2
      obtain ⟨d, hd, hdk⟩ := kks_mem q1 ha
      unfold D.ixOf at e
      rw [List.findIdx?_eq_none_iff] at e
      have := e d hd
      rw [decide_eq_false_iff_not] at this
      exact this (kk_key hdk).1
    · rcases List.mem_append.mp hd with hd | hd
      · exact h.dk d hd
      · rw [List.mem_singleton.mp hd]; exact hd1
    · rcases List.mem_append.mp hd with hd | hd
      · exact h.dv d hd
      · rw [List.mem_singleton.mp hd]; exact hd2
/-- a store to a dict in the store -/
theorem setO_put {μ : Sto} {i : Nat} {ks vs : List D} {kd v : D} {n : NK} (hm : μ[i]? = some (some (.dct ks vs))) (hk : kd.kk = some n) (hl : ks.length ≤ 1000) : setO (.hd i) kd v μ = some (μ.set i (some (.dct (putD ks vs kd v).1 (putD ks vs kd v).2))) := by
  have hl' : ks.length < lim := by simp only [lim]; omega
  rw [setO_hd, hm]
  simp only [hk]
  unfold putD
  simp only [hk]
  cases D.ixOf ks n with
  | some j => rfl
  | none => simp only [hl', if_true]
theorem kys_strs (xs : List Str) : ∃ l, D.kys (xs.map .str) = some l := by
  induction xs with
  | nil => exact ⟨_, rfl⟩
  | cons x xs ih =>
    obtain ⟨l, e⟩ := ih
    exact ⟨.inr x :: l, by simp [D.kys, D.ky, e]⟩
theorem sorted_strs {m : Bool} {xs : List Str} {μ : Sto} (h : xs.length < 64) : sortedB m [.lst (xs.map .str)] μ = mkL m ((sortS xs).map D.str) μ := by
  unfold sortedB
  simp! only [List.length_map, h, strs_map]
def odds1 : List D := [.tup [.int 0], .tup [.bl true, .bl false], .tup [.int 4, .bl false], .tup [.int (-1), .bl true], .tup [.int 0, .int 0], .lst [.int 0, .bl false], .non, .tup [.tup [.str "same", .str "none"], .bl false], .tup [.int 3, .non]]
def odds2 (f o : Str) : List D := [.tup [.tup [.str "same", .str f], .bl false], .tup [.tup [.str "more", .str o], .bl false], .tup [.tup [.str "next", .str o], .bl true], .tup [.tup [.str "same", .str o], .bl false]]
def odds3 (o : Str) : List D := [.tup [.tup [.str "next"], .bl false], .tup [.tup [.str "same", .int 1], .bl false], .tup [.tup [.int 1, .str o], .bl false], .tup [.tup [.str "next", .str o, .str o], .bl true]]
theorem trim0 {t t' : St} {κ : Sto} {r : D} (hr : r.cl = true) {F : Fn} {ds : List D} (e : F ds t.sto = .ok r (t'.sto ++ κ)) : trimF F ds t.sto = .ok r t'.sto := by
  have := trim_more (t := t) (t' := t') (ν := []) (κ := κ) rfl hr (F := F) (ds := ds) (by rw [List.append_nil, List.nil_append]; exact e)
  rwa [List.append_nil, List.append_nil] at this
theorem sto_get2 {t : St} {x : Option Node} : (t.sto ++ [x])[2]? = some x := rfl
theorem sto_set2 {t : St} {x y : Option Node} : (t.sto ++ [x]).set 2 y = t.sto ++ [y] := rfl
theorem depth_str (x : Str) : (D.str x).depth = 0 := rfl
def FOKn (n : Nat) (d : D) : Prop := match d with
  | .dct ks vs => DOk ks vs ∧ ks.length ≤ n
  | d => d.pl = true ∧ d.depth ≤ 9
def oddKeys : List D := [.str "", .str "A", .str "a b", .int 5, .non, .str "abcdefghi", .bl true, .tup [.str "a"]]
theorem oddKeys_ok : ∀ d ∈ oddKeys, (∃ n, d.kk = some n) ∧ d.pl = true ∧ d.depth ≤ 3 := by
  intro d hd
  simp only [oddKeys, List.mem_cons, List.not_mem_nil, or_false] at hd
  rcases hd with rfl | rfl | rfl | rfl | rfl | rfl | rfl | rfl
  all_goals exact ⟨⟨_, rfl⟩, by decide, by decide⟩
theorem pl_tup {ds : List D} : (D.tup ds).pl = D.pls ds := rfl
theorem pl_lst {ds : List D} : (D.lst ds).pl = D.pls ds := rfl
theorem pl_bl {b : Bool} : (D.bl b).pl = true := rfl
theorem pl_int {b : Int} : (D.int b).pl = true := rfl
theorem pl_non : D.non.pl = true := rfl
theorem pls_nil : D.pls [] = true := rfl
theorem pls_cons {d : D} {ds : List D} : D.pls (d :: ds) = (d.pl && D.pls ds) := rfl
theorem pl_same : (D.str "same").pl = true := by decide
theorem pl_next : (D.str "next").pl = true := by decide
theorem pl_more : (D.str "more").pl = true := by decide
theorem pl_none : (D.str "none").pl = true := by decide
theorem spoiltF (t : St) (xs : List Str) (vs : List D) (h : DOk (xs.map .str) vs) (hx : xs ≠ []) (hl : xs.length ≤ 10) :
    ∃ (t' : St) (d : D), fn__law_spoilt [.hd 1, .dct (xs.map .str) vs] t.sto = .ok d t'.sto ∧ FOKn (xs.length + 1) d := by
  have hpos : 0 < xs.length := List.length_pos_iff.mpr hx
  obtain ⟨r1, t1, a1, b1, e1, _⟩ := next_ex0 t xs.length (by omega) (by omega)
  obtain ⟨r2, t2, a2, b2, e2, _⟩ := next_ex0 t1 xs.length (by omega) (by omega)
  obtain ⟨f, hf, ef⟩ : ∃ f, f ∈ xs ∧ L2.atI ((sortS xs).map D.str) r1 = some (.str f) := by
    obtain ⟨d, q1, q2, _⟩ := pick (l := (sortS xs).map D.str) a1 (by rw [List.length_map, length_sortS]; exact b1)
    obtain ⟨f, q3, rfl⟩ := List.mem_map.mp q1
    exact ⟨f, mem_sortS.mp q3, q2⟩
  obtain ⟨o, ho, eo⟩ : ∃ f, f ∈ xs ∧ L2.atI ((sortS xs).map D.str) r2 = some (.str f) := by
    obtain ⟨d, q1, q2, _⟩ := pick (l := (sortS xs).map D.str) a2 (by rw [List.length_map, length_sortS]; exact b2)
    obtain ⟨f, q3, rfl⟩ := List.mem_map.mp q1
    exact ⟨f, mem_sortS.mp q3, q2⟩
  have hxl : xs.length < 64 := by omega
  obtain ⟨l, hky⟩ := kys_strs xs
  have hcp : ∀ μ, dictB true [.dct (xs.map .str) vs] μ = .ok (.hd μ.length) (μ ++ [some (.dct (xs.map .str) vs)]) := fun μ => by
    unfold dictB copyB
    simp! only [hky]
  have hclv : D.cls vs = true := D.pls_cls _ h.pv
  have hcl : clN [some (.dct (xs.map .str) vs)] = true := by
    show ((D.cls _ && D.cls _) && true) = true
    rw [cls_strs, hclv]; rfl
  obtain ⟨r3, t3, a3, b3, e3⟩ := next_ex t2 5 (by omega) (by omega)
  have e3 := e3 _ hcl
  have hsl : t2.sto.length = 2 := rfl
  have kxs : (xs.map D.str).length ≤ 1000 := by rw [List.length_map]; omega
  have main : ∃ (t' : St) (κ : Sto) (d : D), runF 7 ev__law_spoilt [.hd 1, .dct (xs.map .str) vs] t.sto = .ok d (t'.sto ++ κ) ∧ FOKn (xs.length + 1) d ∧ d.cl = true := by
    -- a store, and the dict is handed back
    have put : ∀ (t' : St) (kd v : D), (∃ n, kd.kk = some n) → kd.pl = true → v.pl = true → kd.depth ≤ 3 → v.depth ≤ 9 →
        setO (.hd 2) kd v (t'.sto ++ [some (.dct (xs.map .str) vs)]) = some (t'.sto ++ [some (.dct (putD (xs.map .str) vs kd v).1 (putD (xs.map .str) vs kd v).2)]) ∧
        frzO cls (.hd 2) (t'.sto ++ [some (.dct (putD (xs.map .str) vs kd v).1 (putD (xs.map .str) vs kd v).2)]) = .ok (.dct (putD (xs.map .str) vs kd v).1 (putD (xs.map .str) vs kd v).2) (t'.sto ++ [none]) ∧
        FOKn (xs.length + 1) (.dct (putD (xs.map .str) vs kd v).1 (putD (xs.map .str) vs kd v).2) ∧ (D.dct (putD (xs.map .str) vs kd v).1 (putD (xs.map .str) vs kd v).2).cl = true := by
      intro t' kd v ⟨n, hn⟩ hp hv d1 d2
      obtain ⟨q1, q2⟩ := h.put hn hp hv d1 d2
      have c1 := D.pls_cls _ q1.pk
      have c2 := D.pls_cls _ q1.pv
      refine ⟨?_, ?_, ⟨q1, by rw [List.length_map] at q2; exact q2⟩, by simp only [D.cl, c1, c2]; rfl⟩
      · rw [setO_put sto_get2 hn kxs, sto_set2]
      · rw [frzO_dct sto_get2 c1 c2, sto_set2]
    by_cases hr0 : r3 = 0
    · obtain ⟨r4, t4, a4, b4, e4⟩ := next_ex t3 8 (by omega) (by omega)
      have e4 := e4 _ hcl
      obtain ⟨kd, hkd, ek, _⟩ := pick (l := oddKeys) a4 b4
      obtain ⟨k1, k2, k3⟩ := oddKeys_ok kd hkd
      obtain ⟨p1, p2, p3, p4⟩ := put t4 kd (.tup [.int 0, .bl false]) k1 k2 rfl k3 (by decide)
      refine ⟨t4, [none], _, ?_, p3, p4⟩
      rw [runF_ap, ev__law_spoilt]
      unfold oddKeys at ek
      simp! only [List.length_map, sorted_strs hxl, e1, ef, e2, eo, hcp, hsl, e3, hr0, e4, ek, p1, p2]
    · have hr0' : (r3 == 0) = false := beq_eq_false_iff_ne.mpr hr0
      by_cases hr1 : r3 = 1
      · obtain ⟨r4, t4, a4, b4, e4⟩ := next_ex t3 5 (by omega) (by omega)
        have e4 := e4 _ hcl
        obtain ⟨d, hd, ek, _⟩ := pick (l := [.dct [] [], .non, .lst [.tup [.str "a", .tup [.int 0, .bl false]]], .str "a", .dct (xs.map .str) vs]) a4 b4
        refine ⟨t4, [some (.dct (xs.map .str) vs)], d, ?_, ?_⟩
        · rw [runF_ap, ev__law_spoilt]
          simp! only [List.length_map, sorted_strs hxl, e1, ef, e2, eo, hcp, hsl, e3, hr0', hr1, e4, ek]
        · simp only [List.mem_cons, List.not_mem_nil, or_false] at hd
          rcases hd with rfl | rfl | rfl | rfl | rfl
          · exact ⟨⟨⟨rfl, rfl, rfl, ⟨[], rfl, List.nodup_nil⟩, by simp, by simp⟩, by simp⟩, rfl⟩
          · exact ⟨⟨rfl, by decide⟩, rfl⟩
          · exact ⟨⟨by decide, by decide⟩, rfl⟩
          · exact ⟨⟨by decide, by decide⟩, rfl⟩
          · refine ⟨⟨h, by rw [List.length_map]; omega⟩, ?_⟩
            simp only [D.cl, cls_strs, hclv]; rfl
      · have hr1' : (r3 == 1) = false := beq_eq_false_iff_ne.mpr hr1
        obtain ⟨r4, t4, a4, b4, e4⟩ := next_ex t3 17 (by omega) (by omega)
        have e4 := e4 _ hcl
        obtain ⟨d, hd, ek, _⟩ := pick (l := odds1 ++ odds2 f o ++ odds3 o) a4 b4
        have hplf : ∀ x ∈ xs, (D.str x).pl = true := fun x hx => pls_mem h.pk (List.mem_map.mpr ⟨x, hx, rfl⟩)
        have pf := hplf f hf
        have po := hplf o ho
        have hdp : d.pl = true ∧ d.depth ≤ 9 := by
          simp only [odds1, odds2, odds3, List.cons_append, List.nil_append, List.mem_cons, List.not_mem_nil, or_false] at hd
          rcases hd with rfl | rfl | rfl | rfl | rfl | rfl | rfl | rfl | rfl | rfl | rfl | rfl | rfl | rfl | rfl | rfl | rfl
          all_goals exact ⟨by simp only [pl_tup, pl_lst, pl_bl, pl_int, pl_non, pls_nil, pls_cons, pl_same, pl_next, pl_more, pl_none, pf, po, Bool.and_self], by simp only [D.depth, D.depths]; omega⟩
        obtain ⟨p1, p2, p3, p4⟩ := put t4 (.str f) d ⟨_, rfl⟩ pf hdp.1 (Nat.zero_le _) hdp.2
        refine ⟨t4, [none], _, ?_, p3, p4⟩
        rw [runF_ap, ev__law_spoilt]
        unfold odds1 odds2 odds3 at ek
        simp only [List.cons_append, List.nil_append] at ek
        simp! only [List.length_map, sorted_strs hxl, e1, ef, e2, eo, hcp, hsl, e3, hr0', hr1', e4, ek, p1, p2]
  obtain ⟨t', κ, d, q1, q2, q3⟩ := main
  exact ⟨t', d, trim0 q3 q1, q2⟩
end Z

namespace Z
open PySem
local macro_rules | `(tactic| simp! only [$ls,*]) => `(tactic| simp -dsimp -implicitDefEqProofs only [seval, sv_and_true, sv_true_and, sv_and_false, sv_false_and, sv_or_true, sv_true_or, sv_or_false, sv_false_or, sv_not_true, sv_not_false, sv_ft, sv_tf, sv_eqs, sv_bnt, sv_bnf, sv_bat, sv_bta, sv_baf, sv_bfa, sv_bot, sv_bto, sv_bof, sv_bfo, sv_dtr, sv_dfa, sv_dec, sv_ndec, sv_nb, sv_map_nil, sv_map_cons, sv_len_nil, sv_len_cons, sv_app_nil, sv_app_cons, sv_app_nil', sv_set_z, sv_set_s, sv_get_z, sv_get_s, sv_get_n, sv_rep_z, sv_rep_s, sv_rev_nil, sv_rev_1, sv_rev_2, sv_omap_s, sv_omap_n, sv_obind_s, sv_obind_n, sv_isEmpty_n, sv_isEmpty_c, sv_beq, lim_eq, bindT_ok, bindT_exc, outT_ok, outT_exc, bind_ok', bind_exc', out_ok, out_exc, then_nx, then_rt, then_bk, then_ct, then_exc, zVar_ap, zC_ap, zBin_ap, zUn_ap, zTru_ap, zChain_ap, zNotT_ap, zAndT_ap, zOrT_ap, zNot_ap, zAnd_ap, zOr_ap, zIf_ap, zNil_ap, zCons_ap, zTup_ap, zLst_ap, mkL_f, mkL_t, mkD_f, mkD_t, zCall_ap, zB_ap, zIx_ap, okO_some, bT_some', bO_some', zSrc_ap, zVals_ap, zItems_ap, zRng1_ap, zRng2_ap, zYes_ap, zD0_ap, zPart_ap, zNoPart_ap, zSl_ap, zRev_ap, zFrz_ap, zAttr_ap, sPass_ap, sBreak_ap, sCont_ap, sSeq_ap, sExp_ap, sRet_ap, sRetN_ap, sIf_ap, sAsg_ap, outO_some, gN_ap, gT_ap, gTs_nil, gTs_cons, sFor_ap, sSet_ap, outM_some, sRaise_ap, sAttr_ap, res_nx, res_rt, res_exc, loopF_nil, turn_nx, turn_ct, turn_bk, turn_rt, turn_exc, turnT_nx, turnT_ct, turnT_bk, turnT_rt, turnT_exc, nox_ok, lcF_nil, of_some, of_none, zLc_ap, wipeE_nil, wipeE_cons, le_ii, lt_ii, ge_ii, gt_ii, isN_ap, notN_ap, isB_ap, notB_ap, eq_ap, ne_ap, in_ap, nin_ap, eqO_int, eqO_str, eqO_bl, isNon_non, isNon_bl, isNon_int, isNon_str, isNon_tup, isNon_lst, isNon_dct, isNon_ins, truO_non, truO_bl, truO_int, truO_tup, truO_lst, truO_dct, asL_lst, asL_dct, asL_tup, asL_str, asL_int, asL_bl, asL_non, asL_ins, asD_dct, asD_lst, asT_tup, asT_lst, asT_dct, lenO_tup, lenO_lst, lenO_dct, lenB_ap, allB_ap, anyB_ap, sumB_ap, max2B_ap, intB_int, listB_tup, listB_lst, listB_dct, tupB_tup, tupB_lst, srcO_tup, srcO_lst, srcO_dct, srcO_str, itemO_tup, itemO_lst, itemO_dct, add_ii, sub_ii, neg_i, add_lst, isiO_ap, tagO_non, tagO_bl, tagO_int, tagO_str, tagO_tup, tagO_lst, tagO_dct, tagO_ins, isB_b, isB_c, isC_b, isC_c, kk_non, kk_int, kk_str, kk_bl, kks_nil, atI_0, atI_1, atI_2, atI_3, in_strs, in_strsT, in_2, in_sign, asL_hd, asD_hd, itemO_hd, lenO_hd, add_hl, setO_hd, ixN_0, ixN_1, ixN_2, ixN_40, ixN_41, ixN_42, zMakeP_ap, sTry_ap, tried_nx, tried_rt, tried_exc, inI_some, inI_none, setI_some, setI_none, clearI_nx, clearI_rt, clearI_none, noX_nx, noX_rt, zXA_ap, zXIs_ap, zDc_ap, $ls,*])
local macro_rules | `(tactic| simp! only) => `(tactic| simp -implicitDefEqProofs only [seval, sv_and_true, sv_true_and, sv_and_false, sv_false_and, sv_or_true, sv_true_or, sv_or_false, sv_false_or, sv_not_true, sv_not_false, sv_ft, sv_tf, sv_eqs, sv_bnt, sv_bnf, sv_bat, sv_bta, sv_baf, sv_bfa, sv_bot, sv_bto, sv_bof, sv_bfo, sv_dtr, sv_dfa, sv_dec, sv_ndec, sv_nb, sv_map_nil, sv_map_cons, sv_len_nil, sv_len_cons, sv_app_nil, sv_app_cons, sv_app_nil', sv_set_z, sv_set_s, sv_get_z, sv_get_s, sv_get_n, sv_rep_z, sv_rep_s, sv_rev_nil, sv_rev_1, sv_rev_2, sv_omap_s, sv_omap_n, sv_obind_s, sv_obind_n, sv_isEmpty_n, sv_isEmpty_c, sv_beq, lim_eq, bindT_ok, bindT_exc, outT_ok, outT_exc, bind_ok', bind_exc', out_ok, out_exc, then_nx, then_rt, then_bk, then_ct, then_exc, zVar_ap, zC_ap, zBin_ap, zUn_ap, zTru_ap, zChain_ap, zNotT_ap, zAndT_ap, zOrT_ap, zNot_ap, zAnd_ap, zOr_ap, zIf_ap, zNil_ap, zCons_ap, zTup_ap, zLst_ap, mkL_f, mkL_t, mkD_f, mkD_t, zCall_ap, zB_ap, zIx_ap, okO_some, bT_some', bO_some', zSrc_ap, zVals_ap, zItems_ap, zRng1_ap, zRng2_ap, zYes_ap, zD0_ap, zPart_ap, zNoPart_ap, zSl_ap, zRev_ap, zFrz_ap, zAttr_ap, sPass_ap, sBreak_ap, sCont_ap, sSeq_ap, sExp_ap, sRet_ap, sRetN_ap, sIf_ap, sAsg_ap, outO_some, gN_ap, gT_ap, gTs_nil, gTs_cons, sFor_ap, sSet_ap, outM_some, sRaise_ap, sAttr_ap, res_nx, res_rt, res_exc, loopF_nil, turn_nx, turn_ct, turn_bk, turn_rt, turn_exc, turnT_nx, turnT_ct, turnT_bk, turnT_rt, turnT_exc, nox_ok, lcF_nil, of_some, of_none, zLc_ap, wipeE_nil, wipeE_cons, le_ii, lt_ii, ge_ii, gt_ii, isN_ap, notN_ap, isB_ap, notB_ap, eq_ap, ne_ap, in_ap, nin_ap, eqO_int, eqO_str, eqO_bl, isNon_non, isNon_bl, isNon_int, isNon_str, isNon_tup, isNon_lst, isNon_dct, isNon_ins, truO_non, truO_bl, truO_int, truO_tup, truO_lst, truO_dct, asL_lst, asL_dct, asL_tup, asL_str, asL_int, asL_bl, asL_non, asL_ins, asD_dct, asD_lst, asT_tup, asT_lst, asT_dct, lenO_tup, lenO_lst, lenO_dct, lenB_ap, allB_ap, anyB_ap, sumB_ap, max2B_ap, intB_int, listB_tup, listB_lst, listB_dct, tupB_tup, tupB_lst, srcO_tup, srcO_lst, srcO_dct, srcO_str, itemO_tup, itemO_lst, itemO_dct, add_ii, sub_ii, neg_i, add_lst, isiO_ap, tagO_non, tagO_bl, tagO_int, tagO_str, tagO_tup, tagO_lst, tagO_dct, tagO_ins, isB_b, isB_c, isC_b, isC_c, kk_non, kk_int, kk_str, kk_bl, kks_nil, atI_0, atI_1, atI_2, atI_3, in_strs, in_strsT, in_2, in_sign, asL_hd, asD_hd, itemO_hd, lenO_hd, add_hl, setO_hd, ixN_0, ixN_1, ixN_2, ixN_40, ixN_41, ixN_42, zMakeP_ap, sTry_ap, tried_nx, tried_rt, tried_exc, inI_some, inI_none, setI_some, setI_none, clearI_nx, clearI_rt, clearI_none, noX_nx, noX_rt, zXA_ap, zXIs_ap, zDc_ap])
theorem kks_keys : ∀ {ks : List D} {ns : List NK}, D.kks ks = some ns → D.keys ks = some ns
  | [], _, h => by cases h; rfl
  | d :: ks, ns, h => by
    rw [kks_cons] at h
    cases e1 : d.kk with
    | none => rw [e1] at h; cases h
    | some k =>
      cases e2 : D.kks ks with
      | none => rw [e1, e2] at h; cases h
      | some ms =>
        rw [e1, e2] at h; cases h
        simp only [D.keys, (kk_key e1).1, kks_keys e2]
theorem lookS_rev {ks vs : List D} (h : DOk ks vs) : lookS ks.reverse vs.reverse = lookS ks vs := by
  funext x
  obtain ⟨ns, q1, q2⟩ := h.nd
  have k1 := kks_keys q1
  have k2 : D.keys ks.reverse = some ns.reverse := by
    clear h q2 k1
    induction ks generalizing ns with
    | nil => cases q1; rfl
    | cons d ks ih =>
      rw [kks_cons] at q1
      cases e1 : d.kk with
      | none => rw [e1] at q1; cases q1
      | some k =>
        cases e2 : D.kks ks with
        | none => rw [e1, e2] at q1; cases q1
        | some ms =>
          rw [e1, e2] at q1; cases q1
          have := ih ms e2
          have app : ∀ (a b : List D) (n m : List NK), D.keys a = some n → D.keys b = some m → D.keys (a ++ b) = some (n ++ m) := by
            intro a
            induction a with
            | nil => intro b n m h1 h2; cases h1; exact h2
            | cons c a ih =>
              intro b n m h1 h2
              simp only [D.keys] at h1
              rw [List.cons_append]
              simp only [D.keys]
              cases f1 : c.key with
              | none => rw [f1] at h1; cases h1
              | some k =>
                cases f2 : D.keys a with
                | none => rw [f1, f2] at h1; cases h1
                | some l =>
                  rw [f1, f2] at h1; cases h1
                  rw [ih b l m f2 h2]; rfl
          have z := app ks.reverse [d] ms.reverse [k] this (by simp only [D.keys, (kk_key e1).1])
          rwa [List.reverse_cons, List.reverse_cons]
  by_cases hx : D.str x ∈ ks
  · obtain ⟨i, hi, e⟩ := List.getElem_of_mem hx
    have hv : i < vs.length := by rw [← h.len]; exact hi
    obtain ⟨n, p1, p2⟩ := look_self k1 q2 (vs := vs) (i := i) (k := .str x) (v := vs[i]) (by rw [List.getElem?_eq_getElem hi, e]) (by simp [hv])
    obtain ⟨m, p3, p4⟩ := look_self k2 ((List.reverse_perm ns).nodup_iff.mpr q2) (vs := vs.reverse) (i := ks.length - 1 - i) (k := .str x) (v := vs[i])
      (by rw [List.getElem?_reverse (by omega)]; rw [show ks.length - 1 - (ks.length - 1 - i) = i by omega, List.getElem?_eq_getElem hi, e])
      (by rw [List.getElem?_reverse (by rw [← h.len]; omega), ← h.len]; rw [show ks.length - 1 - (ks.length - 1 - i) = i by omega]; simp [hv])
    rw [p1] at p3; cases p3
    have hn : n = .text x := by simpa [D.key] using p1.symm
    subst hn
    unfold lookS
    rw [p2, p4]
  · unfold lookS D.look
    rw [ixOf_none hx, ixOf_none (by simpa using hx)]
    rfl
theorem sortS_perm {xs ys : List Str} (p : xs.Perm ys) : sortS xs = sortS ys :=
  List.Perm.eq_of_pairwise (le := fun a b => strLe a b = true) (fun a b _ _ => strLe_anti) (List.pairwise_mergeSort (le := strLe) (fun a b c h1 h2 => strLe_trans h1 h2) strLe_total xs) (List.pairwise_mergeSort (le := strLe) (fun a b c h1 h2 => strLe_trans h1 h2) strLe_total ys) ((List.mergeSort_perm xs strLe).trans (p.trans (List.mergeSort_perm ys strLe).symm))
theorem namesOf_rev (ks : List D) : namesOf ks.reverse = (namesOf ks).reverse := by
  unfold namesOf
  rw [List.filter_reverse, List.map_reverse]
theorem knownOf_rev (ks : List D) : knownOf ks.reverse = knownOf ks := by
  unfold knownOf
  rw [namesOf_rev]
  exact sortS_perm (List.reverse_perm _)
theorem edFault_rev {ks vs : List D} (h : DOk ks vs) (nm kp src : D) : edFault nm (.dct ks.reverse vs.reverse) kp src = edFault nm (.dct ks vs) kp src := by
  have e : efault (.dct ks.reverse vs.reverse) = efault (.dct ks vs) := by
    show dfault _ _ = dfault _ _
    unfold dfault valS
    rw [lookS_rev h, knownOf_rev, List.length_reverse]
  unfold edFault
  rw [e]
theorem DOk.rev {ks vs : List D} (h : DOk ks vs) : DOk ks.reverse vs.reverse := by
  obtain ⟨ns, q1, q2⟩ := h.nd
  refine ⟨by simp [h.len], ?_, ?_, ⟨ns.reverse, ?_, (List.reverse_perm ns).nodup_iff.mpr q2⟩, fun d hd => h.dk d (by simpa using hd), fun d hd => h.dv d (by simpa using hd)⟩
  · exact pls_of fun d hd => pls_mem h.pk (by simpa using hd)
  · exact pls_of fun d hd => pls_mem h.pv (by simpa using hd)
  · clear q2 h
    induction ks generalizing ns with
    | nil => cases q1; rfl
    | cons d ks ih =>
      rw [kks_cons] at q1
      cases e1 : d.kk with
      | none => rw [e1] at q1; cases q1
      | some k =>
        cases e2 : D.kks ks with
        | none => rw [e1, e2] at q1; cases q1
        | some ms =>
          rw [e1, e2] at q1; cases q1
          rw [List.reverse_cons, List.reverse_cons]
          exact kks_append (ih ms e2) (by rw [kks_cons, e1]; rfl)
/-- dict(pairs), the keys apart -/
theorem pairsF_of : ∀ (ps : List (D × D)) (ks vs : List D), (∃ ns, D.kks (ks ++ ps.map (·.1)) = some ns ∧ ns.Nodup) → pairsF (ps.map fun p => .tup [p.1, p.2]) ks vs = some (ks ++ ps.map (·.1), vs ++ ps.map (·.2))
  | [], ks, vs, _ => by simp [pairsF]
  | (a, b) :: ps, ks, vs, ⟨ns, h1, h2⟩ => by
    have hsp : ∃ n l m, a.kk = some n ∧ D.kks ks = some l ∧ D.kks (ps.map (·.1)) = some m ∧ ns = l ++ n :: m := by
      clear h2
      induction ks generalizing ns with
      | nil =>
        rw [List.nil_append, List.map_cons, kks_cons] at h1
        cases e1 : a.kk with
        | none => simp [e1] at h1
        | some k =>
          cases e2 : D.kks (ps.map (·.1)) with
          | none => simp [e1, e2] at h1
          | some ms => simp only [e1, e2, Option.some.injEq] at h1; exact ⟨k, [], ms, rfl, rfl, rfl, h1.symm⟩
      | cons d ks ih =>
        rw [List.cons_append, kks_cons] at h1
        cases e1 : d.kk with
        | none => rw [e1] at h1; cases h1
        | some k =>
          cases e2 : D.kks (ks ++ List.map (fun x => x.1) ((a, b) :: ps)) with
          | none => rw [e1, e2] at h1; cases h1
          | some ms =>
            rw [e1, e2] at h1
            simp only [Option.some.injEq] at h1
            obtain ⟨n, l, m, q1, q2, q3, q4⟩ := ih ms e2
            exact ⟨n, k :: l, m, q1, by rw [kks_cons, e1, q2], q3, by rw [← h1, q4]; rfl⟩
    obtain ⟨n, l, m, q1, q2, q3, rfl⟩ := hsp
    have hix : D.ixOf ks n = none := by
      unfold D.ixOf
      rw [List.findIdx?_eq_none_iff]
      intro d hd
      rw [decide_eq_false_iff_not]
      intro e
      have hmem : n ∈ l := by
        clear h1 h2
        induction ks generalizing l with
        | nil => simp at hd
        | cons c ks ih =>
          rw [kks_cons] at q2
          cases e1 : c.kk with
          | none => simp [e1] at q2
          | some k =>
            cases e2 : D.kks ks with
            | none => simp [e1, e2] at q2
            | some ms =>
              simp only [e1, e2, Option.some.injEq] at q2
              subst q2
              rcases List.mem_cons.mp hd with rfl | hd
              · rw [(kk_key e1).1] at e; cases e; simp
              · simp [ih ms e2 hd]
      exact (List.nodup_append.mp h2).2.2 n hmem n (by simp) rfl
    rw [List.map_cons]
    simp only [pairsF, q1, Option.isSome_some, if_true, putD_add q1 hix]
    rw [pairsF_of ps (ks ++ [a]) (vs ++ [b]) ⟨_, by simpa using h1, h2⟩]
    simp
theorem zip_map_fst {a b : List D} (h : a.length = b.length) : (a.zip b).map (·.1) = a := by
  rw [List.map_fst_zip (by omega)]
theorem zip_map_snd {a b : List D} (h : a.length = b.length) : (a.zip b).map (·.2) = b := by
  rw [List.map_snd_zip (by omega)]
theorem turned {ks vs : List D} (h : DOk ks vs) (hl : ks.length ≤ 1000) (μ : Sto) : dictB false [.lst ((ks.zip vs).map fun p => D.tup [p.1, p.2]).reverse] μ = .ok (.dct ks.reverse vs.reverse) μ := by
  have h' := h.rev
  have e : ((ks.zip vs).map fun p => D.tup [p.1, p.2]).reverse = (ks.zip vs).reverse.map fun p => D.tup [p.1, p.2] := by rw [List.map_reverse]
  have e1 : (ks.zip vs).reverse.map (·.1) = ks.reverse := by rw [List.map_reverse, zip_map_fst h.len]
  have e2 : (ks.zip vs).reverse.map (·.2) = vs.reverse := by rw [List.map_reverse, zip_map_snd h.len]
  have hp := pairsF_of (ks.zip vs).reverse [] [] (by rw [List.nil_append, e1]; exact h'.nd)
  rw [e1, e2, List.nil_append, List.nil_append] at hp
  have hlt : ((ks.zip vs).reverse.map fun p => D.tup [p.1, p.2]).length < lim := by
    simp only [List.length_map, List.length_reverse, List.length_zip, lim]; omega
  rw [e]
  unfold dictB pairsB
  simp! only
  simp only [hp, show _ < 16000000 from hlt, if_true]
theorem names_nd {ks vs : List D} (h : DOk ks vs) : (namesOf ks).Nodup := by
  obtain ⟨ns, q1, q2⟩ := h.nd
  clear h
  induction ks generalizing ns with
  | nil => exact List.nodup_nil
  | cons d ks ih =>
    rw [kks_cons] at q1
    cases e1 : d.kk with
    | none => simp [e1] at q1
    | some k =>
      cases e2 : D.kks ks with
      | none => simp [e1, e2] at q1
      | some ms =>
        simp only [e1, e2, Option.some.injEq] at q1
        subst q1
        simp only [List.nodup_cons] at q2
        have := ih ms e2 q2.2
        unfold namesOf
        rw [List.filter_cons]
        split
        · rename_i hn
          rw [List.map_cons, List.nodup_cons]
          refine ⟨fun hm => ?_, this⟩
          have h1 := (mem_namesOf hm).1
          rw [← isName_str hn] at h1
          obtain ⟨n, p1, p2⟩ : ∃ n, d.kk = some n ∧ n ∈ ms := by
            clear ih this q2 hm
            induction ks generalizing ms with
            | nil => simp at h1
            | cons c ks ih =>
              rw [kks_cons] at e2
              cases f1 : c.kk with
              | none => simp [f1] at e2
              | some k' =>
                cases f2 : D.kks ks with
                | none => simp [f1, f2] at e2
                | some l =>
                  simp only [f1, f2, Option.some.injEq] at e2
                  subst e2
                  rcases List.mem_cons.mp h1 with rfl | h1
                  · exact ⟨_, f1, by simp⟩
                  · obtain ⟨n, p1, p2⟩ := ih l f2 h1
                    exact ⟨n, p1, by simp [p2]⟩
          rw [e1] at p1; cases p1
          exact q2.1 p2
        · exact this
end Z

namespace Z
open PySem
local macro_rules | `(tactic| simp! only [$ls,*]) => `(tactic| simp -dsimp -implicitDefEqProofs only [seval, sv_and_true, sv_true_and, sv_and_false, sv_false_and, sv_or_true, sv_true_or, sv_or_false, sv_false_or, sv_not_true, sv_not_false, sv_ft, sv_tf, sv_eqs, sv_bnt, sv_bnf, sv_bat, sv_bta, sv_baf, sv_bfa, sv_bot, sv_bto, sv_bof, sv_bfo, sv_dtr, sv_dfa, sv_dec, sv_ndec, sv_nb, sv_map_nil, sv_map_cons, sv_len_nil, sv_len_cons, sv_app_nil, sv_app_cons, sv_app_nil', sv_set_z, sv_set_s, sv_get_z, sv_get_s, sv_get_n, sv_rep_z, sv_rep_s, sv_rev_nil, sv_rev_1, sv_rev_2, sv_omap_s, sv_omap_n, sv_obind_s, sv_obind_n, sv_isEmpty_n, sv_isEmpty_c, sv_beq, lim_eq, bindT_ok, bindT_exc, outT_ok, outT_exc, bind_ok', bind_exc', out_ok, out_exc, then_nx, then_rt, then_bk, then_ct, then_exc, zVar_ap, zC_ap, zBin_ap, zUn_ap, zTru_ap, zChain_ap, zNotT_ap, zAndT_ap, zOrT_ap, zNot_ap, zAnd_ap, zOr_ap, zIf_ap, zNil_ap, zCons_ap, zTup_ap, zLst_ap, mkL_f, mkL_t, mkD_f, mkD_t, zCall_ap, zB_ap, zIx_ap, okO_some, bT_some', bO_some', zSrc_ap, zVals_ap, zItems_ap, zRng1_ap, zRng2_ap, zYes_ap, zD0_ap, zPart_ap, zNoPart_ap, zSl_ap, zRev_ap, zFrz_ap, zAttr_ap, sPass_ap, sBreak_ap, sCont_ap, sSeq_ap, sExp_ap, sRet_ap, sRetN_ap, sIf_ap, sAsg_ap, outO_some, gN_ap, gT_ap, gTs_nil, gTs_cons, sFor_ap, sSet_ap, outM_some, sRaise_ap, sAttr_ap, res_nx, res_rt, res_exc, loopF_nil, turn_nx, turn_ct, turn_bk, turn_rt, turn_exc, turnT_nx, turnT_ct, turnT_bk, turnT_rt, turnT_exc, nox_ok, lcF_nil, of_some, of_none, zLc_ap, wipeE_nil, wipeE_cons, le_ii, lt_ii, ge_ii, gt_ii, isN_ap, notN_ap, isB_ap, notB_ap, eq_ap, ne_ap, in_ap, nin_ap, eqO_int, eqO_str, eqO_bl, isNon_non, isNon_bl, isNon_int, isNon_str, isNon_tup, isNon_lst, isNon_dct, isNon_ins, truO_non, truO_bl, truO_int, truO_tup, truO_lst, truO_dct, asL_lst, asL_dct, asL_tup, asL_str, asL_int, asL_bl, asL_non, asL_ins, asD_dct, asD_lst, asT_tup, asT_lst, asT_dct, lenO_tup, lenO_lst, lenO_dct, lenB_ap, allB_ap, anyB_ap, sumB_ap, max2B_ap, intB_int, listB_tup, listB_lst, listB_dct, tupB_tup, tupB_lst, srcO_tup, srcO_lst, srcO_dct, srcO_str, itemO_tup, itemO_lst, itemO_dct, add_ii, sub_ii, neg_i, add_lst, isiO_ap, tagO_non, tagO_bl, tagO_int, tagO_str, tagO_tup, tagO_lst, tagO_dct, tagO_ins, isB_b, isB_c, isC_b, isC_c, kk_non, kk_int, kk_str, kk_bl, kks_nil, atI_0, atI_1, atI_2, atI_3, in_strs, in_strsT, in_2, in_sign, asL_hd, asD_hd, itemO_hd, lenO_hd, add_hl, setO_hd, ixN_0, ixN_1, ixN_2, ixN_40, ixN_41, ixN_42, zMakeP_ap, sTry_ap, tried_nx, tried_rt, tried_exc, inI_some, inI_none, setI_some, setI_none, clearI_nx, clearI_rt, clearI_none, noX_nx, noX_rt, zXA_ap, zXIs_ap, zDc_ap, $ls,*])
local macro_rules | `(tactic| simp! only) => `(tactic| simp -implicitDefEqProofs only [seval, sv_and_true, sv_true_and, sv_and_false, sv_false_and, sv_or_true, sv_true_or, sv_or_false, sv_false_or, sv_not_true, sv_not_false, sv_ft, sv_tf, sv_eqs, sv_bnt, sv_bnf, sv_bat, sv_bta, sv_baf, sv_bfa, sv_bot, sv_bto, sv_bof, sv_bfo, sv_dtr, sv_dfa, sv_dec, sv_ndec, sv_nb, sv_map_nil, sv_map_cons, sv_len_nil, sv_len_cons, sv_app_nil, sv_app_cons, sv_app_nil', sv_set_z, sv_set_s, sv_get_z, sv_get_s, sv_get_n, sv_rep_z, sv_rep_s, sv_rev_nil, sv_rev_1, sv_rev_2, sv_omap_s, sv_omap_n, sv_obind_s, sv_obind_n, sv_isEmpty_n, sv_isEmpty_c, sv_beq, lim_eq, bindT_ok, bindT_exc, outT_ok, outT_exc, bind_ok', bind_exc', out_ok, out_exc, then_nx, then_rt, then_bk, then_ct, then_exc, zVar_ap, zC_ap, zBin_ap, zUn_ap, zTru_ap, zChain_ap, zNotT_ap, zAndT_ap, zOrT_ap, zNot_ap, zAnd_ap, zOr_ap, zIf_ap, zNil_ap, zCons_ap, zTup_ap, zLst_ap, mkL_f, mkL_t, mkD_f, mkD_t, zCall_ap, zB_ap, zIx_ap, okO_some, bT_some', bO_some', zSrc_ap, zVals_ap, zItems_ap, zRng1_ap, zRng2_ap, zYes_ap, zD0_ap, zPart_ap, zNoPart_ap, zSl_ap, zRev_ap, zFrz_ap, zAttr_ap, sPass_ap, sBreak_ap, sCont_ap, sSeq_ap, sExp_ap, sRet_ap, sRetN_ap, sIf_ap, sAsg_ap, outO_some, gN_ap, gT_ap, gTs_nil, gTs_cons, sFor_ap, sSet_ap, outM_some, sRaise_ap, sAttr_ap, res_nx, res_rt, res_exc, loopF_nil, turn_nx, turn_ct, turn_bk, turn_rt, turn_exc, turnT_nx, turnT_ct, turnT_bk, turnT_rt, turnT_exc, nox_ok, lcF_nil, of_some, of_none, zLc_ap, wipeE_nil, wipeE_cons, le_ii, lt_ii, ge_ii, gt_ii, isN_ap, notN_ap, isB_ap, notB_ap, eq_ap, ne_ap, in_ap, nin_ap, eqO_int, eqO_str, eqO_bl, isNon_non, isNon_bl, isNon_int, isNon_str, isNon_tup, isNon_lst, isNon_dct, isNon_ins, truO_non, truO_bl, truO_int, truO_tup, truO_lst, truO_dct, asL_lst, asL_dct, asL_tup, asL_str, asL_int, asL_bl, asL_non, asL_ins, asD_dct, asD_lst, asT_tup, asT_lst, asT_dct, lenO_tup, lenO_lst, lenO_dct, lenB_ap, allB_ap, anyB_ap, sumB_ap, max2B_ap, intB_int, listB_tup, listB_lst, listB_dct, tupB_tup, tupB_lst, srcO_tup, srcO_lst, srcO_dct, srcO_str, itemO_tup, itemO_lst, itemO_dct, add_ii, sub_ii, neg_i, add_lst, isiO_ap, tagO_non, tagO_bl, tagO_int, tagO_str, tagO_tup, tagO_lst, tagO_dct, tagO_ins, isB_b, isB_c, isC_b, isC_c, kk_non, kk_int, kk_str, kk_bl, kks_nil, atI_0, atI_1, atI_2, atI_3, in_strs, in_strsT, in_2, in_sign, asL_hd, asD_hd, itemO_hd, lenO_hd, add_hl, setO_hd, ixN_0, ixN_1, ixN_2, ixN_40, ixN_41, ixN_42, zMakeP_ap, sTry_ap, tried_nx, tried_rt, tried_exc, inI_some, inI_none, setI_some, setI_none, clearI_nx, clearI_rt, clearI_none, noX_nx, noX_rt, zXA_ap, zXIs_ap, zDc_ap])
theorem cut_take {ds : List D} {k : Int} {μ : Sto} (h : 0 ≤ k) : cutO false (.lst ds) none (some k) μ = .ok (.lst (ds.take k.toNat)) μ := by
  have e : cutO false (.lst ds) none (some k) μ = .ok (.lst (cutA ds none (some k))) μ := rfl
  rw [e]
  unfold cutA
  obtain ⟨n, rfl⟩ := Int.eq_ofNat_of_zero_le h
  rw [HT.sIx_none, HT.sIx_nat, List.drop_zero, Nat.sub_zero, Int.toNat_natCast]
  congr 2
  rw [List.take_eq_take_iff]; omega
def sixF : List Str := ["size", "wide", "b", "tag", "zz", "c"]
theorem sixF_pl : ∀ x ∈ sixF, (D.str x).pl = true := by
  intro x hx
  simp only [sixF, List.mem_cons, List.not_mem_nil, or_false] at hx
  rcases hx with rfl | rfl | rfl | rfl | rfl | rfl <;> decide
theorem nodup_map_inj {α β : Type} {f : α → β} (hf : ∀ a b, f a = f b → a = b) : ∀ {l : List α}, l.Nodup → (l.map f).Nodup
  | [], _ => List.nodup_nil
  | a :: l, h => by
    simp only [List.nodup_cons] at h
    rw [List.map_cons, List.nodup_cons]
    refine ⟨fun hm => ?_, nodup_map_inj hf h.2⟩
    obtain ⟨b, hb, e⟩ := List.mem_map.mp hm
    rw [hf b a e] at hb
    exact h.1 hb
theorem nodup_of_map {α β : Type} {f : α → β} : ∀ {l : List α}, (l.map f).Nodup → l.Nodup
  | [], _ => List.nodup_nil
  | a :: l, h => by
    rw [List.map_cons, List.nodup_cons] at h
    rw [List.nodup_cons]
    exact ⟨fun hm => h.1 (List.mem_map.mpr ⟨a, hm, rfl⟩), nodup_of_map h.2⟩
theorem kks_nd (xs : List Str) (h : xs.Nodup) : ∃ ns, D.kks (xs.map .str) = some ns ∧ ns.Nodup :=
  ⟨_, kks_strs xs, nodup_map_inj (fun a b e => by injection e) h⟩
theorem rules_DOk {fs : List Str} {most : Int} {vs : List D} (hnd : fs.Nodup) (hp : ∀ x ∈ fs, (D.str x).pl = true) (hl : vs.length = fs.length) (hr : ∀ (j : Nat) v, vs[j]? = some v → RuleK fs most j v) : DOk (fs.map .str) vs := by
  have hv : ∀ d ∈ vs, d.pl = true ∧ d.depth ≤ 9 := fun d hd => by
    obtain ⟨j, hj⟩ := List.getElem?_of_mem hd
    obtain ⟨w, ⟨i, _, _, rfl⟩ | ⟨a, g, j', ha, _, hg, rfl⟩⟩ := hr j d hj
    · exact ⟨rfl, by simp only [D.depth, D.depths]; omega⟩
    · have pg := hp g (List.mem_of_getElem? hg)
      have pa : (D.str a).pl = true := by rcases ha with rfl | rfl <;> decide
      exact ⟨by simp only [pl_tup, pl_bl, pls_nil, pls_cons, pg, pa, Bool.and_self], by simp only [D.depth, D.depths]; omega⟩
  refine ⟨by simp [hl], pls_of fun d hd => ?_, pls_of fun d hd => (hv d hd).1, kks_nd fs hnd, fun d hd => ?_, fun d hd => (hv d hd).2⟩
  · obtain ⟨x, hx, rfl⟩ := List.mem_map.mp hd
    exact hp x hx
  · obtain ⟨x, hx, rfl⟩ := List.mem_map.mp hd
    exact Nat.zero_le _
def isStrD : D → Bool | .str _ => true | _ => false
theorem isStr_map {ks : List D} (h : ks.all isStrD = true) : ks = (ks.map strOf).map .str := by
  induction ks with
  | nil => rfl
  | cons d ks ih =>
    simp only [List.all_cons, Bool.and_eq_true] at h
    rw [List.map_cons, List.map_cons, ← ih h.2]
    cases d <;> first | rfl | (cases h.1; done)
theorem depths_le {n : Nat} : ∀ {ds : List D}, (∀ d ∈ ds, d.depth ≤ n) → D.depths ds ≤ n
  | [], _ => Nat.zero_le _
  | d :: ds, h => by
    simp only [D.depths]
    have h1 := h d (by simp)
    have h2 := depths_le (ds := ds) fun d hd => h d (by simp [hd])
    omega
theorem eq_emptyD {ks vs : List D} {μ : Sto} (h : DOk ks vs) : eqO (.dct ks vs) (.dct [] []) μ = some (decide (ks.length = 0)) := by
  have hd : (resL μ (.dct ks vs)).depth ≤ 60 := by
    show (D.dct ks vs).depth ≤ 60
    have h1 := depths_le h.dk
    have h2 := depths_le h.dv
    simp only [D.depth]; omega
  unfold eqO
  rw [if_pos hd]
  show eqD (.dct ks vs) (.dct [] []) = _
  rw [eqD]
  by_cases h0 : ks.length = 0
  · have : ks = [] := List.length_eq_zero_iff.mp h0
    subst this
    have : vs = [] := List.length_eq_zero_iff.mp h.len.symm
    subst this
    simp [eqKV]
  · rw [if_neg (by simpa using h0)]
    simp [h0]
/-- one turn of the spoiling -/
theorem spoil_turn (t : St) (n : Nat) (d : D) (hd : FOKn n d) (hn : n ≤ 10) (s j p4 p5 p6 p7 p8 p9 p10 p11 p12 : Option D) : ∃ (t' : St) (d' : D), FOKn (n + 1) d' ∧ bd_law_0 [s, some (.hd 1), some d, j, p4, p5, p6, p7, p8, p9, p10, p11, p12] t.sto = .nx [s, some (.hd 1), some d', j, p4, p5, p6, p7, p8, p9, p10, p11, p12] t'.sto := by
  have up : ∀ d, FOKn n d → FOKn (n + 1) d := fun d h => by
    cases d <;> first | exact h | exact ⟨h.1, Nat.le_succ_of_le h.2⟩
  unfold bd_law_0
  cases d with
  | dct ks vs =>
    have hd0 := hd
    obtain ⟨h, hl⟩ : DOk ks vs ∧ ks.length ≤ n := hd
    by_cases h0 : ks.length = 0
    · refine ⟨t, .dct ks vs, up _ hd0, ?_⟩
      simp! only [eq_emptyD h, h0]
    · have lc : lcF (ks, none) (gN 12) zYes (zUn (isiO (isB "str")) (zVar 12)) [s, some (.hd 1), some (.dct ks vs), j, p4, p5, p6, p7, p8, p9, p10, p11, none] ks t.sto [] = .ok (ks.map fun d => .bl (isStrD d)) t.sto := by
        rw [lcF_map (fun _ => true) (fun d => .bl (isStrD d)) ks [] (by simp only [List.length_nil, lim]; omega) ?side, filter_tt, List.nil_append]
        case side =>
          intro d hd
          refine ⟨_, rfl, rfl, fun _ => ?_⟩
          have := pls_mem h.pk hd
          cases d <;> first | (simp [D.pl] at this; done) | (simp! only; rfl)
      by_cases ha : ks.all isStrD = true
      · have hks := isStr_map ha
        obtain ⟨t', d', e, q⟩ := spoiltF t (ks.map strOf) vs (by rw [← hks]; exact h) (by intro hz; apply h0; simpa using congrArg List.length hz) (by rw [List.length_map]; omega)
        rw [← hks] at e
        refine ⟨t', d', ?_, ?_⟩
        · rw [List.length_map] at q
          cases d' <;> first | exact q | exact ⟨q.1, Nat.le_trans q.2 (by omega)⟩
        · simp! only [eq_emptyD h, h0, lc, bls_map, all_map_id, ha, e]
      · have ha : ks.all isStrD = false := by simpa using ha
        refine ⟨t, .dct ks vs, up _ hd0, ?_⟩
        simp! only [eq_emptyD h, h0, lc, bls_map, all_map_id, ha]
  | _ =>
    refine ⟨t, _, up _ hd, ?_⟩
    first | (simp [FOKn, D.pl] at hd; done) | simp! only
theorem FOKn.use {n : Nat} {d : D} (h : FOKn n d) : d.pl = true ∧ GoodD d ∧ NamesNd d := by
  cases d with
  | dct ks vs =>
    obtain ⟨h, _⟩ : DOk ks vs ∧ ks.length ≤ n := h
    exact ⟨by simp only [D.pl, h.pk, h.pv, Bool.and_self], h.len, names_nd h⟩
  | _ => exact ⟨h.1, trivial, trivial⟩
def nmsL : List D := [.str "old", .str "abcdefgh", .str "a", .str "", .str "Old", .str "abcdefghi", .int 5, .non, .str "o d"]
def kpsL : List D := [.bl true, .bl false, .non, .int 1, .str "yes"]
def srcL : List D := [.non, .tup [], .tup [.str "old"], .tup [.str "a", .str "b"], .tup [.str "a", .str "a"], .lst [.str "a"], .tup [.str "A"], .tup [.int 5], .str "a", .bl true]
theorem nmsL_ok : ∀ d ∈ nmsL, d.pl = true := by
  intro d hd
  simp only [nmsL, List.mem_cons, List.not_mem_nil, or_false] at hd
  rcases hd with rfl | rfl | rfl | rfl | rfl | rfl | rfl | rfl | rfl <;> decide
theorem kpsL_ok : ∀ d ∈ kpsL, d.pl = true := by
  intro d hd
  simp only [kpsL, List.mem_cons, List.not_mem_nil, or_false] at hd
  rcases hd with rfl | rfl | rfl | rfl | rfl <;> decide
theorem srcL_ok : ∀ d ∈ srcL, d.pl = true ∧ ∀ ds, d = .tup ds → ds.length < 1000 := by
  intro d hd
  simp only [srcL, List.mem_cons, List.not_mem_nil, or_false] at hd
  rcases hd with rfl | rfl | rfl | rfl | rfl | rfl | rfl | rfl | rfl | rfl
  all_goals exact ⟨by decide, fun ds e => by first | (injection e with e; subst e; decide) | cases e⟩
theorem eq_due (o : Option (Str × Str)) (μ : Sto) : eqO (dueD o) (dueD o) μ = some true := by
  cases o with
  | none => simp [dueD, eqO, resL, D.depth, eqD]
  | some p => simp [dueD, eqO, resL, D.depth, D.depths, eqD, eqDs, and2]
/-- one of the two editions is made, and told -/
theorem edit_turn (nm some_ fields kp src : D) (h1 : nm.pl = true) (h2 : some_.pl = true) (h3 : kp.pl = true) (h4 : src.pl = true) (hg : GoodD some_) (hn : NamesNd some_) (hs : ∀ ds, src = .tup ds → ds.length < 1000)
    (hf : fields.pl = true) (hgf : GoodD fields) (he : edFault nm some_ kp src = edFault nm fields kp src) (μ : Sto) (s h j p6 p8 p10 p11 p12 : Option D) :
    ∃ x y, bd_law_1 [s, h, some fields, j, some nm, some kp, p6, some src, p8, some some_, p10, p11, p12] μ = .nx [s, h, some fields, j, some nm, some kp, p6, some src, p8, some some_, x, y, p12] μ := by
  refine ⟨some (dueD (edFault nm fields kp src)), ?_⟩
  have e1 := sp_Edition nm some_ kp src μ h1 h2 h3 h4 hg hn hs
  have e2 := sp_law_due nm fields kp src μ h1 hf h3 h4 hgf hs
  rw [he] at e1
  unfold bd_law_1
  cases q : edFault nm fields kp src with
  | none =>
    rw [q] at e1 e2
    refine ⟨p11, ?_⟩
    have e3 := eq_due none μ
    unfold dueD at e2 e3 ⊢
    simp! only [e1, exE, e2, e3]
  | some p =>
    obtain ⟨a, b⟩ := p
    rw [q] at e1 e2
    refine ⟨none, ?_⟩
    have e3 := eq_due (some (a, b)) μ
    have e4 : catch_InvalidEdition "InvalidEdition" = some true := rfl
    unfold dueD at e2 e3 ⊢
    simp! only [e1, exE, e4, e2, e3]
end Z

namespace Z
open PySem
local macro_rules | `(tactic| simp! only [$ls,*]) => `(tactic| simp -dsimp -implicitDefEqProofs only [seval, sv_and_true, sv_true_and, sv_and_false, sv_false_and, sv_or_true, sv_true_or, sv_or_false, sv_false_or, sv_not_true, sv_not_false, sv_ft, sv_tf, sv_eqs, sv_bnt, sv_bnf, sv_bat, sv_bta, sv_baf, sv_bfa, sv_bot, sv_bto, sv_bof, sv_bfo, sv_dtr, sv_dfa, sv_dec, sv_ndec, sv_nb, sv_map_nil, sv_map_cons, sv_len_nil, sv_len_cons, sv_app_nil, sv_app_cons, sv_app_nil', sv_set_z, sv_set_s, sv_get_z, sv_get_s, sv_get_n, sv_rep_z, sv_rep_s, sv_rev_nil, sv_rev_1, sv_rev_2, sv_omap_s, sv_omap_n, sv_obind_s, sv_obind_n, sv_isEmpty_n, sv_isEmpty_c, sv_beq, lim_eq, bindT_ok, bindT_exc, outT_ok, outT_exc, bind_ok', bind_exc', out_ok, out_exc, then_nx, then_rt, then_bk, then_ct, then_exc, zVar_ap, zC_ap, zBin_ap, zUn_ap, zTru_ap, zChain_ap, zNotT_ap, zAndT_ap, zOrT_ap, zNot_ap, zAnd_ap, zOr_ap, zIf_ap, zNil_ap, zCons_ap, zTup_ap, zLst_ap, mkL_f, mkL_t, mkD_f, mkD_t, zCall_ap, zB_ap, zIx_ap, okO_some, bT_some', bO_some', zSrc_ap, zVals_ap, zItems_ap, zRng1_ap, zRng2_ap, zYes_ap, zD0_ap, zPart_ap, zNoPart_ap, zSl_ap, zRev_ap, zFrz_ap, zAttr_ap, sPass_ap, sBreak_ap, sCont_ap, sSeq_ap, sExp_ap, sRet_ap, sRetN_ap, sIf_ap, sAsg_ap, outO_some, gN_ap, gT_ap, gTs_nil, gTs_cons, sFor_ap, sSet_ap, outM_some, sRaise_ap, sAttr_ap, res_nx, res_rt, res_exc, loopF_nil, turn_nx, turn_ct, turn_bk, turn_rt, turn_exc, turnT_nx, turnT_ct, turnT_bk, turnT_rt, turnT_exc, nox_ok, lcF_nil, of_some, of_none, zLc_ap, wipeE_nil, wipeE_cons, le_ii, lt_ii, ge_ii, gt_ii, isN_ap, notN_ap, isB_ap, notB_ap, eq_ap, ne_ap, in_ap, nin_ap, eqO_int, eqO_str, eqO_bl, isNon_non, isNon_bl, isNon_int, isNon_str, isNon_tup, isNon_lst, isNon_dct, isNon_ins, truO_non, truO_bl, truO_int, truO_tup, truO_lst, truO_dct, asL_lst, asL_dct, asL_tup, asL_str, asL_int, asL_bl, asL_non, asL_ins, asD_dct, asD_lst, asT_tup, asT_lst, asT_dct, lenO_tup, lenO_lst, lenO_dct, lenB_ap, allB_ap, anyB_ap, sumB_ap, max2B_ap, intB_int, listB_tup, listB_lst, listB_dct, tupB_tup, tupB_lst, srcO_tup, srcO_lst, srcO_dct, srcO_str, itemO_tup, itemO_lst, itemO_dct, add_ii, sub_ii, neg_i, add_lst, isiO_ap, tagO_non, tagO_bl, tagO_int, tagO_str, tagO_tup, tagO_lst, tagO_dct, tagO_ins, isB_b, isB_c, isC_b, isC_c, kk_non, kk_int, kk_str, kk_bl, kks_nil, atI_0, atI_1, atI_2, atI_3, in_strs, in_strsT, in_2, in_sign, asL_hd, asD_hd, itemO_hd, lenO_hd, add_hl, setO_hd, ixN_0, ixN_1, ixN_2, ixN_40, ixN_41, ixN_42, zMakeP_ap, sTry_ap, tried_nx, tried_rt, tried_exc, inI_some, inI_none, setI_some, setI_none, clearI_nx, clearI_rt, clearI_none, noX_nx, noX_rt, zXA_ap, zXIs_ap, zDc_ap, $ls,*])
local macro_rules | `(tactic| simp! only) => `(tactic| simp -implicitDefEqProofs only [seval, sv_and_true, sv_true_and, sv_and_false, sv_false_and, sv_or_true, sv_true_or, sv_or_false, sv_false_or, sv_not_true, sv_not_false, sv_ft, sv_tf, sv_eqs, sv_bnt, sv_bnf, sv_bat, sv_bta, sv_baf, sv_bfa, sv_bot, sv_bto, sv_bof, sv_bfo, sv_dtr, sv_dfa, sv_dec, sv_ndec, sv_nb, sv_map_nil, sv_map_cons, sv_len_nil, sv_len_cons, sv_app_nil, sv_app_cons, sv_app_nil', sv_set_z, sv_set_s, sv_get_z, sv_get_s, sv_get_n, sv_rep_z, sv_rep_s, sv_rev_nil, sv_rev_1, sv_rev_2, sv_omap_s, sv_omap_n, sv_obind_s, sv_obind_n, sv_isEmpty_n, sv_isEmpty_c, sv_beq, lim_eq, bindT_ok, bindT_exc, outT_ok, outT_exc, bind_ok', bind_exc', out_ok, out_exc, then_nx, then_rt, then_bk, then_ct, then_exc, zVar_ap, zC_ap, zBin_ap, zUn_ap, zTru_ap, zChain_ap, zNotT_ap, zAndT_ap, zOrT_ap, zNot_ap, zAnd_ap, zOr_ap, zIf_ap, zNil_ap, zCons_ap, zTup_ap, zLst_ap, mkL_f, mkL_t, mkD_f, mkD_t, zCall_ap, zB_ap, zIx_ap, okO_some, bT_some', bO_some', zSrc_ap, zVals_ap, zItems_ap, zRng1_ap, zRng2_ap, zYes_ap, zD0_ap, zPart_ap, zNoPart_ap, zSl_ap, zRev_ap, zFrz_ap, zAttr_ap, sPass_ap, sBreak_ap, sCont_ap, sSeq_ap, sExp_ap, sRet_ap, sRetN_ap, sIf_ap, sAsg_ap, outO_some, gN_ap, gT_ap, gTs_nil, gTs_cons, sFor_ap, sSet_ap, outM_some, sRaise_ap, sAttr_ap, res_nx, res_rt, res_exc, loopF_nil, turn_nx, turn_ct, turn_bk, turn_rt, turn_exc, turnT_nx, turnT_ct, turnT_bk, turnT_rt, turnT_exc, nox_ok, lcF_nil, of_some, of_none, zLc_ap, wipeE_nil, wipeE_cons, le_ii, lt_ii, ge_ii, gt_ii, isN_ap, notN_ap, isB_ap, notB_ap, eq_ap, ne_ap, in_ap, nin_ap, eqO_int, eqO_str, eqO_bl, isNon_non, isNon_bl, isNon_int, isNon_str, isNon_tup, isNon_lst, isNon_dct, isNon_ins, truO_non, truO_bl, truO_int, truO_tup, truO_lst, truO_dct, asL_lst, asL_dct, asL_tup, asL_str, asL_int, asL_bl, asL_non, asL_ins, asD_dct, asD_lst, asT_tup, asT_lst, asT_dct, lenO_tup, lenO_lst, lenO_dct, lenB_ap, allB_ap, anyB_ap, sumB_ap, max2B_ap, intB_int, listB_tup, listB_lst, listB_dct, tupB_tup, tupB_lst, srcO_tup, srcO_lst, srcO_dct, srcO_str, itemO_tup, itemO_lst, itemO_dct, add_ii, sub_ii, neg_i, add_lst, isiO_ap, tagO_non, tagO_bl, tagO_int, tagO_str, tagO_tup, tagO_lst, tagO_dct, tagO_ins, isB_b, isB_c, isC_b, isC_c, kk_non, kk_int, kk_str, kk_bl, kks_nil, atI_0, atI_1, atI_2, atI_3, in_strs, in_strsT, in_2, in_sign, asL_hd, asD_hd, itemO_hd, lenO_hd, add_hl, setO_hd, ixN_0, ixN_1, ixN_2, ixN_40, ixN_41, ixN_42, zMakeP_ap, sTry_ap, tried_nx, tried_rt, tried_exc, inI_some, inI_none, setI_some, setI_none, clearI_nx, clearI_rt, clearI_none, noX_nx, noX_rt, zXA_ap, zXIs_ap, zDc_ap])
theorem pick2 {a b : Int} {r : Int} (h0 : 0 ≤ r) (h1 : r < 2) : ∃ c, (c = a ∨ c = b) ∧ L2.atI [D.int a, D.int b] r = some (.int c) := by
  obtain ⟨d, hd, e, _⟩ := pick (l := [D.int a, D.int b]) h0 h1
  rcases List.mem_cons.mp hd with rfl | hd
  · exact ⟨a, .inl rfl, e⟩
  · have := List.mem_singleton.mp hd
    subst this
    exact ⟨b, .inr rfl, e⟩
theorem math_law (ns : List Int) (h : ns.length ≤ 63) : ∃ μ, fn_law [.lst (ns.map D.int)] [] = .ok (.bl true) μ := by
  obtain ⟨t0, e0⟩ := mixF ns h 1
  obtain ⟨r1, t1, a1, b1, e1, _⟩ := next_ex0 t0 6 (by omega) (by omega)
  have hcut := cut_take (ds := sixF.map D.str) (k := 1 + r1) (μ := t1.sto) (by omega)
  have hnd : (sixF.take (1 + r1).toNat).Nodup := (List.take_sublist _ _).nodup (by decide)
  have hpl : ∀ x ∈ sixF.take (1 + r1).toNat, (D.str x).pl = true := fun x hx => sixF_pl x (List.mem_of_mem_take hx)
  have hlen : (sixF.take (1 + r1).toNat).length ≤ 6 := by rw [List.length_take]; exact Nat.min_le_right _ _
  obtain ⟨t2, vs, e2, hvl, hR⟩ := rulesF t1 (sixF.take (1 + r1).toNat) 3 [] hnd (by omega) (by omega) (by omega) rfl
  rw [List.append_nil, List.append_nil] at e2
  have hD := rules_DOk hnd hpl hvl hR
  obtain ⟨r3, t3, a3, b3, e3, _⟩ := next_ex0 t2 3 (by omega) (by omega)
  have core : ∃ ν, runF 13 ev_law [.lst (ns.map D.int)] [] = .ok (.bl true) ν := by
    let P : Nat → Env' → Sto → Prop := fun k ρ μ => k ≤ 3 ∧ ∃ (t : St) (d : D) (x : Option D), FOKn (6 + k) d ∧ μ = t.sto ∧ ρ = [some (.lst (ns.map .int)), some (.hd 1), some d, x, none, none, none, none, none, none, none, none, none]
    have hrng := rng1_int a3 (show r3 ≤ 1000000 by omega)
    have hF0 : FOKn (6 + 0) (.dct ((sixF.take (1 + r1).toNat).map .str) vs) := ⟨hD, by rw [List.length_map]; exact hlen⟩
    rcases loop_inv0 (ds := (List.range r3.toNat).map fun i : Nat => D.int i) (T := gN 3) (body := bd_law_0) (fun i : Nat => D.int i) P (fun _ => False) (List.range r3.toNat)
      [some (.lst (ns.map .int)), some (.hd 1), some (.dct ((sixF.take (1 + r1).toNat).map .str) vs), none, none, none, none, none, none, none, none, none, none] t3.sto
      ⟨Nat.zero_le _, t3, _, none, hF0, rfl, rfl⟩ (fun j a ρ μ hj hP => by
        obtain ⟨hj3, t, d, x, hd, rfl, rfl⟩ := hP
        have hjl : j < r3.toNat := by have := (List.getElem?_eq_some_iff.mp hj).1; simpa using this
        obtain ⟨t', d', hd', e⟩ := spoil_turn t (6 + j) d hd (by omega) (some (.lst (ns.map .int))) (some (.int a)) none none none none none none none none none
        exact ⟨_, rfl, .inl ⟨_, _, e, by omega, t', d', _, hd', rfl, rfl⟩⟩) with ⟨ρ', μ', eL, _, t4, d, x, hd, rfl, rfl⟩ | hf
    · obtain ⟨hdp, hdg, hdn⟩ := hd.use
      -- the name
      obtain ⟨r5, t5, a5, b5, e5, _⟩ := next_ex0 t4 2 (by omega) (by omega)
      obtain ⟨c5, hc5, p5⟩ := pick2 (a := 3) (b := 9) a5 b5
      obtain ⟨r6, t6, a6, b6, e6, _⟩ := next_ex0 t5 c5 (by omega) (by omega)
      obtain ⟨nm, hnm, p6, _⟩ := pick (l := nmsL) a6 (by show r6 < 9; omega)
      -- keeps
      obtain ⟨r7, t7, a7, b7, e7, _⟩ := next_ex0 t6 2 (by omega) (by omega)
      obtain ⟨c7, hc7, p7⟩ := pick2 (a := 2) (b := 5) a7 b7
      obtain ⟨r8, t8, a8, b8, e8, _⟩ := next_ex0 t7 c7 (by omega) (by omega)
      obtain ⟨kp, hkp, p8, _⟩ := pick (l := kpsL) a8 (by show r8 < 5; omega)
      -- reads
      obtain ⟨r9, t9, a9, b9, e9, _⟩ := next_ex0 t8 2 (by omega) (by omega)
      obtain ⟨c9, hc9, p9⟩ := pick2 (a := 4) (b := 10) a9 b9
      obtain ⟨r10, t10, a10, b10, e10, _⟩ := next_ex0 t9 c9 (by omega) (by omega)
      obtain ⟨src, hsrc, p10, _⟩ := pick (l := srcL) a10 (by show r10 < 10; omega)
      have h1 := nmsL_ok nm hnm
      have h3 := kpsL_ok kp hkp
      obtain ⟨h4, h5⟩ := srcL_ok src hsrc
      unfold nmsL at p6
      unfold kpsL at p8
      unfold srcL at p10
      refine ⟨t10.sto, ?_⟩
      rw [runF_ap, ev_law]
      rw [show sixF.map D.str = [.str "size", .str "wide", .str "b", .str "tag", .str "zz", .str "c"] from rfl] at hcut
      rw [List.map_take, show sixF.map D.str = [.str "size", .str "wide", .str "b", .str "tag", .str "zz", .str "c"] from rfl] at e2 eL
      simp! only [e0, e1, hcut, e2, e3, hrng, eL, e5, p5, e6, p6, e7, p7, e8, p8, e9, p9, e10, p10]
      have two : ∀ (some2 : D) (p8 : Option D), some2.pl = true → GoodD some2 → NamesNd some2 → edFault nm some2 kp src = edFault nm d kp src → ∀ (p6 p10 p11 : Option D) (all : List D),
          ((loopF (all, none) (gN 9) bd_law_1 [d, some2] [some (.lst (ns.map .int)), some (.hd 1), some d, x, some nm, some kp, p6, some src, p8, none, p10, p11, none] t10.sto).then (sRet (zC (.bl true)))).res = .ok (.bl true) t10.sto := by
        intro some2 p8 q1 q2 q3 q4 p6 p10 p11 all
        obtain ⟨x1, y1, w1⟩ := edit_turn nm d d kp src h1 hdp h3 h4 hdg hdn h5 hdp hdg rfl t10.sto (some (.lst (ns.map .int))) (some (.hd 1)) x p6 p8 p10 p11 none
        obtain ⟨x2, y2, w2⟩ := edit_turn nm some2 d kp src h1 q1 h3 h4 q2 q3 h5 hdp hdg q4 t10.sto (some (.lst (ns.map .int))) (some (.hd 1)) x p6 p8 x1 y1 none
        simp! only [loopF_consT, w1, w2]
      cases d with
      | dct ks ws =>
        obtain ⟨hok, hkl⟩ : DOk ks ws ∧ ks.length ≤ 6 + (List.range r3.toNat).length := hd
        have hrl : (List.range r3.toNat).length ≤ 2 := by rw [List.length_range]; omega
        have eit : ∀ μ, itemsL false (.dct ks ws) μ = .ok (.lst ((ks.zip ws).map fun p => .tup [p.1, p.2])) μ := fun _ => rfl
        have etu := turned hok (by omega) t10.sto
        have hrv : FOKn 1000 (.dct ks.reverse ws.reverse) := ⟨hok.rev, by rw [List.length_reverse]; omega⟩
        obtain ⟨u1, u2, u3⟩ := hrv.use
        simp! only [eit, etu]
        exact two _ _ u1 u2 u3 (edFault_rev hok nm kp src) _ _ _ _
      | _ => first | (simp [D.pl] at hdp; done) | (simp! only; exact two _ _ hdp hdg hdn rfl _ _ _ _)
    · exact hf.elim
  obtain ⟨ν, core⟩ := core
  exact ⟨[], purF_ok (ν := ν) (by simp [D.cls, D.cl, cls_ints]) core rfl⟩
end Z

namespace Z
open PySem PySem.Spec PyProof.Rows L2 SlX
def top (i : Nat) : Stmt := PySem.Challenge.pw_lackedfields_k01_editions_refused.main.body.getD i (.Pass ⟨0, 0, 0, 0⟩)
structure Ad where
  a_is_integer : Addr
  d_is_integer : FuncData
  a_is_name : Addr
  d_is_name : FuncData
  a_is_default : Addr
  d_is_default : FuncData
  a_is_rule : Addr
  d_is_rule : FuncData
  a_leads_back : Addr
  d_leads_back : FuncData
  a_look_at_fields : Addr
  d_look_at_fields : FuncData
  a_are_names : Addr
  d_are_names : FuncData
  a_Edition__init : Addr
  d_Edition__init : FuncData
  a__law_mix : Addr
  d__law_mix : FuncData
  a__law_next : Addr
  d__law_next : FuncData
  a__law_rules : Addr
  d__law_rules : FuncData
  a__law_name : Addr
  d__law_name : FuncData
  a__law_good : Addr
  d__law_good : FuncData
  a__law_ring : Addr
  d__law_ring : FuncData
  a__law_due : Addr
  d__law_due : FuncData
  a__law_spoilt : Addr
  d__law_spoilt : FuncData
  a_law : Addr
  d_law : FuncData
  c_FieldError : Addr
  c_InvalidEdition : Addr
  c_Edition : Addr
  a_InvalidEdition : Addr
  d_InvalidEdition : FuncData
structure Tb (K : PySem.W.Frag) (mg : Str → Option Value) (t : Ad) : Prop where
  b_isinstance : mg "isinstance" = none
  b_len : mg "len" = none
  b_all : mg "all" = none
  b_any : mg "any" = none
  b_sum : mg "sum" = none
  b_sorted : mg "sorted" = none
  b_max : mg "max" = none
  b_range : mg "range" = none
  b_set : mg "set" = none
  b_int : mg "int" = none
  b_str : mg "str" = none
  b_bool : mg "bool" = none
  b_tuple : mg "tuple" = none
  b_dict : mg "dict" = none
  b_list : mg "list" = none
  g_LETTERS : ∃ tk, mg "LETTERS" = some (.str "abcdefghijklmnopqrstuvwxyz" tk)
  g_MOST_NAME : ∃ tk, mg "MOST_NAME" = some (.int 8 tk)
  g_SAME : ∃ tk, mg "SAME" = some (.str "same" tk)
  g_NEXT : ∃ tk, mg "NEXT" = some (.str "next" tk)
  g_MOST_VALUE : ∃ tk, mg "MOST_VALUE" = some (.int 3 tk)
  g_MOST_FIELDS : ∃ tk, mg "MOST_FIELDS" = some (.int 5 tk)
  f_is_integer : FunD K "is_integer" "is_integer" (defArgs (top 4)) (defBody (top 4)) (defScope (top 4)) [] [] t.a_is_integer t.d_is_integer
  m_is_integer : mg "is_integer" = some (.ref t.a_is_integer)
  f_is_name : FunD K "is_name" "is_name" (defArgs (top 5)) (defBody (top 5)) (defScope (top 5)) [] [] t.a_is_name t.d_is_name
  m_is_name : mg "is_name" = some (.ref t.a_is_name)
  f_is_default : FunD K "is_default" "is_default" (defArgs (top 14)) (defBody (top 14)) (defScope (top 14)) [] [] t.a_is_default t.d_is_default
  m_is_default : mg "is_default" = some (.ref t.a_is_default)
  f_is_rule : FunD K "is_rule" "is_rule" (defArgs (top 15)) (defBody (top 15)) (defScope (top 15)) [] [] t.a_is_rule t.d_is_rule
  m_is_rule : mg "is_rule" = some (.ref t.a_is_rule)
  f_leads_back : FunD K "leads_back" "leads_back" (defArgs (top 16)) (defBody (top 16)) (defScope (top 16)) [] [] t.a_leads_back t.d_leads_back
  m_leads_back : mg "leads_back" = some (.ref t.a_leads_back)
  f_look_at_fields : FunD K "look_at_fields" "look_at_fields" (defArgs (top 17)) (defBody (top 17)) (defScope (top 17)) [] [] t.a_look_at_fields t.d_look_at_fields
  m_look_at_fields : mg "look_at_fields" = some (.ref t.a_look_at_fields)
  f_are_names : FunD K "are_names" "are_names" (defArgs (top 18)) (defBody (top 18)) (defScope (top 18)) [] [] t.a_are_names t.d_are_names
  m_are_names : mg "are_names" = some (.ref t.a_are_names)
  f_Edition__init : FunD K "__init__" "Edition.__init__" (defArgs (inClass (top 19) 1)) (defBody (inClass (top 19) 1)) (defScope (inClass (top 19) 1)) [] [("keeps", .bl true), ("reads", .non)] t.a_Edition__init t.d_Edition__init
  f__law_mix : FunD K "_law_mix" "_law_mix" (defArgs (top 21)) (defBody (top 21)) (defScope (top 21)) [] [] t.a__law_mix t.d__law_mix
  m__law_mix : mg "_law_mix" = some (.ref t.a__law_mix)
  f__law_next : FunD K "_law_next" "_law_next" (defArgs (top 22)) (defBody (top 22)) (defScope (top 22)) [] [] t.a__law_next t.d__law_next
  m__law_next : mg "_law_next" = some (.ref t.a__law_next)
  f__law_rules : FunD K "_law_rules" "_law_rules" (defArgs (top 23)) (defBody (top 23)) (defScope (top 23)) [] [] t.a__law_rules t.d__law_rules
  m__law_rules : mg "_law_rules" = some (.ref t.a__law_rules)
  f__law_name : FunD K "_law_name" "_law_name" (defArgs (top 24)) (defBody (top 24)) (defScope (top 24)) [] [] t.a__law_name t.d__law_name
  m__law_name : mg "_law_name" = some (.ref t.a__law_name)
  f__law_good : FunD K "_law_good" "_law_good" (defArgs (top 25)) (defBody (top 25)) (defScope (top 25)) [] [] t.a__law_good t.d__law_good
  m__law_good : mg "_law_good" = some (.ref t.a__law_good)
  f__law_ring : FunD K "_law_ring" "_law_ring" (defArgs (top 26)) (defBody (top 26)) (defScope (top 26)) [] [] t.a__law_ring t.d__law_ring
  m__law_ring : mg "_law_ring" = some (.ref t.a__law_ring)
  f__law_due : FunD K "_law_due" "_law_due" (defArgs (top 27)) (defBody (top 27)) (defScope (top 27)) [] [] t.a__law_due t.d__law_due
  m__law_due : mg "_law_due" = some (.ref t.a__law_due)
  f__law_spoilt : FunD K "_law_spoilt" "_law_spoilt" (defArgs (top 28)) (defBody (top 28)) (defScope (top 28)) [] [] t.a__law_spoilt t.d__law_spoilt
  m__law_spoilt : mg "_law_spoilt" = some (.ref t.a__law_spoilt)
  f_law : FunD K "law" "law" (defArgs (top 29)) (defBody (top 29)) (defScope (top 29)) [] [] t.a_law t.d_law
  m_law : mg "law" = some (.ref t.a_law)
  m_FieldError : mg "FieldError" = some (.ref t.c_FieldError)
  m_InvalidEdition : mg "InvalidEdition" = some (.ref t.c_InvalidEdition)
  m_Edition : mg "Edition" = some (.ref t.c_Edition)
  k_Edition : Mk K t.c_Edition t.a_Edition__init
  x_InvalidEdition : XcK K t.c_InvalidEdition t.a_InvalidEdition
  f_InvalidEdition : FunD K "__init__" "InvalidEdition.__init__" (defArgs (inClass (top 8) 0)) (defBody (inClass (top 8) 0)) (defScope (inClass (top 8) 0)) [] [] t.a_InvalidEdition t.d_InvalidEdition
  xf_InvalidEdition : XfC K t.c_InvalidEdition
  xc_InvalidEdition : ExcC K t.c_InvalidEdition
  xn_InvalidEdition_part : PySem.W.findIn K (.ref t.c_InvalidEdition) "part" = some none
  xn_InvalidEdition_field : PySem.W.findIn K (.ref t.c_InvalidEdition) "field" = some none
  xk_InvalidEdition_FieldError : PySem.W.kitOne K (.ref t.c_InvalidEdition) (.ref t.c_FieldError) = some true
  xk_InvalidEdition_InvalidEdition : PySem.W.kitOne K (.ref t.c_InvalidEdition) (.ref t.c_InvalidEdition) = some true
  ck : ClsK K mg cls
  cs : ClsS K mg cls
  i_bool : IsiK K mg cls (.type "bool") (isB "bool")
  i_dict : IsiK K mg cls (.type "dict") (isB "dict")
  i_int : IsiK K mg cls (.type "int") (isB "int")
  i_list : IsiK K mg cls (.type "list") (isB "list")
  i_str : IsiK K mg cls (.type "str") (isB "str")
  i_tuple : IsiK K mg cls (.type "tuple") (isB "tuple")
  i_Edition : IsiK K mg cls (.ref t.c_Edition) (isC "Edition")
  catch_InvalidEdition : ∀ x ci C b, cls x = some ci → mg x = some (.ref C) → catch_InvalidEdition x = some b → PySem.W.exmOne K (.ref C) (.ref t.c_InvalidEdition) = some b
section
variable {P : Program} {w : World} {K : PySem.W.Frag} {mg : Str → Option Value} {base : Heap} {t : Ad}
theorem sc_InvalidEdition : FnScope ["self", "part", "field"] ["self", "part", "field"] (defScope (inClass (top 8) 0)) := ⟨rfl, rfl, rfl, by decide +kernel, rfl, by decide +kernel, by decide +kernel⟩
theorem ok_InvalidEdition (T : Tb K mg t) : FnOk P w K mg base (L2.CX P w) 1 t.a_InvalidEdition t.d_InvalidEdition ["self", "part", "field"] (spX t.c_InvalidEdition ["part", "field"]) := x2_ok T.f_InvalidEdition sc_InvalidEdition T.x_InvalidEdition.oex T.xn_InvalidEdition_part T.xn_InvalidEdition_field
theorem bd_InvalidEdition (T : Tb K mg t) : Binds K t.d_InvalidEdition ["self", "part", "field"] [] := T.f_InvalidEdition.bindsN fun _ _ _ _ _ _ us hl => match us, hl with | [_, _, _], _ => rfl
theorem sc_is_integer : FnScope ["value"] ["value"] (defScope (top 4)) := ⟨rfl, rfl, rfl, by decide +kernel, rfl, by decide +kernel, by decide +kernel⟩
theorem ok_is_integer (T : Tb K mg t) : FOk P w K mg base cls 1 t.a_is_integer t.d_is_integer ["value"] fn_is_integer := FOk.pur (fn_z (k := 0) T.f_is_integer sc_is_integer fun cdv A outer s H E z =>
    ss_one (s_ret (e_and (e_isiB T.ck T.i_int rfl T.b_isinstance (e_var (i := 0)) rfl T.b_int (by decide +kernel)) (e_one (e_not (e_isiB T.ck T.i_bool rfl T.b_isinstance (e_var (i := 0)) rfl T.b_bool (by decide +kernel)))))))
theorem bd_is_integer (T : Tb K mg t) : Binds K t.d_is_integer ["value"] [] := T.f_is_integer.bindsN fun _ _ _ _ _ _ us hl => match us, hl with | [_], _ => rfl
theorem sc_is_name : FnScope ["value", "sign"] ["value"] (defScope (top 5)) := ⟨rfl, rfl, rfl, by decide +kernel, rfl, by decide +kernel, by decide +kernel⟩
theorem ok_is_name (T : Tb K mg t) : FOk P w K mg base cls 1 t.a_is_name t.d_is_name ["value"] fn_is_name := FOk.pur (fn_z (k := 0) T.f_is_name sc_is_name fun cdv A outer s H E z =>
    ss_cons (s_if (w_pt (w_or (t_not (t_val (e_isiB T.ck T.i_str rfl T.b_isinstance (e_var (i := 0)) rfl T.b_str (by decide +kernel)))) (w_or1 (t_not (t_chain (cmp_ok z.u .le) (cmp_ok z.u .le) (k_int) (e_blt rfl T.b_len (by decide +kernel) len_b (a_cons (e_var (i := 0)) (a_nil))) (e_gint rfl T.g_MOST_NAME)))))) (ss_one (s_ret (k_bl))) (ss_nil))
    (ss_one (s_ret (e_blt rfl T.b_all (by decide +kernel) (all_b z.calm) (a_cons (e_lc (m := false) (own := [("sign", 1)]) z (i_val (e_var (i := 0))) (by show blkC ["value", "sign"] (defScope (top 5)) _ _ = true; decide +kernel) (fun _ _ _ _ _ => g_name (z.blk _ _ _ _ _).nd (i := 1)) (fun _ _ _ _ _ => if_nil) (fun _ _ _ _ _ => e_cmp (cmp_ok (z.blk _ _ _ _ _).u .inn) (e_var (i := 1)) (e_gstr rfl T.g_LETTERS))) (a_nil))))))
theorem bd_is_name (T : Tb K mg t) : Binds K t.d_is_name ["value"] [] := T.f_is_name.bindsN fun _ _ _ _ _ _ us hl => match us, hl with | [_], _ => rfl
theorem sc_is_default : FnScope ["value", "field", "known"] ["value", "field", "known"] (defScope (top 14)) := ⟨rfl, rfl, rfl, by decide +kernel, rfl, by decide +kernel, by decide +kernel⟩
theorem ok_is_default (T : Tb K mg t) : FOk P w K mg base cls 2 t.a_is_default t.d_is_default ["value", "field", "known"] fn_is_default := FOk.pur (fn_z (k := 1) T.f_is_default sc_is_default fun cdv A outer s H E z =>
    ss_cons (s_if (t_val (e_call z (ok_is_integer T) rfl T.m_is_integer T.f_is_integer.kp (bd_is_integer T) (a_cons (e_var (i := 0)) (a_nil)))) (ss_one (s_ret (e_chain (cmp_ok z.u .le) (cmp_ok z.u .le) (k_int) (e_var (i := 0)) (e_gint rfl T.g_MOST_VALUE)))) (ss_nil))
    (ss_cons (s_if (w_pt (w_or (t_not (t_val (e_isiB T.ck T.i_tuple rfl T.b_isinstance (e_var (i := 0)) rfl T.b_tuple (by decide +kernel)))) (w_or1 (t_cmp (cmp_ok z.u .ne) (e_blt rfl T.b_len (by decide +kernel) len_b (a_cons (e_var (i := 0)) (a_nil))) (k_int))))) (ss_one (s_ret (k_bl))) (ss_nil))
    (ss_cons (s_if (w_pt (w_or (t_not (t_val (e_isiB T.ck T.i_str rfl T.b_isinstance (e_ix z (e_var (i := 0)) (k_int)) rfl T.b_str (by decide +kernel)))) (w_or1 (t_not (t_val (e_isiB T.ck T.i_str rfl T.b_isinstance (e_ix z (e_var (i := 0)) (k_int)) rfl T.b_str (by decide +kernel))))))) (ss_one (s_ret (k_bl))) (ss_nil))
    (ss_one (s_ret (e_and (e_cmp (cmp_ok z.u .inn) (e_ix z (e_var (i := 0)) (k_int)) (e_tup (a_cons (e_gstr rfl T.g_SAME) (a_cons (e_gstr rfl T.g_NEXT) (a_nil))))) (e_and (e_cmp (cmp_ok z.u .inn) (e_ix z (e_var (i := 0)) (k_int)) (e_var (i := 2))) (e_one (e_cmp (cmp_ok z.u .ne) (e_ix z (e_var (i := 0)) (k_int)) (e_var (i := 1)))))))))))
theorem bd_is_default (T : Tb K mg t) : Binds K t.d_is_default ["value", "field", "known"] [] := T.f_is_default.bindsN fun _ _ _ _ _ _ us hl => match us, hl with | [_, _, _], _ => rfl
theorem sc_is_rule : FnScope ["value", "field", "known"] ["value", "field", "known"] (defScope (top 15)) := ⟨rfl, rfl, rfl, by decide +kernel, rfl, by decide +kernel, by decide +kernel⟩
theorem ok_is_rule (T : Tb K mg t) : FOk P w K mg base cls 3 t.a_is_rule t.d_is_rule ["value", "field", "known"] fn_is_rule := FOk.pur (fn_z (k := 2) T.f_is_rule sc_is_rule fun cdv A outer s H E z =>
    ss_cons (s_if (w_pt (w_or (t_not (t_val (e_isiB T.ck T.i_tuple rfl T.b_isinstance (e_var (i := 0)) rfl T.b_tuple (by decide +kernel)))) (w_or1 (t_cmp (cmp_ok z.u .ne) (e_blt rfl T.b_len (by decide +kernel) len_b (a_cons (e_var (i := 0)) (a_nil))) (k_int))))) (ss_one (s_ret (k_bl))) (ss_nil))
    (ss_one (s_ret (e_and (e_call z (ok_is_default T) rfl T.m_is_default T.f_is_default.kp (bd_is_default T) (a_cons (e_ix z (e_var (i := 0)) (k_int)) (a_cons (e_var (i := 1)) (a_cons (e_var (i := 2)) (a_nil))))) (e_one (e_isiB T.ck T.i_bool rfl T.b_isinstance (e_ix z (e_var (i := 0)) (k_int)) rfl T.b_bool (by decide +kernel)))))))
theorem bd_is_rule (T : Tb K mg t) : Binds K t.d_is_rule ["value", "field", "known"] [] := T.f_is_rule.bindsN fun _ _ _ _ _ _ us hl => match us, hl with | [_, _, _], _ => rfl
theorem sc_leads_back : FnScope ["rules", "field", "at", "turn", "default"] ["rules", "field"] (defScope (top 16)) := ⟨rfl, rfl, rfl, by decide +kernel, rfl, by decide +kernel, by decide +kernel⟩
theorem ok_leads_back (T : Tb K mg t) : FOk P w K mg base cls 2 t.a_leads_back t.d_leads_back ["rules", "field"] fn_leads_back := FOk.pur (fn_z (k := 1) T.f_leads_back sc_leads_back fun cdv A outer s H E z =>
    ss_cons (s_asg (e_var (i := 1)) (g_name z.nd (i := 2)))
    (ss_cons (s_for z (i_rng1 rfl T.b_range (a_cons (e_blt rfl T.b_len (by decide +kernel) len_b (a_cons (e_var (i := 0)) (a_nil))) (a_nil))) (g_name z.nd (i := 3)) (ss_cons (s_asg (e_ix z (e_ix z (e_var (i := 0)) (e_var (i := 2))) (k_int)) (g_name z.nd (i := 4)))
    (ss_cons (s_if (t_val (e_call z (ok_is_integer T) rfl T.m_is_integer T.f_is_integer.kp (bd_is_integer T) (a_cons (e_var (i := 4)) (a_nil)))) (ss_one (s_ret (k_bl))) (ss_nil))
    (ss_cons (s_asg (e_ix z (e_var (i := 4)) (k_int)) (g_name z.nd (i := 2)))
    (ss_one (s_if (t_cmp (cmp_ok z.u .eq) (e_var (i := 2)) (e_var (i := 1))) (ss_one (s_ret (k_bl))) (ss_nil)))))))
    (ss_one (s_ret (k_bl)))))
theorem bd_leads_back (T : Tb K mg t) : Binds K t.d_leads_back ["rules", "field"] [] := T.f_leads_back.bindsN fun _ _ _ _ _ _ us hl => match us, hl with | [_, _], _ => rfl
theorem sc_look_at_fields : FnScope ["fields", "known", "field"] ["fields"] (defScope (top 17)) := ⟨rfl, rfl, rfl, by decide +kernel, rfl, by decide +kernel, by decide +kernel⟩
theorem ok_look_at_fields (T : Tb K mg t) : FOk P w K mg base cls 4 t.a_look_at_fields t.d_look_at_fields ["fields"] fn_look_at_fields := FOk.pur (fn_z (k := 3) T.f_look_at_fields sc_look_at_fields fun cdv A outer s H E z =>
    ss_cons (s_if (w_pt (w_or (t_not (t_val (e_isiB T.ck T.i_dict rfl T.b_isinstance (e_var (i := 0)) rfl T.b_dict (by decide +kernel)))) (w_or1 (t_not (t_chain (cmp_ok z.u .le) (cmp_ok z.u .le) (k_int) (e_blt rfl T.b_len (by decide +kernel) len_b (a_cons (e_var (i := 0)) (a_nil))) (e_gint rfl T.g_MOST_FIELDS)))))) (ss_one (s_raise z T.x_InvalidEdition (ok_InvalidEdition T) (bd_InvalidEdition T) rfl T.m_InvalidEdition rfl rfl (by decide) (a_cons (k_str) (a_cons (k_str) (a_nil))))) (ss_nil))
    (ss_cons (s_asg (e_blt rfl T.b_sorted (by decide +kernel) (sorted_b (m := false) z.calm) (a_cons (e_lc (m := false) (own := [("field", 2)]) z (i_val (e_var (i := 0))) (by show blkC ["fields", "known", "field"] (defScope (top 17)) _ _ = true; decide +kernel) (fun _ _ _ _ _ => g_name (z.blk _ _ _ _ _).nd (i := 2)) (fun _ _ _ _ _ => if_one (t_val (e_call (z.blk _ _ _ _ _) (ok_is_name T) rfl T.m_is_name T.f_is_name.kp (bd_is_name T) (a_cons (e_var (i := 2)) (a_nil))))) (fun _ _ _ _ _ => e_var (i := 2))) (a_nil))) (g_name z.nd (i := 1)))
    (ss_cons (s_for z (i_val (e_var (i := 1))) (g_name z.nd (i := 2)) (ss_one (s_if (t_not (t_val (e_call z (ok_is_rule T) rfl T.m_is_rule T.f_is_rule.kp (bd_is_rule T) (a_cons (e_ix z (e_var (i := 0)) (e_var (i := 2))) (a_cons (e_var (i := 2)) (a_cons (e_var (i := 1)) (a_nil))))))) (ss_one (s_raise z T.x_InvalidEdition (ok_InvalidEdition T) (bd_InvalidEdition T) rfl T.m_InvalidEdition rfl rfl (by decide) (a_cons (k_str) (a_cons (e_var (i := 2)) (a_nil))))) (ss_nil))))
    (ss_cons (s_if (t_cmp (cmp_ok z.u .lt) (e_blt rfl T.b_len (by decide +kernel) len_b (a_cons (e_var (i := 1)) (a_nil))) (e_blt rfl T.b_len (by decide +kernel) len_b (a_cons (e_var (i := 0)) (a_nil)))) (ss_one (s_raise z T.x_InvalidEdition (ok_InvalidEdition T) (bd_InvalidEdition T) rfl T.m_InvalidEdition rfl rfl (by decide) (a_cons (k_str) (a_cons (k_str) (a_nil))))) (ss_nil))
    (ss_one (s_for z (i_val (e_var (i := 1))) (g_name z.nd (i := 2)) (ss_one (s_if (t_val (e_call z (ok_leads_back T) rfl T.m_leads_back T.f_leads_back.kp (bd_leads_back T) (a_cons (e_var (i := 0)) (a_cons (e_var (i := 2)) (a_nil))))) (ss_one (s_raise z T.x_InvalidEdition (ok_InvalidEdition T) (bd_InvalidEdition T) rfl T.m_InvalidEdition rfl rfl (by decide) (a_cons (k_str) (a_cons (e_var (i := 2)) (a_nil))))) (ss_nil)))))))))
theorem bd_look_at_fields (T : Tb K mg t) : Binds K t.d_look_at_fields ["fields"] [] := T.f_look_at_fields.bindsN fun _ _ _ _ _ _ us hl => match us, hl with | [_], _ => rfl
theorem sc_are_names : FnScope ["value", "name"] ["value"] (defScope (top 18)) := ⟨rfl, rfl, rfl, by decide +kernel, rfl, by decide +kernel, by decide +kernel⟩
theorem ok_are_names (T : Tb K mg t) : FOk P w K mg base cls 2 t.a_are_names t.d_are_names ["value"] fn_are_names := FOk.pur (fn_z (k := 1) T.f_are_names sc_are_names fun cdv A outer s H E z =>
    ss_cons (s_if (w_pt (w_or (t_not (t_val (e_isiB T.ck T.i_tuple rfl T.b_isinstance (e_var (i := 0)) rfl T.b_tuple (by decide +kernel)))) (w_or1 (t_not (t_val (e_blt rfl T.b_all (by decide +kernel) (all_b z.calm) (a_cons (e_lc (m := false) (own := [("name", 1)]) z (i_val (e_var (i := 0))) (by show blkC ["value", "name"] (defScope (top 18)) _ _ = true; decide +kernel) (fun _ _ _ _ _ => g_name (z.blk _ _ _ _ _).nd (i := 1)) (fun _ _ _ _ _ => if_nil) (fun _ _ _ _ _ => e_call (z.blk _ _ _ _ _) (ok_is_name T) rfl T.m_is_name T.f_is_name.kp (bd_is_name T) (a_cons (e_var (i := 1)) (a_nil)))) (a_nil)))))))) (ss_one (s_ret (k_bl))) (ss_nil))
    (ss_one (s_ret (e_cmp (cmp_ok z.u .eq) (e_lenSet z rfl T.b_len rfl T.b_set (e_var (i := 0))) (e_blt rfl T.b_len (by decide +kernel) len_b (a_cons (e_var (i := 0)) (a_nil)))))))
theorem bd_are_names (T : Tb K mg t) : Binds K t.d_are_names ["value"] [] := T.f_are_names.bindsN fun _ _ _ _ _ _ us hl => match us, hl with | [_], _ => rfl
theorem sc_Edition__init : FnScope ["self", "name", "fields", "keeps", "reads", "field"] ["self", "name", "fields", "keeps", "reads"] (defScope (inClass (top 19) 1)) := ⟨rfl, rfl, rfl, by decide +kernel, rfl, by decide +kernel, by decide +kernel⟩
theorem ok_Edition__init (T : Tb K mg t) : FOk P w K mg base cls 5 t.a_Edition__init t.d_Edition__init ["self", "name", "fields", "keeps", "reads"] fn_Edition__init := FOk.trim (fn_z (k := 4) T.f_Edition__init sc_Edition__init fun cdv A outer s H E z =>
    ss_cons (s_if (t_not (t_val (e_call z (ok_is_name T) rfl T.m_is_name T.f_is_name.kp (bd_is_name T) (a_cons (e_var (i := 1)) (a_nil))))) (ss_one (s_raise z T.x_InvalidEdition (ok_InvalidEdition T) (bd_InvalidEdition T) rfl T.m_InvalidEdition rfl rfl (by decide) (a_cons (k_str) (a_cons (k_str) (a_nil))))) (ss_nil))
    (ss_cons (s_exp (e_call z (ok_look_at_fields T) rfl T.m_look_at_fields T.f_look_at_fields.kp (bd_look_at_fields T) (a_cons (e_var (i := 2)) (a_nil))))
    (ss_cons (s_if (t_not (t_val (e_isiB T.ck T.i_bool rfl T.b_isinstance (e_var (i := 3)) rfl T.b_bool (by decide +kernel)))) (ss_one (s_raise z T.x_InvalidEdition (ok_InvalidEdition T) (bd_InvalidEdition T) rfl T.m_InvalidEdition rfl rfl (by decide) (a_cons (k_str) (a_cons (k_str) (a_nil))))) (ss_nil))
    (ss_cons (s_if (w_pt (w_and (t_cmp (cmp_ok z.u .notN) (e_var (i := 4)) (k_non)) (w_and1 (t_not (t_val (e_call z (ok_are_names T) rfl T.m_are_names T.f_are_names.kp (bd_are_names T) (a_cons (e_var (i := 4)) (a_nil)))))))) (ss_one (s_raise z T.x_InvalidEdition (ok_InvalidEdition T) (bd_InvalidEdition T) rfl T.m_InvalidEdition rfl rfl (by decide) (a_cons (k_str) (a_cons (k_str) (a_nil))))) (ss_nil))
    (ss_cons (s_attr T.cs (e_var (i := 0)) (e_var (i := 1)))
    (ss_cons (s_attr T.cs (e_var (i := 0)) (e_dc (m := false) (own := [("field", 5)]) z (i_val (e_blt rfl T.b_sorted (by decide +kernel) (sorted_b (m := false) z.calm) (a_cons (e_ty rfl T.b_list (by decide +kernel) (list_b (m := false) z.calm) (a_cons (e_var (i := 2)) (a_nil))) (a_nil)))) (by show blkC ["self", "name", "fields", "keeps", "reads", "field"] (defScope (inClass (top 19) 1)) _ _ = true; decide +kernel) (fun _ _ _ _ _ => g_name (z.blk _ _ _ _ _).nd (i := 5)) (fun _ _ _ _ _ => if_nil) (fun _ _ _ _ _ => e_var (i := 5)) (fun _ _ _ _ _ => e_ix (z.blk _ _ _ _ _) (e_var (i := 2)) (e_var (i := 5)))))
    (ss_cons (s_attr T.cs (e_var (i := 0)) (e_var (i := 3)))
    (ss_one (s_attr T.cs (e_var (i := 0)) (e_var (i := 4)))))))))))
theorem kb_Edition_2_keeps_reads (T : Tb K mg t) : ∃ mv : List Value, KBn K t.d_Edition__init ["self", "name", "fields", "keeps", "reads"] 3 ["keeps", "reads"] (fun us ws => us ++ ws) (fun vs zs => vs ++ zs) :=
  T.f_Edition__init.kbinds0 3 ["keeps", "reads"] [] (fun us _ ws => us ++ ws) (by simp) (fun q h => by simp at h) (fun a b c => a.append c) fun D doc pm an cdv ct us mv ws h1 h2 h3 => match us, mv, ws, h1, h2, h3 with | [_, _, _], [], [_, _], _, _, _ => rfl
theorem har_Edition_2_keeps_reads {G : Gx} : ∀ (A : Al) (F : Hp) (vs zs : List V) (ds es : List D), ds.length = 2 → es.length = 2 → Reps G A F vs ds → Reps G A F zs es → ∀ v d, Rep G A F v d → Reps G A F ((v :: vs) ++ zs) (ar_Edition_2_keeps_reads (d :: (ds ++ es)))
  | A, F, vs, zs, [d0, d1], [e0, e1], _, _, h1, h2, v, d, h => Reps.cons h (h1.append h2)
theorem sc__law_mix : FnScope ["_law_script", "_law_seed", "_law_state", "_law_cell"] ["_law_script", "_law_seed"] (defScope (top 21)) := ⟨rfl, rfl, rfl, by decide +kernel, rfl, by decide +kernel, by decide +kernel⟩
theorem ok__law_mix (T : Tb K mg t) : FOk P w K mg base cls 1 t.a__law_mix t.d__law_mix ["_law_script", "_law_seed"] fn__law_mix := FOk.raw (fn_z (k := 0) T.f__law_mix sc__law_mix fun cdv A outer s H E z =>
    ss_cons (s_asg (e_var (i := 1)) (g_name z.nd (i := 2)))
    (ss_cons (s_for z (i_val (e_var (i := 0))) (g_name z.nd (i := 3)) (ss_one (s_asg (e_bin mod_ok (e_ty rfl T.b_int (by decide +kernel) int_b (a_cons (e_bin add_ok (e_bin add_ok (e_bin mul_ok (e_var (i := 2)) (k_int)) (e_bin mod_ok (e_ty rfl T.b_int (by decide +kernel) int_b (a_cons (e_var (i := 3)) (a_nil))) (k_int))) (k_int)) (a_nil))) (k_int)) (g_name z.nd (i := 2)))))
    (ss_one (s_ret (e_lst (m := true) (a_cons (e_var (i := 2)) (a_cons (e_ty rfl T.b_list (by decide +kernel) (list_b (m := true) z.calm) (a_cons (e_var (i := 0)) (a_nil))) (a_cons (k_int) (a_cons (k_int) (a_nil))))))))))
theorem bd__law_mix (T : Tb K mg t) : Binds K t.d__law_mix ["_law_script", "_law_seed"] [] := T.f__law_mix.bindsN fun _ _ _ _ _ _ us hl => match us, hl with | [_, _], _ => rfl
theorem sc__law_next : FnScope ["_law_h", "_law_bound", "_law_cell"] ["_law_h", "_law_bound"] (defScope (top 22)) := ⟨rfl, rfl, rfl, by decide +kernel, rfl, by decide +kernel, by decide +kernel⟩
theorem ok__law_next (T : Tb K mg t) : FOk P w K mg base cls 1 t.a__law_next t.d__law_next ["_law_h", "_law_bound"] fn__law_next := FOk.trim (fn_z (k := 0) T.f__law_next sc__law_next fun cdv A outer s H E z =>
    ss_cons (s_asg (e_ix z (e_bin add_ok (e_ix z (e_var (i := 0)) (k_int)) (e_lst (m := false) (a_cons (k_int) (a_nil)))) (e_bin mod_ok (e_ty rfl T.b_int (by decide +kernel) int_b (a_cons (e_ix z (e_var (i := 0)) (k_int)) (a_nil))) (e_blt rfl T.b_max (by decide +kernel) (max2_b z.calm) (a_cons (k_int) (a_cons (e_blt rfl T.b_len (by decide +kernel) len_b (a_cons (e_ix z (e_var (i := 0)) (k_int)) (a_nil))) (a_nil)))))) (g_name z.nd (i := 2)))
    (ss_cons (s_if (t_cmp (cmp_ok z.u .ge) (e_var (i := 2)) (e_bin pow_ok (k_int) (k_int))) (ss_cons (s_set z (e_ix z (e_var (i := 0)) (k_int)) (e_bin mod_ok (e_ty rfl T.b_int (by decide +kernel) int_b (a_cons (e_ix z (e_var (i := 0)) (k_int)) (a_nil))) (e_blt rfl T.b_len (by decide +kernel) len_b (a_cons (e_ix z (e_var (i := 0)) (k_int)) (a_nil)))) (e_bin div_ok (e_var (i := 2)) (e_var (i := 1))))
    (ss_one (s_ret (e_bin mod_ok (e_ty rfl T.b_int (by decide +kernel) int_b (a_cons (e_var (i := 2)) (a_nil))) (e_var (i := 1)))))) (ss_nil))
    (ss_cons (s_set z (e_var (i := 0)) (k_int) (e_bin mod_ok (e_ty rfl T.b_int (by decide +kernel) int_b (a_cons (e_bin add_ok (e_bin add_ok (e_bin mul_ok (e_ix z (e_var (i := 0)) (k_int)) (k_int)) (e_bin mul_ok (e_var (i := 2)) (k_int))) (k_int)) (a_nil))) (k_int)))
    (ss_cons (s_set z (e_var (i := 0)) (k_int) (e_bin add_ok (e_ix z (e_var (i := 0)) (k_int)) (k_int)))
    (ss_one (s_ret (e_bin mod_ok (e_ty rfl T.b_int (by decide +kernel) int_b (a_cons (e_bin div_ok (e_ix z (e_var (i := 0)) (k_int)) (k_int)) (a_nil))) (e_var (i := 1)))))))))
theorem bd__law_next (T : Tb K mg t) : Binds K t.d__law_next ["_law_h", "_law_bound"] [] := T.f__law_next.bindsN fun _ _ _ _ _ _ us hl => match us, hl with | [_, _], _ => rfl
theorem sc__law_rules : FnScope ["_law_h", "_law_fields", "_law_most", "_law_found", "_law_k", "_law_default"] ["_law_h", "_law_fields", "_law_most"] (defScope (top 23)) := ⟨rfl, rfl, rfl, by decide +kernel, rfl, by decide +kernel, by decide +kernel⟩
theorem ok__law_rules (T : Tb K mg t) : FOk P w K mg base cls 2 t.a__law_rules t.d__law_rules ["_law_h", "_law_fields", "_law_most"] fn__law_rules := FOk.trim (fn_z (k := 1) T.f__law_rules sc__law_rules fun cdv A outer s H E z =>
    ss_cons (s_asg (e_d0 (m := true)) (g_name z.nd (i := 3)))
    (ss_cons (s_for z (i_rng1 rfl T.b_range (a_cons (e_blt rfl T.b_len (by decide +kernel) len_b (a_cons (e_var (i := 1)) (a_nil))) (a_nil))) (g_name z.nd (i := 4)) (ss_cons (s_asg (e_call z (ok__law_next T) rfl T.m__law_next T.f__law_next.kp (bd__law_next T) (a_cons (e_var (i := 0)) (a_cons (e_bin add_ok (e_var (i := 2)) (k_int)) (a_nil)))) (g_name z.nd (i := 5)))
    (ss_cons (s_if (w_pt (w_and (t_cmp (cmp_ok z.u .gt) (e_var (i := 4)) (k_int)) (w_and1 (t_cmp (cmp_ok z.u .eq) (e_call z (ok__law_next T) rfl T.m__law_next T.f__law_next.kp (bd__law_next T) (a_cons (e_var (i := 0)) (a_cons (k_int) (a_nil)))) (k_int))))) (ss_one (s_asg (e_tup (a_cons (e_ix z (e_lst (m := false) (a_cons (k_str) (a_cons (k_str) (a_nil)))) (e_call z (ok__law_next T) rfl T.m__law_next T.f__law_next.kp (bd__law_next T) (a_cons (e_var (i := 0)) (a_cons (k_int) (a_nil))))) (a_cons (e_ix z (e_var (i := 1)) (e_call z (ok__law_next T) rfl T.m__law_next T.f__law_next.kp (bd__law_next T) (a_cons (e_var (i := 0)) (a_cons (e_var (i := 4)) (a_nil))))) (a_nil)))) (g_name z.nd (i := 5)))) (ss_nil))
    (ss_one (s_set z (e_var (i := 3)) (e_ix z (e_var (i := 1)) (e_var (i := 4))) (e_tup (a_cons (e_var (i := 5)) (a_cons (e_cmp (cmp_ok z.u .eq) (e_call z (ok__law_next T) rfl T.m__law_next T.f__law_next.kp (bd__law_next T) (a_cons (e_var (i := 0)) (a_cons (k_int) (a_nil)))) (k_int)) (a_nil)))))))))
    (ss_one (s_ret (e_frz (e_var (i := 3)))))))
theorem bd__law_rules (T : Tb K mg t) : Binds K t.d__law_rules ["_law_h", "_law_fields", "_law_most"] [] := T.f__law_rules.bindsN fun _ _ _ _ _ _ us hl => match us, hl with | [_, _, _], _ => rfl
theorem sc__law_name : FnScope ["_law_value", "_law_small", "_law_sign"] ["_law_value"] (defScope (top 24)) := ⟨rfl, rfl, rfl, by decide +kernel, rfl, by decide +kernel, by decide +kernel⟩
theorem ok__law_name (T : Tb K mg t) : FOk P w K mg base cls 1 t.a__law_name t.d__law_name ["_law_value"] fn__law_name := FOk.pur (fn_z (k := 0) T.f__law_name sc__law_name fun cdv A outer s H E z =>
    ss_cons (s_asg (k_str) (g_name z.nd (i := 1)))
    (ss_one (s_ret (e_and (e_isiB T.ck T.i_str rfl T.b_isinstance (e_var (i := 0)) rfl T.b_str (by decide +kernel)) (e_and (e_chain (cmp_ok z.u .le) (cmp_ok z.u .le) (k_int) (e_blt rfl T.b_len (by decide +kernel) len_b (a_cons (e_var (i := 0)) (a_nil))) (k_int)) (e_one (e_blt rfl T.b_all (by decide +kernel) (all_b z.calm) (a_cons (e_lc (m := false) (own := [("_law_sign", 2)]) z (i_val (e_var (i := 0))) (by show blkC ["_law_value", "_law_small", "_law_sign"] (defScope (top 24)) _ _ = true; decide +kernel) (fun _ _ _ _ _ => g_name (z.blk _ _ _ _ _).nd (i := 2)) (fun _ _ _ _ _ => if_nil) (fun _ _ _ _ _ => e_cmp (cmp_ok (z.blk _ _ _ _ _).u .inn) (e_var (i := 2)) (e_var (i := 1)))) (a_nil)))))))))
theorem bd__law_name (T : Tb K mg t) : Binds K t.d__law_name ["_law_value"] [] := T.f__law_name.bindsN fun _ _ _ _ _ _ us hl => match us, hl with | [_], _ => rfl
theorem sc__law_good : FnScope ["_law_rule", "_law_field", "_law_names", "_law_default"] ["_law_rule", "_law_field", "_law_names"] (defScope (top 25)) := ⟨rfl, rfl, rfl, by decide +kernel, rfl, by decide +kernel, by decide +kernel⟩
theorem ok__law_good (T : Tb K mg t) : FOk P w K mg base cls 1 t.a__law_good t.d__law_good ["_law_rule", "_law_field", "_law_names"] fn__law_good := FOk.pur (fn_z (k := 0) T.f__law_good sc__law_good fun cdv A outer s H E z =>
    ss_cons (s_if (w_pt (w_or (t_not (t_val (e_isiB T.ck T.i_tuple rfl T.b_isinstance (e_var (i := 0)) rfl T.b_tuple (by decide +kernel)))) (w_or (t_cmp (cmp_ok z.u .ne) (e_blt rfl T.b_len (by decide +kernel) len_b (a_cons (e_var (i := 0)) (a_nil))) (k_int)) (w_or1 (t_not (t_val (e_isiB T.ck T.i_bool rfl T.b_isinstance (e_ix z (e_var (i := 0)) (k_int)) rfl T.b_bool (by decide +kernel)))))))) (ss_one (s_ret (k_bl))) (ss_nil))
    (ss_cons (s_asg (e_ix z (e_var (i := 0)) (k_int)) (g_name z.nd (i := 3)))
    (ss_cons (s_if (t_val (e_isiB T.ck T.i_int rfl T.b_isinstance (e_var (i := 3)) rfl T.b_int (by decide +kernel))) (ss_one (s_ret (e_and (e_not (e_isiB T.ck T.i_bool rfl T.b_isinstance (e_var (i := 3)) rfl T.b_bool (by decide +kernel))) (e_one (e_chain (cmp_ok z.u .le) (cmp_ok z.u .le) (k_int) (e_var (i := 3)) (k_int)))))) (ss_nil))
    (ss_cons (s_if (w_pt (w_or (t_not (t_val (e_isiB T.ck T.i_tuple rfl T.b_isinstance (e_var (i := 3)) rfl T.b_tuple (by decide +kernel)))) (w_or (t_cmp (cmp_ok z.u .ne) (e_blt rfl T.b_len (by decide +kernel) len_b (a_cons (e_var (i := 3)) (a_nil))) (k_int)) (w_or1 (t_not (t_val (e_isiB T.ck T.i_str rfl T.b_isinstance (e_ix z (e_var (i := 3)) (k_int)) rfl T.b_str (by decide +kernel)))))))) (ss_one (s_ret (k_bl))) (ss_nil))
    (ss_cons (s_if (w_pt (w_or (t_cmp (cmp_ok z.u .nin) (e_ix z (e_var (i := 3)) (k_int)) (e_tup (a_cons (k_str) (a_cons (k_str) (a_nil))))) (w_or1 (t_not (t_val (e_isiB T.ck T.i_str rfl T.b_isinstance (e_ix z (e_var (i := 3)) (k_int)) rfl T.b_str (by decide +kernel))))))) (ss_one (s_ret (k_bl))) (ss_nil))
    (ss_one (s_ret (e_and (e_cmp (cmp_ok z.u .inn) (e_ix z (e_var (i := 3)) (k_int)) (e_var (i := 2))) (e_one (e_cmp (cmp_ok z.u .ne) (e_ix z (e_var (i := 3)) (k_int)) (e_var (i := 1))))))))))))
theorem bd__law_good (T : Tb K mg t) : Binds K t.d__law_good ["_law_rule", "_law_field", "_law_names"] [] := T.f__law_good.bindsN fun _ _ _ _ _ _ us hl => match us, hl with | [_, _, _], _ => rfl
theorem sc__law_ring : FnScope ["_law_fields", "_law_field", "_law_at", "_law_turn", "_law_default"] ["_law_fields", "_law_field"] (defScope (top 26)) := ⟨rfl, rfl, rfl, by decide +kernel, rfl, by decide +kernel, by decide +kernel⟩
theorem ok__law_ring (T : Tb K mg t) : FOk P w K mg base cls 1 t.a__law_ring t.d__law_ring ["_law_fields", "_law_field"] fn__law_ring := FOk.pur (fn_z (k := 0) T.f__law_ring sc__law_ring fun cdv A outer s H E z =>
    ss_cons (s_asg (e_var (i := 1)) (g_name z.nd (i := 2)))
    (ss_cons (s_for z (i_rng1 rfl T.b_range (a_cons (k_int) (a_nil))) (g_name z.nd (i := 3)) (ss_cons (s_asg (e_ix z (e_ix z (e_var (i := 0)) (e_var (i := 2))) (k_int)) (g_name z.nd (i := 4)))
    (ss_cons (s_if (t_not (t_val (e_isiB T.ck T.i_tuple rfl T.b_isinstance (e_var (i := 4)) rfl T.b_tuple (by decide +kernel)))) (ss_one (s_ret (k_bl))) (ss_nil))
    (ss_cons (s_asg (e_ix z (e_var (i := 4)) (k_int)) (g_name z.nd (i := 2)))
    (ss_one (s_if (t_cmp (cmp_ok z.u .eq) (e_var (i := 2)) (e_var (i := 1))) (ss_one (s_ret (k_bl))) (ss_nil)))))))
    (ss_one (s_ret (k_bl)))))
theorem bd__law_ring (T : Tb K mg t) : Binds K t.d__law_ring ["_law_fields", "_law_field"] [] := T.f__law_ring.bindsN fun _ _ _ _ _ _ us hl => match us, hl with | [_, _], _ => rfl
theorem sc__law_due : FnScope ["_law_name_here", "_law_fields", "_law_kp", "_law_src", "_law_names", "_law_field", "_law_good_here", "_law_one"] ["_law_name_here", "_law_fields", "_law_kp", "_law_src"] (defScope (top 27)) := ⟨rfl, rfl, rfl, by decide +kernel, rfl, by decide +kernel, by decide +kernel⟩
theorem ok__law_due (T : Tb K mg t) : FOk P w K mg base cls 2 t.a__law_due t.d__law_due ["_law_name_here", "_law_fields", "_law_kp", "_law_src"] fn__law_due := FOk.pur (fn_z (k := 1) T.f__law_due sc__law_due fun cdv A outer s H E z =>
    ss_cons (s_if (t_not (t_val (e_call z (ok__law_name T) rfl T.m__law_name T.f__law_name.kp (bd__law_name T) (a_cons (e_var (i := 0)) (a_nil))))) (ss_one (s_ret (e_tup (a_cons (k_str) (a_cons (k_str) (a_nil)))))) (ss_nil))
    (ss_cons (s_if (w_pt (w_or (t_not (t_val (e_isiB T.ck T.i_dict rfl T.b_isinstance (e_var (i := 1)) rfl T.b_dict (by decide +kernel)))) (w_or1 (t_not (t_chain (cmp_ok z.u .le) (cmp_ok z.u .le) (k_int) (e_blt rfl T.b_len (by decide +kernel) len_b (a_cons (e_var (i := 1)) (a_nil))) (k_int)))))) (ss_one (s_ret (e_tup (a_cons (k_str) (a_cons (k_str) (a_nil)))))) (ss_nil))
    (ss_cons (s_asg (e_blt rfl T.b_sorted (by decide +kernel) (sorted_b (m := false) z.calm) (a_cons (e_lc (m := false) (own := [("_law_field", 5)]) z (i_val (e_var (i := 1))) (by show blkC ["_law_name_here", "_law_fields", "_law_kp", "_law_src", "_law_names", "_law_field", "_law_good_here", "_law_one"] (defScope (top 27)) _ _ = true; decide +kernel) (fun _ _ _ _ _ => g_name (z.blk _ _ _ _ _).nd (i := 5)) (fun _ _ _ _ _ => if_one (t_val (e_call (z.blk _ _ _ _ _) (ok__law_name T) rfl T.m__law_name T.f__law_name.kp (bd__law_name T) (a_cons (e_var (i := 5)) (a_nil))))) (fun _ _ _ _ _ => e_var (i := 5))) (a_nil))) (g_name z.nd (i := 4)))
    (ss_cons (s_for z (i_val (e_var (i := 4))) (g_name z.nd (i := 5)) (ss_one (s_if (t_not (t_val (e_call z (ok__law_good T) rfl T.m__law_good T.f__law_good.kp (bd__law_good T) (a_cons (e_ix z (e_var (i := 1)) (e_var (i := 5))) (a_cons (e_var (i := 5)) (a_cons (e_var (i := 4)) (a_nil))))))) (ss_one (s_ret (e_tup (a_cons (k_str) (a_cons (e_var (i := 5)) (a_nil)))))) (ss_nil))))
    (ss_cons (s_if (t_cmp (cmp_ok z.u .lt) (e_blt rfl T.b_len (by decide +kernel) len_b (a_cons (e_var (i := 4)) (a_nil))) (e_blt rfl T.b_len (by decide +kernel) len_b (a_cons (e_var (i := 1)) (a_nil)))) (ss_one (s_ret (e_tup (a_cons (k_str) (a_cons (k_str) (a_nil)))))) (ss_nil))
    (ss_cons (s_for z (i_val (e_var (i := 4))) (g_name z.nd (i := 5)) (ss_one (s_if (t_val (e_call z (ok__law_ring T) rfl T.m__law_ring T.f__law_ring.kp (bd__law_ring T) (a_cons (e_var (i := 1)) (a_cons (e_var (i := 5)) (a_nil))))) (ss_one (s_ret (e_tup (a_cons (k_str) (a_cons (e_var (i := 5)) (a_nil)))))) (ss_nil))))
    (ss_cons (s_if (t_not (t_val (e_isiB T.ck T.i_bool rfl T.b_isinstance (e_var (i := 2)) rfl T.b_bool (by decide +kernel)))) (ss_one (s_ret (e_tup (a_cons (k_str) (a_cons (k_str) (a_nil)))))) (ss_nil))
    (ss_cons (s_if (t_cmp (cmp_ok z.u .isN) (e_var (i := 3)) (k_non)) (ss_one (s_ret (k_non))) (ss_nil))
    (ss_cons (s_asg (e_and (e_isiB T.ck T.i_tuple rfl T.b_isinstance (e_var (i := 3)) rfl T.b_tuple (by decide +kernel)) (e_and (e_blt rfl T.b_all (by decide +kernel) (all_b z.calm) (a_cons (e_lc (m := false) (own := [("_law_one", 7)]) z (i_val (e_var (i := 3))) (by show blkC ["_law_name_here", "_law_fields", "_law_kp", "_law_src", "_law_names", "_law_field", "_law_good_here", "_law_one"] (defScope (top 27)) _ _ = true; decide +kernel) (fun _ _ _ _ _ => g_name (z.blk _ _ _ _ _).nd (i := 7)) (fun _ _ _ _ _ => if_nil) (fun _ _ _ _ _ => e_call (z.blk _ _ _ _ _) (ok__law_name T) rfl T.m__law_name T.f__law_name.kp (bd__law_name T) (a_cons (e_var (i := 7)) (a_nil)))) (a_nil))) (e_one (e_cmp (cmp_ok z.u .eq) (e_lenSet z rfl T.b_len rfl T.b_set (e_var (i := 3))) (e_blt rfl T.b_len (by decide +kernel) len_b (a_cons (e_var (i := 3)) (a_nil))))))) (g_name z.nd (i := 6)))
    (ss_one (s_ret (e_if (t_val (e_var (i := 6))) (k_non) (e_tup (a_cons (k_str) (a_cons (k_str) (a_nil))))))))))))))))
theorem bd__law_due (T : Tb K mg t) : Binds K t.d__law_due ["_law_name_here", "_law_fields", "_law_kp", "_law_src"] [] := T.f__law_due.bindsN fun _ _ _ _ _ _ us hl => match us, hl with | [_, _, _, _], _ => rfl
theorem sc__law_spoilt : FnScope ["_law_h", "_law_fields", "_law_field", "_law_other", "_law_odd", "_law_later", "_law_way"] ["_law_h", "_law_fields"] (defScope (top 28)) := ⟨rfl, rfl, rfl, by decide +kernel, rfl, by decide +kernel, by decide +kernel⟩
theorem ok__law_spoilt (T : Tb K mg t) : FOk P w K mg base cls 2 t.a__law_spoilt t.d__law_spoilt ["_law_h", "_law_fields"] fn__law_spoilt := FOk.trim (fn_z (k := 1) T.f__law_spoilt sc__law_spoilt fun cdv A outer s H E z =>
    ss_cons (s_asg (e_ix z (e_blt rfl T.b_sorted (by decide +kernel) (sorted_b (m := false) z.calm) (a_cons (e_ty rfl T.b_list (by decide +kernel) (list_b (m := false) z.calm) (a_cons (e_var (i := 1)) (a_nil))) (a_nil))) (e_call z (ok__law_next T) rfl T.m__law_next T.f__law_next.kp (bd__law_next T) (a_cons (e_var (i := 0)) (a_cons (e_blt rfl T.b_len (by decide +kernel) len_b (a_cons (e_var (i := 1)) (a_nil))) (a_nil))))) (g_name z.nd (i := 2)))
    (ss_cons (s_asg (e_ix z (e_blt rfl T.b_sorted (by decide +kernel) (sorted_b (m := false) z.calm) (a_cons (e_ty rfl T.b_list (by decide +kernel) (list_b (m := false) z.calm) (a_cons (e_var (i := 1)) (a_nil))) (a_nil))) (e_call z (ok__law_next T) rfl T.m__law_next T.f__law_next.kp (bd__law_next T) (a_cons (e_var (i := 0)) (a_cons (e_blt rfl T.b_len (by decide +kernel) len_b (a_cons (e_var (i := 1)) (a_nil))) (a_nil))))) (g_name z.nd (i := 3)))
    (ss_cons (s_asg (e_lst (m := false) (a_cons (e_tup (a_cons (k_int) (a_nil))) (a_cons (e_tup (a_cons (k_bl) (a_cons (k_bl) (a_nil)))) (a_cons (e_tup (a_cons (k_int) (a_cons (k_bl) (a_nil)))) (a_cons (e_tup (a_cons (e_un neg_ok (k_int)) (a_cons (k_bl) (a_nil)))) (a_cons (e_tup (a_cons (k_int) (a_cons (k_int) (a_nil)))) (a_cons (e_lst (m := false) (a_cons (k_int) (a_cons (k_bl) (a_nil)))) (a_cons (k_non) (a_cons (e_tup (a_cons (e_tup (a_cons (k_str) (a_cons (k_str) (a_nil)))) (a_cons (k_bl) (a_nil)))) (a_cons (e_tup (a_cons (k_int) (a_cons (k_non) (a_nil)))) (a_nil))))))))))) (g_name z.nd (i := 4)))
    (ss_cons (s_asg (e_bin add_ok (e_var (i := 4)) (e_lst (m := false) (a_cons (e_tup (a_cons (e_tup (a_cons (k_str) (a_cons (e_var (i := 2)) (a_nil)))) (a_cons (k_bl) (a_nil)))) (a_cons (e_tup (a_cons (e_tup (a_cons (k_str) (a_cons (e_var (i := 3)) (a_nil)))) (a_cons (k_bl) (a_nil)))) (a_cons (e_tup (a_cons (e_tup (a_cons (k_str) (a_cons (e_var (i := 3)) (a_nil)))) (a_cons (k_bl) (a_nil)))) (a_cons (e_tup (a_cons (e_tup (a_cons (k_str) (a_cons (e_var (i := 3)) (a_nil)))) (a_cons (k_bl) (a_nil)))) (a_nil))))))) (g_name z.nd (i := 4)))
    (ss_cons (s_asg (e_bin add_ok (e_var (i := 4)) (e_lst (m := false) (a_cons (e_tup (a_cons (e_tup (a_cons (k_str) (a_nil))) (a_cons (k_bl) (a_nil)))) (a_cons (e_tup (a_cons (e_tup (a_cons (k_str) (a_cons (k_int) (a_nil)))) (a_cons (k_bl) (a_nil)))) (a_cons (e_tup (a_cons (e_tup (a_cons (k_int) (a_cons (e_var (i := 3)) (a_nil)))) (a_cons (k_bl) (a_nil)))) (a_cons (e_tup (a_cons (e_tup (a_cons (k_str) (a_cons (e_var (i := 3)) (a_cons (e_var (i := 3)) (a_nil))))) (a_cons (k_bl) (a_nil)))) (a_nil))))))) (g_name z.nd (i := 4)))
    (ss_cons (s_asg (e_ty rfl T.b_dict (by decide +kernel) (dict_b (m := true) z.calm z.u) (a_cons (e_var (i := 1)) (a_nil))) (g_name z.nd (i := 5)))
    (ss_cons (s_asg (e_call z (ok__law_next T) rfl T.m__law_next T.f__law_next.kp (bd__law_next T) (a_cons (e_var (i := 0)) (a_cons (k_int) (a_nil)))) (g_name z.nd (i := 6)))
    (ss_cons (s_if (t_cmp (cmp_ok z.u .eq) (e_var (i := 6)) (k_int)) (ss_one (s_set z (e_var (i := 5)) (e_ix z (e_lst (m := false) (a_cons (k_str) (a_cons (k_str) (a_cons (k_str) (a_cons (k_int) (a_cons (k_non) (a_cons (k_str) (a_cons (k_bl) (a_cons (e_tup (a_cons (k_str) (a_nil))) (a_nil)))))))))) (e_call z (ok__law_next T) rfl T.m__law_next T.f__law_next.kp (bd__law_next T) (a_cons (e_var (i := 0)) (a_cons (k_int) (a_nil))))) (e_tup (a_cons (k_int) (a_cons (k_bl) (a_nil)))))) (ss_one (s_if (t_cmp (cmp_ok z.u .eq) (e_var (i := 6)) (k_int)) (ss_one (s_ret (e_ix z (e_lst (m := false) (a_cons (e_d0 (m := false)) (a_cons (k_non) (a_cons (e_lst (m := false) (a_cons (e_tup (a_cons (k_str) (a_cons (e_tup (a_cons (k_int) (a_cons (k_bl) (a_nil)))) (a_nil)))) (a_nil))) (a_cons (k_str) (a_cons (e_var (i := 1)) (a_nil))))))) (e_call z (ok__law_next T) rfl T.m__law_next T.f__law_next.kp (bd__law_next T) (a_cons (e_var (i := 0)) (a_cons (k_int) (a_nil))))))) (ss_one (s_set z (e_var (i := 5)) (e_var (i := 2)) (e_ix z (e_var (i := 4)) (e_call z (ok__law_next T) rfl T.m__law_next T.f__law_next.kp (bd__law_next T) (a_cons (e_var (i := 0)) (a_cons (e_blt rfl T.b_len (by decide +kernel) len_b (a_cons (e_var (i := 4)) (a_nil))) (a_nil))))))))))
    (ss_one (s_ret (e_frz (e_var (i := 5)))))))))))))
theorem bd__law_spoilt (T : Tb K mg t) : Binds K t.d__law_spoilt ["_law_h", "_law_fields"] [] := T.f__law_spoilt.bindsN fun _ _ _ _ _ _ us hl => match us, hl with | [_, _], _ => rfl
theorem sc_law : FnScope ["_law_script", "_law_h", "_law_fields", "_law_turn", "_law_name_here", "_law_kp", "_law_sources", "_law_src", "_law_turned", "_law_some", "_law_told", "e", "_law_field"] ["_law_script"] (defScope (top 29)) := ⟨rfl, rfl, rfl, by decide +kernel, rfl, by decide +kernel, by decide +kernel⟩
theorem ok_law (T : Tb K mg t) : FOk P w K mg base cls 7 t.a_law t.d_law ["_law_script"] fn_law := FOk.pur (fn_z (k := 6) T.f_law sc_law fun cdv A outer s H E z =>
    ss_cons (s_asg (e_call z (ok__law_mix T) rfl T.m__law_mix T.f__law_mix.kp (bd__law_mix T) (a_cons (e_var (i := 0)) (a_cons (k_int) (a_nil)))) (g_name z.nd (i := 1)))
    (ss_cons (s_asg (e_call z (ok__law_rules T) rfl T.m__law_rules T.f__law_rules.kp (bd__law_rules T) (a_cons (e_var (i := 1)) (a_cons (e_sl (m := false) (e_lst (m := false) (a_cons (k_str) (a_cons (k_str) (a_cons (k_str) (a_cons (k_str) (a_cons (k_str) (a_cons (k_str) (a_nil)))))))) (p_none) (p_some (e_bin add_ok (k_int) (e_call z (ok__law_next T) rfl T.m__law_next T.f__law_next.kp (bd__law_next T) (a_cons (e_var (i := 1)) (a_cons (k_int) (a_nil))))))) (a_cons (k_int) (a_nil))))) (g_name z.nd (i := 2)))
    (ss_cons (s_for z (i_rng1 rfl T.b_range (a_cons (e_call z (ok__law_next T) rfl T.m__law_next T.f__law_next.kp (bd__law_next T) (a_cons (e_var (i := 1)) (a_cons (k_int) (a_nil)))) (a_nil))) (g_name z.nd (i := 3)) (ss_one (s_if (w_pt (w_and (t_val (e_isiB T.ck T.i_dict rfl T.b_isinstance (e_var (i := 2)) rfl T.b_dict (by decide +kernel))) (w_and (t_cmp (cmp_ok z.u .ne) (e_var (i := 2)) (e_d0 (m := false))) (w_and1 (t_val (e_blt rfl T.b_all (by decide +kernel) (all_b z.calm) (a_cons (e_lc (m := false) (own := [("_law_field", 12)]) z (i_val (e_var (i := 2))) (by show blkC ["_law_script", "_law_h", "_law_fields", "_law_turn", "_law_name_here", "_law_kp", "_law_sources", "_law_src", "_law_turned", "_law_some", "_law_told", "e", "_law_field"] (defScope (top 29)) _ _ = true; decide +kernel) (fun _ _ _ _ _ => g_name (z.blk _ _ _ _ _).nd (i := 12)) (fun _ _ _ _ _ => if_nil) (fun _ _ _ _ _ => e_isiB T.ck T.i_str rfl T.b_isinstance (e_var (i := 12)) rfl T.b_str (by decide +kernel))) (a_nil)))))))) (ss_one (s_asg (e_call z (ok__law_spoilt T) rfl T.m__law_spoilt T.f__law_spoilt.kp (bd__law_spoilt T) (a_cons (e_var (i := 1)) (a_cons (e_var (i := 2)) (a_nil)))) (g_name z.nd (i := 2)))) (ss_nil))))
    (ss_cons (s_asg (e_ix z (e_lst (m := false) (a_cons (k_str) (a_cons (k_str) (a_cons (k_str) (a_cons (k_str) (a_cons (k_str) (a_cons (k_str) (a_cons (k_int) (a_cons (k_non) (a_cons (k_str) (a_nil))))))))))) (e_call z (ok__law_next T) rfl T.m__law_next T.f__law_next.kp (bd__law_next T) (a_cons (e_var (i := 1)) (a_cons (e_ix z (e_lst (m := false) (a_cons (k_int) (a_cons (k_int) (a_nil)))) (e_call z (ok__law_next T) rfl T.m__law_next T.f__law_next.kp (bd__law_next T) (a_cons (e_var (i := 1)) (a_cons (k_int) (a_nil))))) (a_nil))))) (g_name z.nd (i := 4)))
    (ss_cons (s_asg (e_ix z (e_lst (m := false) (a_cons (k_bl) (a_cons (k_bl) (a_cons (k_non) (a_cons (k_int) (a_cons (k_str) (a_nil))))))) (e_call z (ok__law_next T) rfl T.m__law_next T.f__law_next.kp (bd__law_next T) (a_cons (e_var (i := 1)) (a_cons (e_ix z (e_lst (m := false) (a_cons (k_int) (a_cons (k_int) (a_nil)))) (e_call z (ok__law_next T) rfl T.m__law_next T.f__law_next.kp (bd__law_next T) (a_cons (e_var (i := 1)) (a_cons (k_int) (a_nil))))) (a_nil))))) (g_name z.nd (i := 5)))
    (ss_cons (s_asg (e_lst (m := false) (a_cons (k_non) (a_cons (e_tup (a_nil)) (a_cons (e_tup (a_cons (k_str) (a_nil))) (a_cons (e_tup (a_cons (k_str) (a_cons (k_str) (a_nil)))) (a_cons (e_tup (a_cons (k_str) (a_cons (k_str) (a_nil)))) (a_cons (e_lst (m := false) (a_cons (k_str) (a_nil))) (a_cons (e_tup (a_cons (k_str) (a_nil))) (a_cons (e_tup (a_cons (k_int) (a_nil))) (a_cons (k_str) (a_cons (k_bl) (a_nil)))))))))))) (g_name z.nd (i := 6)))
    (ss_cons (s_asg (e_ix z (e_var (i := 6)) (e_call z (ok__law_next T) rfl T.m__law_next T.f__law_next.kp (bd__law_next T) (a_cons (e_var (i := 1)) (a_cons (e_ix z (e_lst (m := false) (a_cons (k_int) (a_cons (k_int) (a_nil)))) (e_call z (ok__law_next T) rfl T.m__law_next T.f__law_next.kp (bd__law_next T) (a_cons (e_var (i := 1)) (a_cons (k_int) (a_nil))))) (a_nil))))) (g_name z.nd (i := 7)))
    (ss_cons (s_asg (e_var (i := 2)) (g_name z.nd (i := 8)))
    (ss_cons (s_if (t_val (e_isiB T.ck T.i_dict rfl T.b_isinstance (e_var (i := 2)) rfl T.b_dict (by decide +kernel))) (ss_one (s_asg (e_ty rfl T.b_dict (by decide +kernel) (dict_b (m := false) z.calm z.u) (a_cons (e_rev (m := false) (e_items (m := false) z (e_var (i := 2)) rfl T.b_list (by decide +kernel))) (a_nil))) (g_name z.nd (i := 8)))) (ss_nil))
    (ss_cons (s_for z (i_val (e_lst (m := false) (a_cons (e_var (i := 2)) (a_cons (e_var (i := 8)) (a_nil))))) (g_name z.nd (i := 9)) (ss_cons (s_asg (k_non) (g_name z.nd (i := 10)))
    (ss_cons (s_try (i := 11) (c0 := .ref t.c_InvalidEdition) z rfl rfl rfl rfl ⟨rfl, by decide, .inl T.m_InvalidEdition⟩ T.catch_InvalidEdition (fun W' pn xe z9 => ss_one (s_exp (e_makeP (n := 2) z9 T.k_Edition (ok_Edition__init T) rfl T.m_Edition rfl rfl rfl (kb_Edition_2_keeps_reads T).choose_spec (har_Edition_2_keeps_reads) (a_cons (e_var (i := 4)) (a_cons (e_var (i := 9)) (a_nil))) (k_cons (e_var (i := 5)) (k_cons (e_var (i := 7)) (k_nil))) (fun _ _ _ _ h => (zl_cons (zl_cons (zl_nil))) h) (fun _ _ _ _ h => (zl_cons (zl_cons (zl_nil))) h)))) (fun a oe cl d pn hz hf => xss_one (xs_asg (x_if (x_is (c0 := "InvalidEdition") (b := true) T.xc_InvalidEdition T.m_InvalidEdition rfl (by decide) T.xk_InvalidEdition_FieldError rfl T.m_FieldError rfl T.b_isinstance hz hf) (x_tup (xa_cons (x_attr (c0 := "InvalidEdition") (j := 1) T.xf_InvalidEdition T.xn_InvalidEdition_part T.m_InvalidEdition rfl rfl (by decide) hz hf) (xa_cons (x_attr (c0 := "InvalidEdition") (j := 0) T.xf_InvalidEdition T.xn_InvalidEdition_field T.m_InvalidEdition rfl rfl (by decide) hz hf) (xa_nil)))) (x_tup (xa_cons (x_lift (k_str)) (xa_cons (x_lift (k_str)) (xa_nil))))) z.nd (m := 10))))
    (ss_one (s_if (t_cmp (cmp_ok z.u .ne) (e_var (i := 10)) (e_call z (ok__law_due T) rfl T.m__law_due T.f__law_due.kp (bd__law_due T) (a_cons (e_var (i := 4)) (a_cons (e_var (i := 2)) (a_cons (e_var (i := 5)) (a_cons (e_var (i := 7)) (a_nil))))))) (ss_one (s_ret (k_bl))) (ss_nil))))))
    (ss_one (s_ret (k_bl)))))))))))))
theorem bd_law (T : Tb K mg t) : Binds K t.d_law ["_law_script"] [] := T.f_law.bindsN fun _ _ _ _ _ _ us hl => match us, hl with | [_], _ => rfl
end
/-! ### the head -/
def fa0 : List (Frag → Bool) := [freeB "isinstance",
  freeB "len",
  freeB "all",
  freeB "any",
  freeB "sum",
  freeB "sorted",
  freeB "max",
  freeB "range",
  freeB "set",
  freeB "int",
  freeB "str",
  freeB "bool",
  freeB "tuple",
  freeB "dict",
  freeB "list",
  strB' "LETTERS" "abcdefghijklmnopqrstuvwxyz",
  intB' "MOST_NAME" 8,
  strB' "SAME" "same",
  strB' "NEXT" "next",
  intB' "MOST_VALUE" 3,
  intB' "MOST_FIELDS" 5,
  gloB "is_integer",
  gloB "is_name",
  gloB "is_default",
  gloB "is_rule",
  gloB "leads_back",
  gloB "look_at_fields",
  gloB "are_names",
  gloB "_law_mix",
  gloB "_law_next"]
def fa1 : List (Frag → Bool) := [gloB "_law_rules",
  gloB "_law_name",
  gloB "_law_good",
  gloB "_law_ring",
  gloB "_law_due",
  gloB "_law_spoilt",
  gloB "law",
  gloB "FieldError",
  gloB "InvalidEdition",
  gloB "Edition",
  mkB "Edition",
  xckB "InvalidEdition",
  xfB' "InvalidEdition",
  xcB "InvalidEdition",
  xnB "InvalidEdition" "part",
  xnB "InvalidEdition" "field",
  kitB "InvalidEdition" "FieldError" true,
  kitB "InvalidEdition" "InvalidEdition" true,
  tabB clsL,
  isiBB clsL (fun _ => .type "bool") (isB "bool"),
  isiBB clsL (fun _ => .type "dict") (isB "dict"),
  isiBB clsL (fun _ => .type "int") (isB "int"),
  isiBB clsL (fun _ => .type "list") (isB "list"),
  isiBB clsL (fun _ => .type "str") (isB "str"),
  isiBB clsL (fun _ => .type "tuple") (isB "tuple"),
  isiBB clsL (fun K => .ref (ga K "Edition")) (isC "Edition"),
  catB clsL "InvalidEdition" catch_InvalidEdition]
def fa : List (Frag → Bool) := fa0 ++ fa1
def fn : List He.DefD := [⟨("is_integer", none), "is_integer", "is_integer", defArgs (top 4), defBody (top 4), defScope (top 4), [], []⟩,
  ⟨("is_name", none), "is_name", "is_name", defArgs (top 5), defBody (top 5), defScope (top 5), [], []⟩,
  ⟨("is_default", none), "is_default", "is_default", defArgs (top 14), defBody (top 14), defScope (top 14), [], []⟩,
  ⟨("is_rule", none), "is_rule", "is_rule", defArgs (top 15), defBody (top 15), defScope (top 15), [], []⟩,
  ⟨("leads_back", none), "leads_back", "leads_back", defArgs (top 16), defBody (top 16), defScope (top 16), [], []⟩,
  ⟨("look_at_fields", none), "look_at_fields", "look_at_fields", defArgs (top 17), defBody (top 17), defScope (top 17), [], []⟩,
  ⟨("are_names", none), "are_names", "are_names", defArgs (top 18), defBody (top 18), defScope (top 18), [], []⟩,
  ⟨("Edition", some "__init__"), "__init__", "Edition.__init__", defArgs (inClass (top 19) 1), defBody (inClass (top 19) 1), defScope (inClass (top 19) 1), [], [("keeps", .bl true), ("reads", .non)]⟩,
  ⟨("_law_mix", none), "_law_mix", "_law_mix", defArgs (top 21), defBody (top 21), defScope (top 21), [], []⟩,
  ⟨("_law_next", none), "_law_next", "_law_next", defArgs (top 22), defBody (top 22), defScope (top 22), [], []⟩,
  ⟨("_law_rules", none), "_law_rules", "_law_rules", defArgs (top 23), defBody (top 23), defScope (top 23), [], []⟩,
  ⟨("_law_name", none), "_law_name", "_law_name", defArgs (top 24), defBody (top 24), defScope (top 24), [], []⟩,
  ⟨("_law_good", none), "_law_good", "_law_good", defArgs (top 25), defBody (top 25), defScope (top 25), [], []⟩,
  ⟨("_law_ring", none), "_law_ring", "_law_ring", defArgs (top 26), defBody (top 26), defScope (top 26), [], []⟩,
  ⟨("_law_due", none), "_law_due", "_law_due", defArgs (top 27), defBody (top 27), defScope (top 27), [], []⟩,
  ⟨("_law_spoilt", none), "_law_spoilt", "_law_spoilt", defArgs (top 28), defBody (top 28), defScope (top 28), [], []⟩,
  ⟨("law", none), "law", "law", defArgs (top 29), defBody (top 29), defScope (top 29), [], []⟩,
  ⟨("InvalidEdition", some "__init__"), "__init__", "InvalidEdition.__init__", defArgs (inClass (top 8) 0), defBody (inClass (top 8) 0), defScope (inClass (top 8) 0), [], []⟩]
theorem tb_of {K : Frag} {h : Heap} {mg : Str → Option Value} (KX : K.In h) (G : h.Ns mainGlobals mg) (c : SaysZ fa fn K) : ∃ t : Ad, Tb K mg t ∧ t.a_law = ga K "law" := by
  obtain ⟨d0, F0⟩ := c.def_ 0 (d := ⟨("is_integer", none), "is_integer", "is_integer", defArgs (top 4), defBody (top 4), defScope (top 4), [], []⟩) rfl
  obtain ⟨d1, F1⟩ := c.def_ 1 (d := ⟨("is_name", none), "is_name", "is_name", defArgs (top 5), defBody (top 5), defScope (top 5), [], []⟩) rfl
  obtain ⟨d2, F2⟩ := c.def_ 2 (d := ⟨("is_default", none), "is_default", "is_default", defArgs (top 14), defBody (top 14), defScope (top 14), [], []⟩) rfl
  obtain ⟨d3, F3⟩ := c.def_ 3 (d := ⟨("is_rule", none), "is_rule", "is_rule", defArgs (top 15), defBody (top 15), defScope (top 15), [], []⟩) rfl
  obtain ⟨d4, F4⟩ := c.def_ 4 (d := ⟨("leads_back", none), "leads_back", "leads_back", defArgs (top 16), defBody (top 16), defScope (top 16), [], []⟩) rfl
  obtain ⟨d5, F5⟩ := c.def_ 5 (d := ⟨("look_at_fields", none), "look_at_fields", "look_at_fields", defArgs (top 17), defBody (top 17), defScope (top 17), [], []⟩) rfl
  obtain ⟨d6, F6⟩ := c.def_ 6 (d := ⟨("are_names", none), "are_names", "are_names", defArgs (top 18), defBody (top 18), defScope (top 18), [], []⟩) rfl
  obtain ⟨d7, F7⟩ := c.def_ 7 (d := ⟨("Edition", some "__init__"), "__init__", "Edition.__init__", defArgs (inClass (top 19) 1), defBody (inClass (top 19) 1), defScope (inClass (top 19) 1), [], [("keeps", .bl true), ("reads", .non)]⟩) rfl
  obtain ⟨d8, F8⟩ := c.def_ 8 (d := ⟨("_law_mix", none), "_law_mix", "_law_mix", defArgs (top 21), defBody (top 21), defScope (top 21), [], []⟩) rfl
  obtain ⟨d9, F9⟩ := c.def_ 9 (d := ⟨("_law_next", none), "_law_next", "_law_next", defArgs (top 22), defBody (top 22), defScope (top 22), [], []⟩) rfl
  obtain ⟨d10, F10⟩ := c.def_ 10 (d := ⟨("_law_rules", none), "_law_rules", "_law_rules", defArgs (top 23), defBody (top 23), defScope (top 23), [], []⟩) rfl
  obtain ⟨d11, F11⟩ := c.def_ 11 (d := ⟨("_law_name", none), "_law_name", "_law_name", defArgs (top 24), defBody (top 24), defScope (top 24), [], []⟩) rfl
  obtain ⟨d12, F12⟩ := c.def_ 12 (d := ⟨("_law_good", none), "_law_good", "_law_good", defArgs (top 25), defBody (top 25), defScope (top 25), [], []⟩) rfl
  obtain ⟨d13, F13⟩ := c.def_ 13 (d := ⟨("_law_ring", none), "_law_ring", "_law_ring", defArgs (top 26), defBody (top 26), defScope (top 26), [], []⟩) rfl
  obtain ⟨d14, F14⟩ := c.def_ 14 (d := ⟨("_law_due", none), "_law_due", "_law_due", defArgs (top 27), defBody (top 27), defScope (top 27), [], []⟩) rfl
  obtain ⟨d15, F15⟩ := c.def_ 15 (d := ⟨("_law_spoilt", none), "_law_spoilt", "_law_spoilt", defArgs (top 28), defBody (top 28), defScope (top 28), [], []⟩) rfl
  obtain ⟨d16, F16⟩ := c.def_ 16 (d := ⟨("law", none), "law", "law", defArgs (top 29), defBody (top 29), defScope (top 29), [], []⟩) rfl
  obtain ⟨d17, F17⟩ := c.def_ 17 (d := ⟨("InvalidEdition", some "__init__"), "__init__", "InvalidEdition.__init__", defArgs (inClass (top 8) 0), defBody (inClass (top 8) 0), defScope (inClass (top 8) 0), [], []⟩) rfl
  exact ⟨{a_is_integer := ga K "is_integer", d_is_integer := d0, a_is_name := ga K "is_name", d_is_name := d1, a_is_default := ga K "is_default", d_is_default := d2, a_is_rule := ga K "is_rule", d_is_rule := d3, a_leads_back := ga K "leads_back", d_leads_back := d4, a_look_at_fields := ga K "look_at_fields", d_look_at_fields := d5, a_are_names := ga K "are_names", d_are_names := d6, a_Edition__init := ma K (ga K "Edition") "__init__", d_Edition__init := d7, a__law_mix := ga K "_law_mix", d__law_mix := d8, a__law_next := ga K "_law_next", d__law_next := d9, a__law_rules := ga K "_law_rules", d__law_rules := d10, a__law_name := ga K "_law_name", d__law_name := d11, a__law_good := ga K "_law_good", d__law_good := d12, a__law_ring := ga K "_law_ring", d__law_ring := d13, a__law_due := ga K "_law_due", d__law_due := d14, a__law_spoilt := ga K "_law_spoilt", d__law_spoilt := d15, a_law := ga K "law", d_law := d16, c_FieldError := ga K "FieldError", c_InvalidEdition := ga K "InvalidEdition", c_Edition := ga K "Edition", a_InvalidEdition := ma K (ga K "InvalidEdition") "__init__", d_InvalidEdition := d17},
   {f_is_integer := F0, f_is_name := F1, f_is_default := F2, f_is_rule := F3, f_leads_back := F4, f_look_at_fields := F5, f_are_names := F6, f_Edition__init := F7, f__law_mix := F8, f__law_next := F9, f__law_rules := F10, f__law_name := F11, f__law_good := F12, f__law_ring := F13, f__law_due := F14, f__law_spoilt := F15, f_law := F16, f_InvalidEdition := F17, b_isinstance := free_of KX G (c.fact 0 (f := freeB "isinstance") rfl), b_len := free_of KX G (c.fact 1 (f := freeB "len") rfl), b_all := free_of KX G (c.fact 2 (f := freeB "all") rfl), b_any := free_of KX G (c.fact 3 (f := freeB "any") rfl), b_sum := free_of KX G (c.fact 4 (f := freeB "sum") rfl), b_sorted := free_of KX G (c.fact 5 (f := freeB "sorted") rfl), b_max := free_of KX G (c.fact 6 (f := freeB "max") rfl), b_range := free_of KX G (c.fact 7 (f := freeB "range") rfl), b_set := free_of KX G (c.fact 8 (f := freeB "set") rfl), b_int := free_of KX G (c.fact 9 (f := freeB "int") rfl), b_str := free_of KX G (c.fact 10 (f := freeB "str") rfl), b_bool := free_of KX G (c.fact 11 (f := freeB "bool") rfl), b_tuple := free_of KX G (c.fact 12 (f := freeB "tuple") rfl), b_dict := free_of KX G (c.fact 13 (f := freeB "dict") rfl), b_list := free_of KX G (c.fact 14 (f := freeB "list") rfl), g_LETTERS := str_of KX G (c.fact 15 (f := strB' "LETTERS" "abcdefghijklmnopqrstuvwxyz") rfl), g_MOST_NAME := int_of KX G (c.fact 16 (f := intB' "MOST_NAME" 8) rfl), g_SAME := str_of KX G (c.fact 17 (f := strB' "SAME" "same") rfl), g_NEXT := str_of KX G (c.fact 18 (f := strB' "NEXT" "next") rfl), g_MOST_VALUE := int_of KX G (c.fact 19 (f := intB' "MOST_VALUE" 3) rfl), g_MOST_FIELDS := int_of KX G (c.fact 20 (f := intB' "MOST_FIELDS" 5) rfl), m_is_integer := glo_of KX G (c.fact 21 (f := gloB "is_integer") rfl), m_is_name := glo_of KX G (c.fact 22 (f := gloB "is_name") rfl), m_is_default := glo_of KX G (c.fact 23 (f := gloB "is_default") rfl), m_is_rule := glo_of KX G (c.fact 24 (f := gloB "is_rule") rfl), m_leads_back := glo_of KX G (c.fact 25 (f := gloB "leads_back") rfl), m_look_at_fields := glo_of KX G (c.fact 26 (f := gloB "look_at_fields") rfl), m_are_names := glo_of KX G (c.fact 27 (f := gloB "are_names") rfl), m__law_mix := glo_of KX G (c.fact 28 (f := gloB "_law_mix") rfl), m__law_next := glo_of KX G (c.fact 29 (f := gloB "_law_next") rfl), m__law_rules := glo_of KX G (c.fact 30 (f := gloB "_law_rules") rfl), m__law_name := glo_of KX G (c.fact 31 (f := gloB "_law_name") rfl), m__law_good := glo_of KX G (c.fact 32 (f := gloB "_law_good") rfl), m__law_ring := glo_of KX G (c.fact 33 (f := gloB "_law_ring") rfl), m__law_due := glo_of KX G (c.fact 34 (f := gloB "_law_due") rfl), m__law_spoilt := glo_of KX G (c.fact 35 (f := gloB "_law_spoilt") rfl), m_law := glo_of KX G (c.fact 36 (f := gloB "law") rfl), m_FieldError := glo_of KX G (c.fact 37 (f := gloB "FieldError") rfl), m_InvalidEdition := glo_of KX G (c.fact 38 (f := gloB "InvalidEdition") rfl), m_Edition := glo_of KX G (c.fact 39 (f := gloB "Edition") rfl), k_Edition := mk_of (c.fact 40 (f := mkB "Edition") rfl), x_InvalidEdition := xck_of (c.fact 41 (f := xckB "InvalidEdition") rfl), xf_InvalidEdition := xf_of (c.fact 42 (f := xfB' "InvalidEdition") rfl), xc_InvalidEdition := xc_of (c.fact 42 (f := xfB' "InvalidEdition") rfl) (c.fact 43 (f := xcB "InvalidEdition") rfl), xn_InvalidEdition_part := xn_of (c.fact 44 (f := xnB "InvalidEdition" "part") rfl), xn_InvalidEdition_field := xn_of (c.fact 45 (f := xnB "InvalidEdition" "field") rfl), xk_InvalidEdition_FieldError := kit_of (c.fact 46 (f := kitB "InvalidEdition" "FieldError" true) rfl), xk_InvalidEdition_InvalidEdition := kit_of (c.fact 47 (f := kitB "InvalidEdition" "InvalidEdition" true) rfl), ck := ck_of KX G (c.fact 48 (f := tabB clsL) rfl), cs := cs_of KX G (c.fact 48 (f := tabB clsL) rfl), i_bool := isi_of (tv := fun _ => .type "bool") KX G (c.fact 49 (f := isiBB clsL (fun _ => .type "bool") (isB "bool")) rfl), i_dict := isi_of (tv := fun _ => .type "dict") KX G (c.fact 50 (f := isiBB clsL (fun _ => .type "dict") (isB "dict")) rfl), i_int := isi_of (tv := fun _ => .type "int") KX G (c.fact 51 (f := isiBB clsL (fun _ => .type "int") (isB "int")) rfl), i_list := isi_of (tv := fun _ => .type "list") KX G (c.fact 52 (f := isiBB clsL (fun _ => .type "list") (isB "list")) rfl), i_str := isi_of (tv := fun _ => .type "str") KX G (c.fact 53 (f := isiBB clsL (fun _ => .type "str") (isB "str")) rfl), i_tuple := isi_of (tv := fun _ => .type "tuple") KX G (c.fact 54 (f := isiBB clsL (fun _ => .type "tuple") (isB "tuple")) rfl), i_Edition := isi_of (tv := fun K => .ref (ga K "Edition")) KX G (c.fact 55 (f := isiBB clsL (fun K => .ref (ga K "Edition")) (isC "Edition")) rfl), catch_InvalidEdition := cat_of KX G (c.fact 56 (f := catB clsL "InvalidEdition" catch_InvalidEdition) rfl)}, rfl⟩
def nm0 : List PySem.Str := ["_wall", "LETTERS", "MOST_NAME", "is_integer", "is_name", "FieldError", "InvalidEdition", "SAME", "NEXT", "MOST_VALUE", "MOST_FIELDS", "is_default", "is_rule", "leads_back", "look_at_fields", "are_names", "Edition", "_law_mix", "_law_next", "_law_rules", "_law_name", "_law_good", "_law_ring", "_law_due", "_law_spoilt"]
def nms : List PySem.Str := nm0
abbrev Rw : PySem.W.OpenRow := PySem.W.OpenLaw.row PySem.Challenge.rw_lackedfields_k01_editions_refused
abbrev hk : PySem.W.Hook := hookZ 5 fa fn
def ob (s : PySem.W.SharedT) : Bool × List He.FnW := obsZG 5 fa fn (HandSHeadRun.getT s)
theorem ob_eq (s : PySem.W.SharedT) : ob s = hk.obs s.abs := obsZG_eq (HandSHeadRun.getT_eq s)
set_option maxHeartbeats 0 in
theorem run (w : World) : HandSHeadRun.RunEq Rw (PySem.W.view Rw.prog [29]) hk ob 4000 nms w := by
  intro os
  kernel_rfl


end Z

open PySem PySem.W PySem.Calls PyProof.Rows
set_option maxRecDepth 100000 in
set_option maxHeartbeats 0 in
theorem PySem.Challenge.cw_lackedfields_k01_editions_refused_holds : PySem.Challenge.rw_lackedfields_k01_editions_refused.Holds := by
  w_on; o_law
  refine HandSHeadRun.head_any (r := Z.Rw) (q := view Z.Rw.prog [29]) (H := Z.hk) (ob := Z.ob) (M := 4000) (loose := Z.nms) (d := HandSHeadRun.topDef Z.Rw.prog 29) (kwd := []) Z.ob_eq
    (by kernel_rfl) (fun s => by kernel_rfl) Z.run (by kernel_rfl) (by kernel_rfl) (by kernel_rfl) (by rfl) (by first | assumption | decide +kernel) (by decide +kernel) ⟨rfl, rfl, rfl, rfl, rfl, by decide +kernel⟩ ?hw ?hc
  case hw => w_witness2
  case hc =>
    refine Z.walk_ofC (l := PySem.Challenge.rw_lackedfields_k01_editions_refused) (n := 63) (k := 7) (x := "_law_script") (CX := fun w => L2.CX Z.Rw.prog w) rfl (by decide) (by kernel_rfl) ⟨rfl, by decide, by decide⟩ ?F ?X
    case X =>
      intro w H s e s' z
      obtain ⟨_, _, _, _, _, _, _, _, _, _, _, _, h⟩ := z; exact h
    case F =>
      intro w mg fa h Y G hmg0
      obtain ⟨K, KX, c⟩ := Y
      have hmg : mg ("law" : PySem.Str) = some (.ref fa) := by
        have e : (HandSHeadRun.topDef Z.Rw.prog 29).name = ("law" : PySem.Str) := by kernel_rfl
        rw [← e]
        exact hmg0
      obtain ⟨t, T, ht⟩ := Z.tb_of KX G c
      have e := hmg.symm.trans T.m_law
      cases e
      refine ⟨K, t.d_law, Z.spZ ⟨Z.Rw.prog, w, K, mg, Z.cls⟩ 1 Z.fn_law, KX, fun s u => ?_, fun H a ns hl _ hS => Z.law_sp Z.math_law H a ns hl hS, fun base _ _ => Z.ok_law T⟩
      exact L2.FunD.bindsA (ps := ["_law_script"]) T.f_law (fun _ _ _ _ _ _ us hl => match us, hl with | [_], _ => rfl) s [u] rfl

