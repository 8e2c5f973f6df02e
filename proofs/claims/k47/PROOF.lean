import PyProof.Rows.All
import Wide.All
import OpenK.AllK
import Wide.FinOn
import PyProof.DictKeyH
import PyProof.DictFindH
import PyProof.DictRoadsH
import PyProof.P3Eq
import HandS.Dict
import HandS.Iter
import KE.KDictDisplayH
import HandS.ForMost
import HandS.Evl
import HandS.TupAny
import HandS.Defaults
import HandS.Exc
import HandS.HeadHook1
import HandS.HeadHook2
import HandS.Base
import HandS.Call
import HandS.Ends
import HandS.More
import HandS.Words
import HandS.WordsExc
import HandS.DictTup
import KE.GoesEnum
import KE.KDictWalk
import HandS.TupMul
import HandS.SortRule
import HandS.Small
import HandS.TryOnly
import HandS.NoneIn
import HandS.WideBits
import HandS.Flt
import HandS.SortOrd
import HandS.DictComp
import HandS.Conv
import KE.KEqDict
import HandS.HeadEnd
import PyProof.ReprRoads
import PyProof.ReprLen
import KE.KStateDown
import KE.KExcSuper
import HandS.Head0
import HandS.Head1
import HandS.Head2
import HandS.ExcInit
import HandS.ExcField
import KE.KExcLine
import HandS.HeadWalk
import HandS.ExcOwn
import PySem.Challenge.RW_heldwater_k47_parcels_followed
set_option Elab.async false
set_option linter.all false
set_option maxRecDepth 100000
set_option maxHeartbeats 4000000
set_option pp.maxSteps 300
/-! A dict whose keys are one text and tuples of ints. -/
namespace Hw
open PySem PySem.Spec PyProof.Rows
abbrev KI := List (Int ⊕ Str)
abbrev MK := Option KI
def txt : Str := "source"
section
variable {prog : Program} {w : World}
def tk (prog : Program) (w : World) : HeapKind prog w KI := tupleKind (L2.mixKind prog w)
def isM (prog : Program) (w : World) (h : Heap) : MK → Value → Prop
  | none, u => ∃ t, u = .str txt t
  | some ks, u => ∃ b, u = .ref b ∧ (tk prog w).is h ks b ∧ ∀ k ∈ ks, ∃ i, k = .inl i
def hashM (prog : Program) (w : World) : MK → Int
  | none => hashStr w txt
  | some ks => (tk prog w).hash ks
def drawsM (prog : Program) (w : World) : MK → Nat
  | none => 1
  | some ks => (tk prog w).draws ks
theorem isM_inj {h : Heap} {x y : MK} {u : Value} (a : isM prog w h x u) (b : isM prog w h y u) : x = y := by
  cases x with
  | none =>
    obtain ⟨t, rfl⟩ := a
    cases y with
    | none => rfl
    | some ks => obtain ⟨_, e, _⟩ := b; cases e
  | some ks =>
    obtain ⟨c, rfl, h1, _⟩ := a
    cases y with
    | none => obtain ⟨_, e⟩ := b; cases e
    | some ls =>
      obtain ⟨_, e, h2, _⟩ := b
      cases e
      rw [(tk prog w).inj h1 h2]
theorem isM_keeps {h h' : Heap} {k : MK} {u : Value} {d : Addr} {o : Obj} {es ep} (x : isM prog w h k u) (ho : h.get? d = some o) (hd : o.data = .dict es ep) (hs : Heap.SameBut d h h') : isM prog w h' k u := by
  cases k with
  | none => exact x
  | some ks =>
    obtain ⟨b, e, z, i⟩ := x
    exact ⟨b, e, (tk prog w).keeps z ho hd hs, i⟩
section
variable {A : Around} {E : Value → Shared → Prop} {s : Shared}
theorem hashM_ok {k : MK} {u : Value} {Q : Int → Shared → Prop} (hu : A.units < cLine) (x : isM prog w s.heap k u) (h : Q (hashM prog w k) { s with toks := s.toks + drawsM prog w k }) : wpAny (model prog w) A (pyHash u) Q E s := by
  cases k with
  | none => obtain ⟨t, rfl⟩ := x; exact wpAny_pyHash_str h
  | some ks => obtain ⟨b, rfl, z, _⟩ := x; exact (tk prog w).pyHash hu z h
theorem items_reads {h : Heap} : ∀ {ks : KI} {vs : List Value}, ItemsAre (L2.mixKind prog w) ks vs → (∀ k ∈ ks, ∃ i, k = .inl i) → ∃ ds as, ReadsAll h vs ds as ∧ PyData.canLayAll0 ds = true
  | _, _, .nil, _ => ⟨[], [], .nil, rfl⟩
  | k :: ks, v :: vs, .cons q r, hi => by
    obtain ⟨i, rfl⟩ := hi k (List.mem_cons_self ..)
    obtain ⟨ds, as, h1, h2⟩ := items_reads r fun k hk => hi k (List.mem_cons_of_mem _ hk)
    obtain ⟨t, rfl⟩ : ∃ t, v = .int i t := L2.relV_key (k := .inl i) (show L2.keyIs (.inl i) v = true from q)
    exact ⟨.int i :: ds, [] ++ as, .cons (.int i t) h1, by
      show (PyData.canLay0 (.int i) && PyData.canLayAll0 ds) = true
      rw [h2]; rfl⟩
theorem eqM_ok {x y : MK} {u v : Value} {Q : Bool → Shared → Prop} (hu : A.units < cLine) (a : isM prog w s.heap x u) (b : isM prog w s.heap y v) (h : Q (decide (x = y)) s) : wpAny (model prog w) A (eqBool u v) Q E s := by
  have tup : ∀ {ks : KI} {c : Addr}, (tk prog w).is s.heap ks c → (∀ k ∈ ks, ∃ i, k = .inl i) → ∃ ds as, Reads s.heap (.ref c) (.tuple ds) as ∧ (PyData.tuple ds).canLay0 = true := fun {ks c} z hi => by
    obtain ⟨o, its, n, h1, h2, h3, h4⟩ := z
    obtain ⟨ds, as, h5, h6⟩ := items_reads (prog := prog) (w := w) (h := s.heap) h4 hi
    exact ⟨ds, as, .tuple h1 h2 h3 h5, h6⟩
  have ht : (PyData.str txt).canLay0 = true := by decide +kernel
  cases x with
  | none =>
    obtain ⟨t, rfl⟩ := a
    cases y with
    | none => obtain ⟨t2, rfl⟩ := b; exact wpAny_eqBool_str (by simpa using h)
    | some ks =>
      obtain ⟨c, rfl, z, hi⟩ := b
      obtain ⟨ds, as, r, l⟩ := tup z hi
      exact SeqAt.eqBoolOverData prog w A E s _ _ _ _ _ _ Q (.str txt t) r ht l (by simpa [PyData.depth] using hu) (by simpa [PyData.eqv] using h)
  | some ks =>
    obtain ⟨c, rfl, z, hi⟩ := a
    cases y with
    | none =>
      obtain ⟨t, rfl⟩ := b
      obtain ⟨ds, as, r, l⟩ := tup z hi
      exact SeqAt.eqBoolOverData prog w A E s _ _ _ _ _ _ Q r (.str txt t) l ht (by simpa [PyData.depth] using hu) (by simpa [PyData.eqv] using h)
    | some ls =>
      obtain ⟨c2, rfl, z2, _⟩ := b
      exact (tk prog w).eqBool hu z z2 (by simpa using h)
theorem quietM {k : MK} {u : Value} {Q : Bool → Shared → Prop} (x : isM prog w s.heap k u) (h : Q true s) : wpAny (model prog w) A (eqIsQuiet 8 u) Q E s := by
  cases k with
  | none => obtain ⟨t, rfl⟩ := x; exact wpAny_pure h
  | some ks => obtain ⟨b, rfl, z, _⟩ := x; exact (tk prog w).quiet z h
/-! ### what stands in it -/
abbrev Ent := MK × Value × Value
def ent (prog : Program) (w : World) (x : Ent) : DictEntry := ⟨hashM prog w x.1, x.2.1, x.2.2⟩
/-- the dict at d: its entries -/
def MixAt (prog : Program) (w : World) (h : Heap) (d : Addr) (xs : List Ent) : Prop :=
  ∃ o es ep, h.get? d = some o ∧ o.ExactDict ∧ o.data = .dict es ep ∧ es.toList = xs.map (ent prog w) ∧ (xs.map (·.1)).Nodup
def KeysAre (prog : Program) (w : World) (h : Heap) (xs : List Ent) : Prop := ∀ x ∈ xs, isM prog w h x.1 x.2.1
theorem ent_at {es : Array DictEntry} {xs : List Ent} (he : es.toList = xs.map (ent prog w)) (j : Nat) : es[j]? = (xs[j]?).map (ent prog w) := by
  rw [← Array.getElem?_toList, he, List.getElem?_map]
theorem key_uniq {xs : List Ent} (hn : (xs.map (·.1)).Nodup) {i j : Nat} {x y : Ent} (hi : xs[i]? = some x) (hj : xs[j]? = some y) (e : x.1 = y.1) : i = j := by
  have a : (xs.map (·.1))[i]? = some x.1 := by rw [List.getElem?_map, hi]; rfl
  have b : (xs.map (·.1))[j]? = some x.1 := by rw [List.getElem?_map, hj, e]; rfl
  exact (List.getElem?_inj (List.getElem?_eq_some_iff.mp a).1 hn).mp (a.trans b.symm)
/-- the answer of a lookup: the place of k in xs -/
def placeOf (xs : List Ent) (k : MK) : Option Nat := xs.findIdx? fun x => decide (x.1 = k)
theorem place_at {xs : List Ent} (hn : (xs.map (·.1)).Nodup) {k : MK} {j : Nat} {x : Ent} (hj : xs[j]? = some x) (e : x.1 = k) : placeOf xs k = some j := by
  obtain ⟨hl, hx⟩ := List.getElem?_eq_some_iff.mp hj
  unfold placeOf
  rw [List.findIdx?_eq_some_iff_getElem]
  refine ⟨hl, by rw [hx]; exact decide_eq_true e, fun i hij c => ?_⟩
  have h2 := of_decide_eq_true c
  have := key_uniq hn (List.getElem?_eq_getElem (by omega)) hj (h2.trans e.symm)
  omega
theorem place_no {xs : List Ent} {k : MK} (h : ∀ (j : Nat) (x : Ent), xs[j]? = some x → x.1 ≠ k) : placeOf xs k = none := by
  unfold placeOf
  rw [List.findIdx?_eq_none_iff]
  intro x hx
  obtain ⟨j, hj⟩ := List.mem_iff_getElem?.mp hx
  exact decide_eq_false (h j x hj)
theorem place_some {xs : List Ent} {k : MK} {j : Nat} (h : placeOf xs k = some j) : ∃ x, xs[j]? = some x ∧ x.1 = k := by
  unfold placeOf at h
  rw [List.findIdx?_eq_some_iff_getElem] at h
  obtain ⟨hl, h1, _⟩ := h
  exact ⟨xs[j], List.getElem?_eq_getElem hl, of_decide_eq_true h1⟩
theorem mayTell {u : Value} {k : MK} {st : List Value} {Q : Bool → Shared → Prop} (hk : isM prog w s.heap k u) (hs : ∀ v ∈ st, ∃ k', isM prog w s.heap k' v) (h : Q false s) : wpAny (model prog w) A (tableMayTell u st) Q E s := by
  unfold tableMayTell
  split
  · exact wpAny_pure h
  · refine wpAny_bind (quietM hk ?_)
    rw [if_neg (by simp)]
    refine wpAny_bind (wpAny_forIn_list _ (fun l r s' => s' = s ∧ r = (none, ()) ∧ ∀ v ∈ l, ∃ k', isM prog w s.heap k' v) _ ?_ ?_ _ _ ⟨rfl, rfl, hs⟩)
    · rintro v l r s' ⟨rfl, rfl, hl⟩
      obtain ⟨k', hv⟩ := hl v (List.mem_cons_self ..)
      refine wpAny_bind (quietM hv ?_)
      rw [if_neg (by simp)]
      exact wpAny_pure ⟨rfl, rfl, fun v' z => hl v' (List.mem_cons_of_mem _ z)⟩
    · rintro r s' ⟨rfl, rfl, _⟩; exact wpAny_pure h
/-- the places of one hash -/
theorem places_mem {n : Nat} {f : Nat → Option Int} {hs : Int} {i : Nat} : i ∈ placesWithHash n f hs ↔ i < n ∧ f i = some hs := by
  unfold placesWithHash
  rw [List.mem_filter, List.mem_range, beq_iff_eq]
theorem places_nodup {n : Nat} {f : Nat → Option Int} {hs : Int} : (placesWithHash n f hs).Nodup := by
  unfold placesWithHash
  exact List.Pairwise.filter _ List.nodup_range
theorem hw_find {d : Addr} {o : Obj} {es ep} {u : Value} {xs : List Ent} {k : MK} {Q : Option Nat → Shared → Prop} (hu : A.units < cLine) (hk : isM prog w s.heap k u) (ho : s.heap.get? d = some o) (hd : o.data = .dict es ep)
    (he : es.toList = xs.map (ent prog w)) (his : KeysAre prog w s.heap xs) (hn : (xs.map (·.1)).Nodup) (h : Q (placeOf xs k) s) : wpAny (model prog w) A (dictFind d u (hashM prog w k)) Q E s := by
  have hsz : es.size = xs.length := by rw [← Array.length_toList, he, List.length_map]
  have at_ : ∀ i, i < es.size → ∃ x, xs[i]? = some x ∧ es[i]? = some (ent prog w x) ∧ isM prog w s.heap x.1 x.2.1 := fun i hi => by
    have e : xs[i]? = some (xs[i]'(by omega)) := List.getElem?_eq_getElem _
    exact ⟨_, e, by rw [ent_at he, e]; rfl, his _ (List.mem_of_getElem? e)⟩
  generalize hpl : placesWithHash es.size (fun i => es[i]?.map (·.hash)) (hashM prog w k) = pl
  have plm : ∀ i, i ∈ pl ↔ i < es.size ∧ es[i]?.map (·.hash) = some (hashM prog w k) := fun i => by rw [← hpl]; exact places_mem
  have pln : pl.Nodup := by rw [← hpl]; exact places_nodup
  have only : ∀ j x, xs[j]? = some x → x.1 = k → j ∈ pl := fun j x hj e => (plm j).mpr ⟨by rw [hsz]; exact (List.getElem?_eq_some_iff.mp hj).1, by rw [ent_at he, hj]; show some (hashM prog w x.1) = _; rw [e]⟩
  have keyOf : ∀ v ∈ pl.filterMap (fun i => es[i]?.map (·.key)), ∃ k', isM prog w s.heap k' v := fun v hv => by
    obtain ⟨i, hi, e⟩ := List.mem_filterMap.mp hv
    obtain ⟨x, _, h2, h3⟩ := at_ i ((plm i).mp hi).1
    rw [h2] at e; cases e
    exact ⟨_, h3⟩
  -- one place is looked at
  have one : ∀ {i : Nat} {pre rest : List Nat} {R : Bool → Shared → Prop}, pl = pre ++ i :: rest → (∀ x, xs[i]? = some x → x.1 = k → R true s) → (∀ x, xs[i]? = some x → x.1 ≠ k → R false s) → ∃ e, es[i]? = some e ∧ (e.hash == hashM prog w k) = true ∧ wpAny (model prog w) A (eqBool e.key u) R E s := fun {i pre rest R} hp h1 h2 => by
    have hi := (plm i).mp (by rw [hp]; simp)
    obtain ⟨x, e1, e2, e3⟩ := at_ i hi.1
    refine ⟨_, e2, ?_, eqM_ok hu e3 hk ?_⟩
    · have := hi.2
      rw [e2, Option.map_some] at this
      rw [Option.some.inj this]; simp
    · by_cases c : x.1 = k
      · rw [decide_eq_true c]; exact h1 x e1 c
      · rw [decide_eq_false c]; exact h2 x e1 c
  have none_ : (∀ i ∈ pl, ∀ x, xs[i]? = some x → x.1 ≠ k) → placeOf xs k = none := fun z => place_no fun j x hj e => z j (only j x hj e) x hj e
  have plain : wpAny (model prog w) A (dictWalkPlain d u (hashM prog w k) es pl) Q E s := by
    unfold dictWalkPlain
    refine wpAny_bind (wpAny_forIn_list _ (fun l b s' => s' = s ∧ b = (none, ()) ∧ ∃ pre, pl = pre ++ l ∧ ∀ i ∈ pre, ∀ x, xs[i]? = some x → x.1 ≠ k) _ ?_ ?_ _ _ ⟨rfl, rfl, [], rfl, fun i z => by cases z⟩)
    · rintro i rest b s' ⟨rfl, rfl, pre, hp, hno⟩
      obtain ⟨e, e1, e2, e3⟩ := one (R := fun c s2 => s2 = s' ∧ ((c = true ∧ placeOf xs k = some i) ∨ (c = false ∧ ∀ x, xs[i]? = some x → x.1 ≠ k))) hp (fun x hx c => ⟨rfl, .inl ⟨rfl, place_at hn hx c⟩⟩) (fun x hx c => ⟨rfl, .inr ⟨rfl, fun y hy => by rw [hx] at hy; cases hy; exact c⟩⟩)
      simp only [e1]
      rw [if_pos e2]
      refine wpAny_bind (wpAny_dictEpoch ho hd (wpAny_bind (wpAny_mono e3 (fun c s2 z => ?_) fun _ _ z => z)))
      obtain ⟨rfl, z⟩ := z
      refine wpAny_bind (wpAny_dictEpoch ho hd ?_)
      show wpAny _ _ (if (ep != ep) = true then _ else _) _ E _
      rw [if_neg (by simp)]
      rcases z with ⟨rfl, z⟩ | ⟨rfl, z⟩
      · rw [z] at h
        exact wpAny_bind (wpAny_rule (wpAny_pure (wpAny_pure h)))
      · refine wpAny_bind (wpAny_rule (wpAny_pure ⟨rfl, rfl, pre ++ [i], by rw [hp]; simp, fun j hj => ?_⟩))
        rcases List.mem_append.mp hj with q | q
        · exact hno j q
        · rw [List.mem_singleton] at q; subst q; exact z
    · rintro b s' ⟨rfl, rfl, pre, hp, hno⟩
      rw [List.append_nil] at hp
      subst hp
      rw [none_ hno] at h
      exact wpAny_pure h
  have found : (∀ x ∈ xs, ∃ t, x.2.1 = .str txt t) → k = none → es.findIdx? (fun e => e.key.isStr txt) = placeOf xs k := fun z ek => by
    subst ek
    have e1 : es.findIdx? (fun e => e.key.isStr txt) = es.toList.findIdx? (fun e => e.key.isStr txt) := by
      obtain ⟨l⟩ := es
      exact List.findIdx?_toArray ..
    rw [e1, he]
    unfold placeOf
    have : ∀ l : List Ent, (∀ x ∈ l, isM prog w s.heap x.1 x.2.1 ∧ ∃ t, x.2.1 = .str txt t) → (l.map (ent prog w)).findIdx? (fun e => e.key.isStr txt) = l.findIdx? fun x => decide (x.1 = none) := fun l => by
      induction l with
      | nil => intro _; rfl
      | cons x l ih =>
        intro hx
        obtain ⟨h1, t, h2⟩ := hx x (List.mem_cons_self ..)
        have h3 : x.1 = none := by
          cases hq : x.1 with
          | none => rfl
          | some ks => rw [hq] at h1; obtain ⟨c, e, _⟩ := h1; rw [h2] at e; cases e
        rw [List.map_cons, List.findIdx?_cons, List.findIdx?_cons, ih fun y hy => hx y (List.mem_cons_of_mem _ hy)]
        have h4 : (ent prog w x).key.isStr txt = true := by
          show x.2.1.isStr txt = true
          rw [h2]; simp [Value.isStr]
        rw [h4, decide_eq_true h3]
    exact this xs fun x hx => ⟨his x hx, z x hx⟩
  have hcase : (∃ t, u = .str txt t ∧ k = none) ∨ ∃ b ks, u = .ref b ∧ k = some ks ∧ (tk prog w).is s.heap ks b := by
    cases k with
    | none => obtain ⟨t, e⟩ := hk; exact .inl ⟨t, e, rfl⟩
    | some ks => obtain ⟨b, e, z, _⟩ := hk; exact .inr ⟨b, ks, e, rfl, z⟩
  unfold dictFind; (try with_reducible apply wpAny_holding); apply wpAny_bind; apply wpAny_dictEntries ho hd
  rcases hcase with ⟨t, rfl, kn⟩ | ⟨b, ks, rfl, kn, hb⟩ <;> dsimp only <;> rw [hpl] <;> (first
    | (by_cases ha : (es.all fun e => isExactStrKey e.key) = true
       · rw [if_pos ha]
         unfold foundByValue
         have allT : ∀ x ∈ xs, ∃ t, x.2.1 = .str txt t := fun x hx => by
           obtain ⟨j, hj⟩ := List.mem_iff_getElem?.mp hx
           have hm : ent prog w x ∈ es := by rw [← Array.mem_toList_iff, he]; exact List.mem_map.mpr ⟨x, hx, rfl⟩
           have h1 := (Array.all_eq_true'.mp ha) _ hm
           have h2 := his x hx
           cases hq : x.1 with
           | none => rw [hq] at h2; exact h2
           | some ls =>
             rw [hq] at h2
             obtain ⟨c, e, _⟩ := h2
             have h1 : isExactStrKey x.2.1 = true := h1
             rw [e] at h1; cases h1
         rw [found allT kn]
         cases hf : placeOf xs k with
         | none => rw [hf] at h; exact wpAny_pure h
         | some i =>
           rw [hf] at h
           obtain ⟨x, h1, h2⟩ := place_some hf
           have e2 : es[i]? = some (ent prog w x) := by rw [ent_at he, h1]; rfl
           have h3 := his x (List.mem_of_getElem? h1)
           rw [h2] at h3
           simp only [e2]
           refine wpAny_bind (wpAny_dictEpoch ho hd (wpAny_bind (eqM_ok hu h3 hk (wpAny_bind (wpAny_dictEpoch ho hd ?_)))))
           show wpAny _ _ (if (ep != ep) = true then _ else _) _ E _
           rw [if_neg (by simp), decide_eq_true (rfl : k = k)]
           exact wpAny_bind (wpAny_rule (wpAny_pure h))
       rw [if_neg ha]
       by_cases hp : ((Value.str txt t :: pl.filterMap fun i => es[i]?.map (·.key)).all carriedByValue) = true
       · rw [if_pos hp]; exact plain
       rw [if_neg hp])
    | (rw [if_neg (by simp [carriedByValue])]
       rw [if_neg (by
         rw [← Array.any_toList, List.any_eq_true]
         rintro ⟨e, h1, h2⟩
         rw [he] at h1
         obtain ⟨x, hx, rfl⟩ := List.mem_map.mp h1
         simp only [ent, Bool.and_eq_true, beq_iff_eq, bne_iff_ne, ne_eq] at h2
         have h3 := his x hx
         rw [h2.1] at h3
         exact h2.2 (by rw [isM_inj h3 hk]))]))
  all_goals (
    generalize hst : pl.filterMap (fun i => es[i]?.map (·.key)) = st
    rw [hst] at keyOf
    first | by_cases hone : (st == [Value.str txt t]) = true | by_cases hone : (st == [Value.ref b]) = true)
  all_goals (
    first | rw [if_pos hone] | rw [if_neg hone]
    first | refine wpAny_bind (wpAny_pure ?_) | refine wpAny_bind (mayTell hk keyOf ?_)
    rw [if_neg (by simp)]
    refine wpAny_bind (wpAny_forIn_list _ (fun l b s' => s' = s ∧ ∃ hit pre, b = (none, hit) ∧ pl = pre ++ l ∧ ((hit = none ∧ ∀ i ∈ pre, ∀ x, xs[i]? = some x → x.1 ≠ k) ∨ ∃ j x, hit = some j ∧ j ∈ pre ∧ xs[j]? = some x ∧ x.1 = k)) _ ?_ ?_ _ _ ⟨rfl, none, [], rfl, rfl, .inl ⟨rfl, fun i z => by cases z⟩⟩)
    · rintro i rest b s' ⟨rfl, hit, pre, rfl, hp, hh⟩
      obtain ⟨e, e1, e2, e3⟩ := one (R := fun c s2 => s2 = s' ∧ ∃ x, xs[i]? = some x ∧ c = decide (x.1 = k)) hp (fun x hx c => ⟨rfl, x, hx, (decide_eq_true c).symm⟩) (fun x hx c => ⟨rfl, x, hx, (decide_eq_false c).symm⟩)
      simp only [e1]
      rw [if_pos e2]
      refine wpAny_bind (wpAny_dictEpoch ho hd (wpAny_bind (wpAny_mono e3 (fun c s2 z => ?_) fun _ _ z => z)))
      obtain ⟨rfl, x, hx, rfl⟩ := z
      refine wpAny_bind (wpAny_dictEpoch ho hd ?_)
      show wpAny _ _ (if (ep != ep) = true then _ else _) _ E _
      rw [if_neg (by simp)]
      have inx : i ∉ pre := fun z => by
        rw [hp] at pln
        exact (List.nodup_append.mp pln).2.2 i z i (List.mem_cons_self ..) rfl
      by_cases c : x.1 = k
      · rw [if_pos (decide_eq_true c)]
        rcases hh with ⟨rfl, hno⟩ | ⟨j, y, _, h1, h2, h3⟩
        · rw [if_neg (by simp)]
          refine wpAny_bind (wpAny_rule ?_)
          rw [place_at hn hx c] at h
          split
          · exact wpAny_pure (wpAny_pure h)
          · exact wpAny_pure ⟨rfl, some i, pre ++ [i], rfl, by rw [hp]; simp, .inr ⟨i, x, rfl, by simp, hx, c⟩⟩
        · exact absurd (key_uniq hn h2 hx (h3.trans c.symm) ▸ h1) inx
      · rw [if_neg (by rw [decide_eq_false c]; simp)]
        refine wpAny_bind (wpAny_rule ?_)
        rw [if_neg (by simp)]
        refine wpAny_pure ⟨rfl, hit, pre ++ [i], rfl, by rw [hp]; simp, ?_⟩
        rcases hh with ⟨h1, hno⟩ | ⟨j, y, h0, h1, h2, h3⟩
        · refine .inl ⟨h1, fun j hj y hy => ?_⟩
          rcases List.mem_append.mp hj with q | q
          · exact hno j q y hy
          · rw [List.mem_singleton] at q; subst q
            rw [hx] at hy; cases hy; exact c
        · exact .inr ⟨j, y, h0, List.mem_append_left _ h1, h2, h3⟩
    · rintro b s' ⟨rfl, hit, pre, rfl, hp, hh⟩
      rw [List.append_nil] at hp
      subst hp
      rcases hh with ⟨rfl, hno⟩ | ⟨j, y, rfl, h1, h2, h3⟩
      · rw [none_ hno] at h; exact wpAny_pure h
      · rw [place_at hn h2 h3] at h; exact wpAny_pure h)
end
end
end Hw
set_option Elab.async false
set_option linter.all false
set_option maxRecDepth 100000
set_option maxHeartbeats 4000000
set_option pp.maxSteps 300
/-! The mixed dict: d[k], k in d, d[k] = v, {k: v}. -/
namespace Hw
open PySem PySem.Spec PyProof.Rows
def valM (xs : List Ent) (k : MK) : Option Value := (placeOf xs k).bind fun j => (xs[j]?).map (·.2.2)
section
variable {prog : Program} {w : World} {A : Around} {E : Value → Shared → Prop} {s : Shared} {d : Addr} {xs : List Ent} {k : MK} {u : Value}
theorem MixAt.typeIs (hm : MixAt prog w s.heap d xs) : s.TypeIs (.ref d) "dict" := let ⟨o, _, _, ho, hc, _⟩ := hm; ⟨o, ho, hc.1⟩
theorem valM_isSome : (valM xs k).isSome = (placeOf xs k).isSome := by
  unfold valM
  cases h : placeOf xs k with
  | none => rfl
  | some j => obtain ⟨x, h1, _⟩ := place_some h; rw [Option.bind_some, h1]; rfl
theorem hw_get {Q : Option Value → Shared → Prop} (hu : A.units < cLine) (hk : isM prog w s.heap k u) (hm : MixAt prog w s.heap d xs) (his : KeysAre prog w s.heap xs) (h : Q (valM xs k) { s with toks := s.toks + drawsM prog w k }) : wpAny (model prog w) A (dictGet d u) Q E s := by
  obtain ⟨o, es, ep, ho, _, hd, he, hn⟩ := hm
  unfold dictGet
  try with_reducible refine wpAny_holding ?_
  refine wpAny_bind (hashM_ok hu hk (wpAny_bind (hw_find (s := { s with toks := s.toks + drawsM prog w k }) hu hk ho hd he his hn ?_)))
  unfold valM at h
  cases hp : placeOf xs k with
  | none => rw [hp] at h; exact wpAny_pure h
  | some j =>
    rw [hp, Option.bind_some] at h
    refine wpAny_bind (wpAny_dictEntries (s := { s with toks := s.toks + drawsM prog w k }) ho hd ?_)
    rw [ent_at he]
    cases hx : xs[j]? with
    | none => rw [hx] at h; exact wpAny_pure h
    | some x => rw [hx] at h; exact wpAny_pure h
theorem hw_in {Q : Value → Shared → Prop} (hu : A.in1.units < cLine) (hk : isM prog w s.heap k u) (hS : (d == sysModules) = false) (hm : MixAt prog w s.heap d xs) (his : KeysAre prog w s.heap xs) (h : Q (.bool (valM xs k).isSome) { s with toks := s.toks + drawsM prog w k }) :
    wpAny (model prog w) A (contains (.ref d) u) (fun b s' => Q (.bool b) s') E s := by
  unfold contains
  try with_reducible refine wpAny_holding ?_
  refine wpAny_bind (wpAny_specialOf hm.typeIs PySem.F.slot_dict_contains.lookup ?_)
  show wpAny _ _ (if (some (Value.builtin "dict.__contains__") == some Value.none) = true then _ else _) _ E s
  rw [if_neg (by rw [beq_builtin_none]; exact Bool.false_ne_true)]
  refine wpAny_bind (wpAny_callSpecialUnlessNone?_slot (name := Str.ofString "__contains__") hm.typeIs PySem.F.slot_dict_contains (wpAny_call_entry PySem.F.slot_dict_contains hm.typeIs PySem.F.entry_dict_contains ?_ (PySem.F.args_dict_contains_2 _ _)))
  show wpAny _ _ (dictGet d u >>= _) _ _ s
  refine wpAny_bind (hw_get hu hk hm his ?_)
  cases hf : valM xs k with
  | some p =>
    rw [hf] at h
    show wpAny _ _ (ret (.bool true)) _ _ _
    exact wpAny_pure ⟨_, rfl, wpAny_truthy_bool h⟩
  | none =>
    rw [hf] at h
    show wpAny _ _ (Builtin.Dict.pendingKey? d u >>= _) _ _ _
    exact wpAny_bind (wpAny_pendingKey_other hS (wpAny_pure ⟨_, rfl, wpAny_truthy_bool h⟩))
theorem hw_getItem {v : Value} {Q : Value → Shared → Prop} (hu : A.in1.units < cLine) (hk : isM prog w s.heap k u) (hm : MixAt prog w s.heap d xs) (his : KeysAre prog w s.heap xs) (hv : valM xs k = some v) (h : Q v { s with toks := s.toks + drawsM prog w k }) : wpAny (model prog w) A (getItem (.ref d) u) Q E s := by
  unfold getItem
  try with_reducible refine wpAny_holding ?_
  refine wpAny_bind (wpAny_sequenceKey hm.typeIs (by decide) (wpAny_bind (wpAny_callSpecial?_slot (name := Str.ofString "__getitem__") hm.typeIs PySem.F.slot_dict_getitem (wpAny_call_entry PySem.F.slot_dict_getitem hm.typeIs PySem.F.entry_dict_getitem ?_ (PySem.F.args_dict_getitem_2 _ _)))))
  show wpAny _ _ (dictGet d u >>= _) _ _ s
  refine wpAny_bind (hw_get hu hk hm his ?_)
  rw [hv]
  exact wpAny_pure ⟨v, rfl, wpAny_pure h⟩
/-- a new key -/
theorem hw_new {v : Value} {Q : Unit → Shared → Prop} (hu : A.units < cLine) (hk : isM prog w s.heap k u) (hm : MixAt prog w s.heap d xs) (his : KeysAre prog w s.heap xs) (hno : placeOf xs k = none) (hz : xs.length ≤ sizeLine)
    (hQ : ∀ h' tk, MixAt prog w h' d (xs ++ [(k, u, v)]) → Heap.SameBut d s.heap h' → Q () { s with heap := h', toks := tk }) : wpAny (model prog w) A (dictSet d u v) Q E s := by
  obtain ⟨o, es, ep, ho, hc, hd, he, hn⟩ := hm
  have hsz : es.size = xs.length := by rw [← Array.length_toList, he, List.length_map]
  unfold dictSet
  try with_reducible refine wpAny_holding ?_
  refine wpAny_bind (hashM_ok hu hk ?_)
  unfold dictSetHashed
  try with_reducible refine wpAny_holding ?_
  refine wpAny_bind (hw_find (s := { s with toks := s.toks + drawsM prog w k }) hu hk ho hd he his hn ?_)
  rw [hno]
  refine wpAny_bind (wpAny_rule (wpAny_updateDictKeys (hz := by omega) (s := { s with toks := s.toks + drawsM prog w k }) ho hd (hQ _ _ ⟨_, _, ep + 1, Heap.get?_update_self _ ho (Obj.isFreed_of_dict (Obj.data_mapDictKeys hd _)), hc.mapDictKeys _, Obj.data_mapDictKeys hd _, ?_, ?_⟩ (Heap.SameBut.update ..))))
  · simp [he, ent]
  · rw [List.map_append]
    refine List.nodup_append.mpr ⟨hn, by simp, fun x hx y hy e => ?_⟩
    simp only [List.map_cons, List.map_nil, List.mem_singleton] at hy
    obtain ⟨z, hz, rfl⟩ := List.mem_map.mp hx
    obtain ⟨j, hj⟩ := List.mem_iff_getElem?.mp hz
    rw [place_at hn hj (e.trans hy)] at hno
    cases hno
theorem hw_setItem {v : Value} {Q : Unit → Shared → Prop} (hu : A.in1.units < cLine) (hk : isM prog w s.heap k u) (hm : MixAt prog w s.heap d xs) (his : KeysAre prog w s.heap xs) (hno : placeOf xs k = none) (hz : xs.length ≤ sizeLine)
    (hQ : ∀ h' tk, MixAt prog w h' d (xs ++ [(k, u, v)]) → Heap.SameBut d s.heap h' → Q () { s with heap := h', toks := tk }) : wpAny (model prog w) A (setItem (.ref d) u v) Q E s := by
  unfold setItem
  try with_reducible refine wpAny_holding ?_
  refine wpAny_bind (wpAny_sequenceKey hm.typeIs (by decide) (wpAny_bind (wpAny_callSpecial?_slot (name := Str.ofString "__setitem__") hm.typeIs PySem.F.slot_dict_setitem (wpAny_call_entry PySem.F.slot_dict_setitem hm.typeIs PySem.F.entry_dict_setitem ?_ (PySem.F.args_dict_setitem_3 _ _ _)))))
  show wpAny _ _ (Builtin.Dict.notOrdered "__setitem__" ⟨[.ref d, u, v], []⟩ >>= _) _ _ s
  refine wpAny_bind (wpAny_notOrdered_dict hm.typeIs ?_)
  show wpAny _ _ (dictSet d u v >>= _) _ _ s
  exact wpAny_bind (hw_new hu hk hm his hno hz fun h' tk hm' hs' => wpAny_pure ⟨.none, rfl, wpAny_pure (hQ h' tk hm' hs')⟩)
/-- {k: v} -/
theorem hw_disp {env : Env} {ke ve : Expr} {pos : Pos} {Q : Value → Shared → Prop} (hu : A.units < cLine)
    (h : wpAny (model prog w) A (eval ke env) (fun kv s1 => wpAny (model prog w) A (eval ve env) (fun vv s2 => ∃ k, isM prog w s2.heap k kv ∧ MixAt prog w s2.heap s.heap.objs.size [] ∧ ∀ h' tk, MixAt prog w h' s.heap.objs.size [(k, kv, vv)] → Heap.SameBut s.heap.objs.size s2.heap h' → Q (.ref s.heap.objs.size) { s2 with heap := h', toks := tk }) E s1) E
      { s with heap := s.heap.push { cls := .type "dict", data := .dict #[] } }) : wpAny (model prog w) A (eval (.Dict [some ke] [ve] pos) env) Q E s := by
  rw [arm_eval_Dict, zip_pairTrees [some ke] [ve] env pos rfl rfl, dictDisplay_pairs (pairTrees [some ke] [ve] env pos) (by intro e; cases e) (by show 1 < _; omega)]
  refine wpAny_bind (wpAny_standAt (wpAny_bind ?_))
  unfold subDict
  refine wpAny_bind (wpAny_alloc (wpAny_bind (wpAny_holding ?_)))
  rw [if_pos (by show 1 ≤ 15; omega)]
  refine wpAny_bind (pairTrees_cons_walk (wpAny_mono h (fun kv s1 h1 => wpAny_mono h1 (fun vv s2 h2 => pairTrees_nil_walk ?_) fun _ _ e => e) fun _ _ e => e))
  obtain ⟨k, hk, hm, hq⟩ := h2
  refine wpAny_holding ?_
  rw [List.forIn_cons]
  refine wpAny_bind (wpAny_bind (wpAny_bind (hw_new hu hk hm (fun x hx => by cases hx) rfl (Nat.zero_le _) fun h' tk m sb => wpAny_pure ?_)))
  show wpAny _ _ (forIn [] _ _) _ _ _
  rw [List.forIn_nil]
  exact wpAny_pure (wpAny_pure (wpAny_pure (wpAny_pure (hq h' tk m sb))))
end
end Hw
set_option Elab.async false
set_option linter.all false
set_option maxRecDepth 100000
set_option maxHeartbeats 4000000
set_option pp.maxSteps 300
/-! The mixed dict as a thing of the layer. -/
namespace Hw
open PySem PySem.Spec L2
abbrev KVs := List (MK × V × V)
abbrev EntR (p : MK × V × V) (q : Ent) : Prop := p.1 = q.1 ∧ RelV p.2.1 q.2.1 ∧ RelV p.2.2 q.2.2
def MixV (P : Program) (w : World) (a : Addr) (kvs : KVs) : HO := .ext fun h => kvs.length ≤ 100000 ∧ (a == sysModules) = false ∧ ∃ xs : List Ent, MixAt P w h a xs ∧ Paired EntR kvs xs
/-- a key as it stands in the store -/
def KeyH (H : Hp) : MK → V → Prop
  | none, v => v = .str txt
  | some ks, v => ∃ b, v = .ref b ∧ H b = some (.tup (ks.map kV)) ∧ ∀ k ∈ ks, ∃ i, k = .inl i
theorem mix_ok {P : Program} {w : World} {H : Hp} {h : Heap} {a : Addr} {kvs : KVs} {xs : List Ent} (hz : kvs.length ≤ 100000) (hs : (a == sysModules) = false) (m : MixAt P w h a xs) (p : Paired EntR kvs xs) : ObjOk P w H h a (MixV P w a kvs) := by
  refine ⟨⟨hz, hs, xs, m, p⟩, ?_, ?_⟩
  · obtain ⟨o, _, _, ho, _⟩ := m; exact ⟨o, ho⟩
  · rintro h1 h2 ⟨z1, z2, ys, ⟨o, es, ep, ho, r⟩, q⟩ k
    exact ⟨z1, z2, ys, ⟨o, es, ep, k o ho, r⟩, q⟩
def findV (kvs : KVs) (k : MK) : Option V := (kvs.find? fun p => decide (p.1 = k)).map (·.2.2)
theorem find_rel {k : MK} : ∀ {kvs : KVs} {xs : List Ent}, Paired EntR kvs xs → (xs.map (·.1)).Nodup → (findV kvs k = none → placeOf xs k = none) ∧ ∀ v, findV kvs k = some v → ∃ u, valM xs k = some u ∧ RelV v u
  | [], _, .nil, _ => ⟨fun _ => rfl, fun v h => by simp [findV] at h⟩
  | p :: kvs, q :: xs, .cons h t, nd => by
    have nd2 : (xs.map (·.1)).Nodup := (List.nodup_cons.mp nd).2
    have ih := find_rel (k := k) t nd2
    by_cases e : p.1 = k
    · have ef : findV (p :: kvs) k = some p.2.2 := by unfold findV; rw [List.find?_cons, decide_eq_true e]; rfl
      have ep : placeOf (q :: xs) k = some 0 := place_at nd rfl (h.1.symm.trans e)
      refine ⟨fun z => (by rw [ef] at z; cases z), fun v z => ?_⟩
      rw [ef] at z; cases z
      exact ⟨q.2.2, by unfold valM; rw [ep]; rfl, h.2.2⟩
    · have ne : ¬ q.1 = k := fun z => e (h.1.trans z)
      have ef : findV (p :: kvs) k = findV kvs k := by unfold findV; rw [List.find?_cons, decide_eq_false e]
      have ep : placeOf (q :: xs) k = (placeOf xs k).map (· + 1) := by unfold placeOf; rw [List.findIdx?_cons, decide_eq_false ne]; simp
      have ev : valM (q :: xs) k = valM xs k := by
        unfold valM
        rw [ep]
        cases placeOf xs k <;> rfl
      rw [ef, ep, ev]
      exact ⟨fun z => by rw [ih.1 z]; rfl, ih.2⟩
section
variable {X : Cx} {pins : List (Addr × Obj)} {σ : L2.St} {H : Hp} {s : Shared} {a : Addr} {k : MK} {y v : V} {u r : Value} {kvs : KVs}
theorem keyH_is (I : Inv X pins σ H s) (hk : KeyH H k y) (r : RelV y u) : isM X.prog X.w s.heap k u := by
  cases k with
  | none => cases hk; exact r
  | some ks =>
    obtain ⟨b, rfl, hb, hi⟩ := hk
    cases (show u = Value.ref b from r)
    exact ⟨b, rfl, key_of I.hok hb, hi⟩
/-- the keys stand -/
def KeysH (H : Hp) (kvs : KVs) : Prop := ∀ p ∈ kvs, KeyH H p.1 p.2.1
theorem keys_are (I : Inv X pins σ H s) : ∀ {kvs : KVs} {xs : List Ent}, Paired EntR kvs xs → KeysH H kvs → KeysAre X.prog X.w s.heap xs
  | [], _, .nil, _ => fun x hx => by cases hx
  | p :: kvs, q :: xs, .cons h t, hk => fun x hx => by
    rcases List.mem_cons.mp hx with e | e
    · subst e
      have := keyH_is I (hk p (List.mem_cons_self ..)) h.2.1
      rw [h.1] at this; exact this
    · exact keys_are I t (fun z hz => hk z (List.mem_cons_of_mem _ hz)) x e
theorem mix_of (I : Inv X pins σ H s) (e : H a = some (MixV X.prog X.w a kvs)) (hk : KeysH H kvs) : kvs.length ≤ 100000 ∧ (a == sysModules) = false ∧ ∃ xs, MixAt X.prog X.w s.heap a xs ∧ Paired EntR kvs xs ∧ KeysAre X.prog X.w s.heap xs := by
  obtain ⟨⟨h1, h2, xs, h3, h4⟩, _, _⟩ := I.hok a _ e
  exact ⟨h1, h2, xs, h3, h4, keys_are I h4 hk⟩
end
section
variable {X : Cx} {o i e value ke ve : Expr} {pos pos' tpos : Pos} {td ty tv tk : TE}
/-- the dict at the value of td, the key at that of ty -/
def tMGet (P : Program) (w : World) (td ty : TE) : TE := fun σ H Q => td σ H fun x H1 => ty σ H1 fun y H2 => ∃ a kvs k v, x = .ref a ∧ H2 a = some (MixV P w a kvs) ∧ KeysH H2 kvs ∧ KeyH H2 k y ∧ findV kvs k = some v ∧ Q v H2
def tMNot (P : Program) (w : World) (ty td : TE) : TE := fun σ H Q => ty σ H fun y H1 => td σ H1 fun x H2 => ∃ a kvs k, x = .ref a ∧ H2 a = some (MixV P w a kvs) ∧ KeysH H2 kvs ∧ KeyH H2 k y ∧ Q (.bl (!(findV kvs k).isSome)) H2
def sMPut (P : Program) (w : World) (td ty tv : TE) : TS := fun D σ H => tv σ H fun v H1 => td σ H1 fun x H2 => ty σ H2 fun y H3 => ∃ a kvs k, x = .ref a ∧ H3 a = some (MixV P w a kvs) ∧ KeysH H3 kvs ∧ KeyH H3 k y ∧ findV kvs k = none ∧ kvs.length < 100000 ∧ D.nx σ (L2.upd H3 a (MixV P w a (kvs ++ [(k, y, v)])))
def tMNew (P : Program) (w : World) (tk tv : TE) : TE := fun σ H Q => ∀ p, H p = none → tk σ (L2.upd H p (MixV P w p [])) fun y H1 => tv σ H1 fun v H2 => ∃ k, H2 p = some (MixV P w p []) ∧ KeyH H2 k y ∧ Q (.ref p) (L2.upd H2 p (MixV P w p [(k, y, v)]))
theorem pe_mget {P : Program} {w : World} (hu : X.A.units + 1 < cLine) (ho : PE X o td) (hi : PE X i ty) (hs : NoSl i) (h1 : X.prog = P := by rfl) (h2 : X.w = w := by rfl) : PE X (.Subscript o i pos) (tMGet P w td ty) := by
  subst h1 h2
  refine ⟨fun pins s σ H Q I h => subD_of PySem.F.slot_dict_getitem.lookup hs (thn (ho.run pins s σ H _ I h) fun u s1 ⟨x, H1, I1, rx, q1⟩ => thn (hi.run pins s1 σ H1 _ I1 q1) fun iv s2 ⟨y, H2, I2, ry, a, kvs, k, v, ex, g, gk, hk, hf, q2⟩ => ?_)⟩
  subst ex
  cases (show u = Value.ref a from rx)
  obtain ⟨_, _, xs, m, pr, ks⟩ := mix_of I2 g gk
  obtain ⟨z, hz, rz⟩ := (find_rel pr (let ⟨_, _, _, _, _, _, _, n⟩ := m; n)).2 v hf
  exact ⟨m.typeIs, hw_getItem hu (keyH_is I2 hk ry) m ks hz ⟨v, H2, I2.tok _, rz, q2⟩⟩
theorem pc_mnot {P : Program} {w : World} (hu : X.A.units + 1 < cLine) (hi : PE X i ty) (ho : PE X o td) (h1 : X.prog = P := by rfl) (h2 : X.w = w := by rfl) : PC X .NotIn i o (tMNot P w ty td) := by
  subst h1 h2
  refine ⟨fun pins s σ H Q I h => thn (hi.run pins s σ H _ I h) fun iv s1 ⟨y, H1, I1, ry, q1⟩ => thn (ho.run pins s1 σ H1 _ I1 q1) fun u s2 ⟨x, H2, I2, rx, a, kvs, k, ex, g, gk, hk, q2⟩ => ?_⟩
  subst ex
  cases (show u = Value.ref a from rx)
  obtain ⟨_, sm, xs, m, pr, ks⟩ := mix_of I2 g gk
  have nd : (xs.map (·.1)).Nodup := let ⟨_, _, _, _, _, _, _, n⟩ := m; n
  have e : (valM xs k).isSome = (findV kvs k).isSome := by
    cases hf : findV kvs k with
    | none => rw [valM_isSome, (find_rel pr nd).1 hf]; rfl
    | some v => obtain ⟨z, hz, _⟩ := (find_rel pr nd).2 v hf; rw [hz]; rfl
  show wpAny _ _ (do return Value.bool (!(← contains (.ref a) iv))) _ _ s2
  refine wpAny_bind (wpAny_mono (hw_in (Q := fun b s' => EP X pins σ Q (match b with | Value.bool b => Value.bool (!b) | v => v) s') hu (keyH_is I2 hk ry) sm m ks ?_) (fun b s' z => wpAny_pure z) fun _ _ z => z)
  rw [e]
  exact ⟨.bl (!(findV kvs k).isSome), H2, I2.tok _, rfl, q2⟩
theorem ps_mput {P : Program} {w : World} (hu : X.A.units + 1 < cLine) (ho : PE X o td) (hi : PE X i ty) (hv : PE X value tv) (hs : swapsWith value (some (.Subscript o i pos')) pos.line X.env = pure false) (h1 : X.prog = P := by rfl) (h2 : X.w = w := by rfl) : PS X (.Assign [.Subscript o i pos'] value pos) (sMPut P w td ty tv) := by
  subst h1 h2
  refine ⟨fun pins s σ H D I h => wpAny_Assign_Subscript (thn (hv.run pins s σ H _ I h) fun r s1 ⟨v, H1, I1, rv, q1⟩ => thn (ho.run pins s1 σ H1 _ I1 q1) fun u s2 ⟨x, H2, I2, rx, q2⟩ => thn (hi.run pins s2 σ H2 _ I2 q2) fun iv s3 ⟨y, H3, I3, ry, a, kvs, k, ex, g, gk, hk, hf, hz, q3⟩ => ?_) hs⟩
  subst ex
  cases (show u = Value.ref a from rx)
  obtain ⟨_, sm, xs, m, pr, ks⟩ := mix_of I3 g gk
  have nd : (xs.map (·.1)).Nodup := let ⟨_, _, _, _, _, _, _, n⟩ := m; n
  have hl : kvs.length = xs.length := Paired.length pr
  refine hw_setItem hu (keyH_is I3 hk ry) m ks ((find_rel pr nd).1 hf) (Nat.le_trans (by omega : xs.length ≤ 100000) (by decide)) fun h' tk m' sb => ⟨σ, _, ?_, q3⟩
  refine d_write I3 (by rw [g]; exact True.intro) sb (let ⟨o, _, _, ho, _⟩ := m'; ⟨o, ho⟩) (mix_ok (by rw [List.length_append]; exact hz) sm m' (Paired.snoc pr ⟨rfl, ry, rv⟩))
theorem pe_mnew {P : Program} {w : World} (hu : X.A.units + 1 < cLine) (hk : PE X ke tk) (hv : PE X ve tv) (h1 : X.prog = P := by rfl) (h2 : X.w = w := by rfl) : PE X (.Dict [some ke] [ve] pos) (tMNew P w tk tv) := by
  subst h1 h2
  refine ⟨fun pins s σ H Q I h => hw_disp (by omega) ?_⟩
  have hn := I.hok.fresh (Nat.le_refl s.heap.objs.size)
  have sm : (s.heap.objs.size == sysModules) = false := beq_eq_false_iff_ne.mpr (Ne.symm (Nat.ne_of_lt I.big))
  have m0 : MixAt X.prog X.w (s.heap.push { cls := .type "dict", data := .dict #[] }) s.heap.objs.size [] := ⟨_, #[], 0, Heap.get?_push_size _ rfl, ⟨rfl, rfl, rfl⟩, rfl, rfl, List.nodup_nil⟩
  have I1 := I.laid (a := s.heap.objs.size) (o := MixV X.prog X.w s.heap.objs.size []) (h' := s.heap.push { cls := .type "dict", data := .dict #[] }) (t' := s.toks) (fun _ _ q => Heap.get?_push_of_some _ q) (Nat.le_refl _) (mix_ok (Nat.zero_le _) sm m0 .nil)
  refine thn (hk.run pins _ σ _ _ I1 (h _ hn)) fun u s1 ⟨y, H1, I1, ry, q1⟩ => thn (hv.run pins s1 σ H1 _ I1 q1) fun r s2 ⟨v, H2, I2, rv, k, e, hk2, q2⟩ => ?_
  obtain ⟨_, _, xs, m, pr, ks⟩ := mix_of I2 e (fun p hp => by cases hp)
  cases pr
  refine ⟨k, keyH_is I2 hk2 ry, m, fun h' tk m' sb => ⟨.ref s.heap.objs.size, _, ?_, rfl, q2⟩⟩
  exact d_write I2 (by rw [e]; exact True.intro) sb (let ⟨o, _, _, ho, _⟩ := m'; ⟨o, ho⟩) (mix_ok (by show 1 ≤ 100000; omega) sm m' (.cons ⟨rfl, ry, rv⟩ .nil))
end
end Hw
set_option Elab.async false
set_option linter.all false
set_option maxRecDepth 100000
set_option maxHeartbeats 4000000
/-! The calculus: data D over a store G of things that never change, a symbolic store Mu of things that do. -/
namespace Hw
open PySem PySem.Spec L2

theorem sz_of {n : Nat} (h : n ≤ 100000) : n ≤ sizeLine := Nat.le_trans h (by decide)
theorem sz_lt {n : Nat} (h : n < 100000) : n < sizeLine := Nat.lt_of_lt_of_le h (by decide)
inductive D where
  | non | bl (b : Bool) | int (i : Int) | str (x : Str) | tup (ds : List D) | lst (ds : List D) | sq (ds : List D) | dct (ks : List (List Key)) (ds : List D) | raw (v : V)

/-- the layer's `Evl.Ex`, under a name of this calculus -/
def Ex (H H' : Hp) : Prop := Evl.Ex H H'
theorem Ex.refl (H : Hp) : Ex H H := Evl.Ex.refl H
theorem Ex.trans {H H1 H2 : Hp} (a : Ex H H1) (b : Ex H1 H2) : Ex H H2 := Evl.Ex.trans a b
theorem Ex.new {H : Hp} {p : Addr} {o : HO} (h : H p = none) : Ex H (upd H p o) := Evl.Ex.new h
theorem Ex.nn {H H' : Hp} (e : Ex H H') {a : Addr} (h : H a ≠ none) : H' a ≠ none := fun z => by
  cases q : H a with
  | none => exact h q
  | some o => rw [e a o q] at z; cases z
theorem Ex.off {H H' : Hp} (e : Ex H H') {a : Addr} (h : H' a = none) : H a = none := by
  cases q : H a with
  | none => rfl
  | some o => rw [e a o q] at h; cases h
theorem Ex.rd {H H' : Hp} {a : Addr} {u : HO} (e : Ex H H') (h : Rd H a u) : Rd H' a u := Evl.ex_rd e h
theorem Ex.sl {K : PySem.W.Frag} {H H' : Hp} {a : Addr} {xs : List V} (e : Ex H H') (h : SqL K H a xs) : SqL K H' a xs := Evl.ex_l e h
theorem Ex.st {K : PySem.W.Frag} {H H' : Hp} {a : Addr} {xs : List V} (e : Ex H H') (h : SqT K H a xs) : SqT K H' a xs := Evl.ex_t e h

/-! ### data -/
section
variable (K : PySem.W.Frag) (G : Hp)
mutual
def Is : D → V → Prop
  | .non, v => v = .non
  | .bl b, v => v = .bl b
  | .int i, v => v = .int i
  | .str x, v => v = .str x
  | .tup ds, v => ∃ a xs, v = .ref a ∧ G a = some (.tup xs) ∧ IsL ds xs
  | .lst ds, v => ∃ a xs, v = .ref a ∧ G a = some (.lst xs) ∧ IsL ds xs
  | .sq ds, v => ∃ a xs, v = .ref a ∧ SqL K G a xs ∧ IsL ds xs
  | .dct ks ds, v => ∃ a kvs, v = .ref a ∧ G a = some (.dT kvs) ∧ kvs.map (·.1) = ks ∧ IsL ds (kvs.map (·.2))
  | .raw w, v => v = w
def IsL : List D → List V → Prop
  | [], xs => xs = []
  | d :: ds, xs => ∃ x r, xs = x :: r ∧ Is d x ∧ IsL ds r
end
end
section
variable {K : PySem.W.Frag} {G G' : Hp}
mutual
theorem Is.mono (e : Ex G G') : ∀ {d : D} {v : V}, Is K G d v → Is K G' d v
  | .non, _, h => h
  | .bl _, _, h => h
  | .int _, _, h => h
  | .str _, _, h => h
  | .tup ds, _, h => by
    obtain ⟨a, xs, e1, s, l⟩ := h
    exact ⟨a, xs, e1, e _ _ s, IsL.mono e l⟩
  | .lst ds, _, h => by
    obtain ⟨a, xs, e1, s, l⟩ := h
    exact ⟨a, xs, e1, e _ _ s, IsL.mono e l⟩
  | .sq ds, _, h => by
    obtain ⟨a, xs, e1, s, l⟩ := h
    exact ⟨a, xs, e1, e.sl s, IsL.mono e l⟩
  | .dct ks ds, _, h => by
    obtain ⟨a, kvs, e1, s, k, l⟩ := h
    exact ⟨a, kvs, e1, e _ _ s, k, IsL.mono e l⟩
  | .raw _, _, h => h
theorem IsL.mono (e : Ex G G') : ∀ {ds : List D} {xs : List V}, IsL K G ds xs → IsL K G' ds xs
  | [], _, h => h
  | d :: ds, _, h => by
    obtain ⟨x, r, e1, i, l⟩ := h
    exact ⟨x, r, e1, Is.mono e i, IsL.mono e l⟩
end
theorem IsL.len : ∀ {ds : List D} {xs : List V}, IsL K G ds xs → xs.length = ds.length
  | [], _, h => by cases h; rfl
  | d :: ds, _, h => by
    obtain ⟨x, r, e1, i, l⟩ := h
    subst e1
    simp [IsL.len l]
theorem IsL.nil : IsL K G [] [] := rfl
theorem IsL.cons {d : D} {x : V} {ds : List D} {xs : List V} (h : Is K G d x) (l : IsL K G ds xs) : IsL K G (d :: ds) (x :: xs) := ⟨x, xs, rfl, h, l⟩
theorem IsL.get : ∀ {ds : List D} {xs : List V} {i : Nat} {d : D}, IsL K G ds xs → ds[i]? = some d → ∃ x, xs[i]? = some x ∧ Is K G d x
  | [], _, i, d, h, e => by simp at e
  | c :: ds, _, 0, d, h, e => by
    obtain ⟨x, r, e1, i, l⟩ := h
    subst e1
    simp at e; subst e
    exact ⟨x, rfl, i⟩
  | c :: ds, _, i + 1, d, h, e => by
    obtain ⟨x, r, e1, _, l⟩ := h
    subst e1
    obtain ⟨y, h1, h2⟩ := IsL.get (i := i) l (by simpa using e)
    exact ⟨y, by simpa using h1, h2⟩
theorem IsL.getV : ∀ {ds : List D} {xs : List V} {i : Nat} {x : V}, IsL K G ds xs → xs[i]? = some x → ∃ d, ds[i]? = some d ∧ Is K G d x
  | [], _, i, x, h, e => by cases h; simp at e
  | c :: ds, _, 0, d, h, e => by
    obtain ⟨x, r, e1, i, l⟩ := h
    subst e1
    simp at e; subst e
    exact ⟨c, rfl, i⟩
  | c :: ds, _, i + 1, d, h, e => by
    obtain ⟨x, r, e1, _, l⟩ := h
    subst e1
    obtain ⟨y, h1, h2⟩ := IsL.getV (i := i) l (by simpa using e)
    exact ⟨y, by simpa using h1, h2⟩
theorem IsL.app : ∀ {ds es : List D} {xs ys : List V}, IsL K G ds xs → IsL K G es ys → IsL K G (ds ++ es) (xs ++ ys)
  | [], _, _, _, h, l => by cases h; exact l
  | d :: ds, _, _, _, h, l => by
    obtain ⟨x, r, e1, i, t⟩ := h
    subst e1
    exact ⟨x, _, rfl, i, IsL.app t l⟩
theorem IsL.set : ∀ {ds : List D} {xs : List V} (i : Nat) {d : D} {x : V}, IsL K G ds xs → Is K G d x → IsL K G (ds.set i d) (xs.set i x)
  | [], _, _, _, _, h, _ => by cases h; rfl
  | c :: ds, _, 0, d, x, h, g => by
    obtain ⟨y, r, e1, i, l⟩ := h
    subst e1
    exact ⟨x, r, rfl, g, l⟩
  | c :: ds, _, i + 1, d, x, h, g => by
    obtain ⟨y, r, e1, j, l⟩ := h
    subst e1
    exact ⟨y, _, rfl, j, IsL.set i l g⟩
theorem IsL.take : ∀ {ds : List D} {xs : List V} (n : Nat), IsL K G ds xs → IsL K G (ds.take n) (xs.take n)
  | _, _, 0, _ => by simp; rfl
  | [], _, n + 1, h => by cases h; simp; rfl
  | d :: ds, _, n + 1, h => by
    obtain ⟨x, r, e1, i, l⟩ := h
    subst e1
    exact ⟨x, _, rfl, i, IsL.take n l⟩
theorem IsL.drop : ∀ {ds : List D} {xs : List V} (n : Nat), IsL K G ds xs → IsL K G (ds.drop n) (xs.drop n)
  | _, _, 0, h => h
  | [], _, n + 1, h => by cases h; simp; rfl
  | d :: ds, _, n + 1, h => by
    obtain ⟨x, r, e1, i, l⟩ := h
    subst e1
    exact IsL.drop n l
theorem IsL.ints : ∀ {is : List Int} {xs : List V}, IsL K G (is.map D.int) xs → xs = is.map V.int
  | [], _, h => h
  | i :: is, _, h => by
    obtain ⟨x, r, e1, e2, l⟩ := h
    subst e1
    cases e2
    rw [IsL.ints l]
    rfl
theorem IsL.ofInts : ∀ (is : List Int), IsL K G (is.map D.int) (is.map V.int)
  | [] => rfl
  | i :: is => ⟨_, _, rfl, rfl, IsL.ofInts is⟩
theorem IsL.eraseIdx : ∀ {ds : List D} {xs : List V} (n : Nat), IsL K G ds xs → IsL K G (ds.eraseIdx n) (xs.eraseIdx n)
  | [], _, n, h => by cases h; simp; rfl
  | d :: ds, _, 0, h => by
    obtain ⟨x, r, e1, i, l⟩ := h
    subst e1
    exact l
  | d :: ds, _, n + 1, h => by
    obtain ⟨x, r, e1, i, l⟩ := h
    subst e1
    exact ⟨x, _, rfl, i, IsL.eraseIdx n l⟩
end

/-! ### what changes -/
inductive MO where
  | lst (ds : List D)
  | dct (m : List (List Key × D))
  | ins (C : Addr) (fs : List (Str × D))
  /-- the mixed dict -/
  | mix (P : Program) (w : World) (m : List (MK × D))
abbrev Mu := Addr → Option MO
def Mu.upd (μ : Mu) (a : Addr) (o : MO) : Mu := fun b => if b = a then some o else μ b
theorem Mu.upd_same {μ : Mu} {a : Addr} {o : MO} : μ.upd a o a = some o := if_pos rfl
theorem Mu.upd_ne {μ : Mu} {a b : Addr} {o : MO} (h : b ≠ a) : μ.upd a o b = μ b := if_neg h
def Mu.sub (μ μ' : Mu) : Prop := ∀ a o, μ a = some o → μ' a = some o
theorem Mu.sub.refl (μ : Mu) : μ.sub μ := fun _ _ h => h
theorem Mu.sub.trans {a b c : Mu} (h : a.sub b) (g : b.sub c) : a.sub c := fun x o e => g x o (h x o e)
theorem Mu.sub_upd {μ : Mu} {a : Addr} {o : MO} (h : μ a = none) : μ.sub (μ.upd a o) := fun b u e => by
  have : b ≠ a := fun z => by rw [z, h] at e; cases e
  rw [Mu.upd_ne this]; exact e
theorem Mu.sub_upd2 {μ ν : Mu} {a : Addr} {o : MO} (h : μ.sub ν) (n : μ a = none) : μ.sub (ν.upd a o) := fun b u e => by
  have : b ≠ a := fun z => by rw [z, n] at e; cases e
  rw [Mu.upd_ne this]; exact h b u e
theorem Mu.upd_sub {μ ν : Mu} {a : Addr} {o : MO} (h : μ.sub ν) : (μ.upd a o).sub (ν.upd a o) := fun b u e => by
  by_cases z : b = a
  · subst z; rw [Mu.upd_same] at e ⊢; exact e
  · rw [Mu.upd_ne z] at e ⊢; exact h b u e
theorem Mu.upd_upd {μ : Mu} {a : Addr} {o u : MO} : (μ.upd a o).upd a u = μ.upd a u := by
  funext b; unfold Mu.upd; split <;> rfl
theorem Mu.upd_comm {μ : Mu} {a b : Addr} {o u : MO} (h : a ≠ b) : (μ.upd a o).upd b u = (μ.upd b u).upd a o := by
  funext c; unfold Mu.upd
  by_cases h1 : c = b
  · subst h1; rw [if_pos rfl, if_neg (Ne.symm h), if_pos rfl]
  · rw [if_neg h1]; split <;> simp [h1]
theorem Mu.upd_id {μ : Mu} {a : Addr} {o : MO} (h : μ a = some o) : μ.upd a o = μ := by
  funext b; unfold Mu.upd; split
  · rename_i e; rw [e, h]
  · rfl

section
variable (K : PySem.W.Frag)
def FsIs (G : Hp) : List (Str × D) → List (Str × V) → Prop
  | [], gs => gs = []
  | (f, d) :: fs, gs => ∃ x r, gs = (f, x) :: r ∧ Is K G d x ∧ FsIs G fs r
def MsIs (G : Hp) : List (List Key × D) → List (List Key × V) → Prop
  | [], kvs => kvs = []
  | (k, d) :: m, kvs => ∃ x r, kvs = (k, x) :: r ∧ Is K G d x ∧ MsIs G m r
def XsIs (G : Hp) : List (MK × D) → KVs → Prop
  | [], kvs => kvs = []
  | (k, d) :: m, kvs => ∃ y x r, kvs = (k, y, x) :: r ∧ KeyH G k y ∧ Is K G d x ∧ XsIs G m r
def MoOk (G H : Hp) (a : Addr) : MO → Prop
  | .lst ds => ∃ xs, H a = some (.lst xs) ∧ IsL K G ds xs
  | .dct m => ∃ kvs, H a = some (.dT kvs) ∧ MsIs K G m kvs
  | .ins C fs => ∃ dx gs, H a = some (.ins C dx gs) ∧ FsIs K G fs gs
  | .mix P w m => ∃ kvs, H a = some (MixV P w a kvs) ∧ XsIs K G m kvs
def Sl (G : Hp) (σ : St) (ρ : List (Option D)) : Prop := σ.length = ρ.length ∧ ∀ (i : Nat) (d : D), ρ[i]? = some (some d) → ∃ v, σ[i]? = some (some v) ∧ Is K G d v
structure At (G0 H0 : Hp) (ρ : List (Option D)) (μ : Mu) (G H : Hp) (σ : St) : Prop where
  g : Ex G0 G
  gh : Ex G H
  h : Ex H0 H
  new : ∀ a, G a ≠ none → H0 a ≠ none → G0 a ≠ none
  sl : Sl K G σ ρ
  rep : ∀ a mo, μ a = some mo → G a = none ∧ H0 a = none ∧ MoOk K G H a mo
end
section
variable {K : PySem.W.Frag} {G G' H H' G0 H0 : Hp} {σ : St} {ρ : List (Option D)} {μ : Mu} {a : Addr}
theorem FsIs.mono (e : Ex G G') : ∀ {fs : List (Str × D)} {gs : List (Str × V)}, FsIs K G fs gs → FsIs K G' fs gs
  | [], _, h => h
  | (f, d) :: fs, _, h => by
    obtain ⟨x, r, e1, i, l⟩ := h
    exact ⟨x, r, e1, i.mono e, FsIs.mono e l⟩
theorem MsIs.mono (e : Ex G G') : ∀ {fs : List (List Key × D)} {gs : List (List Key × V)}, MsIs K G fs gs → MsIs K G' fs gs
  | [], _, h => h
  | (f, d) :: fs, _, h => by
    obtain ⟨x, r, e1, i, l⟩ := h
    exact ⟨x, r, e1, i.mono e, MsIs.mono e l⟩
theorem MsIs.len : ∀ {fs : List (List Key × D)} {gs : List (List Key × V)}, MsIs K G fs gs → gs.length = fs.length
  | [], _, h => by cases h; rfl
  | (f, d) :: fs, _, h => by
    obtain ⟨x, r, e1, i, l⟩ := h
    subst e1
    simp [MsIs.len l]
theorem FsIs.look : ∀ {fs : List (Str × D)} {gs : List (Str × V)} {f : Str} {d : D}, FsIs K G fs gs → fs.lookup f = some d → ∃ x, gs.lookup f = some x ∧ Is K G d x
  | [], _, f, d, h, e => by cases e
  | (g, c) :: fs, _, f, d, h, e => by
    obtain ⟨x, r, e1, i, l⟩ := h
    subst e1
    rw [List.lookup_cons] at e ⊢
    cases q : f == g with
    | true => rw [q] at e; cases e; exact ⟨x, rfl, i⟩
    | false => rw [q] at e; exact FsIs.look l e
theorem FsIs.none : ∀ {fs : List (Str × D)} {gs : List (Str × V)} {f : Str}, FsIs K G fs gs → fs.lookup f = none → gs.lookup f = none
  | [], _, f, h, e => by cases h; rfl
  | (g, c) :: fs, _, f, h, e => by
    obtain ⟨x, r, e1, i, l⟩ := h
    subst e1
    rw [List.lookup_cons] at e ⊢
    cases q : f == g with
    | true => rw [q] at e; cases e
    | false => rw [q] at e; exact FsIs.none l e
theorem FsIs.len : ∀ {fs : List (Str × D)} {gs : List (Str × V)}, FsIs K G fs gs → gs.length = fs.length
  | [], _, h => by cases h; rfl
  | (f, d) :: fs, _, h => by
    obtain ⟨x, r, e1, i, l⟩ := h
    subst e1
    simp [FsIs.len l]
/-- a field stored -/
def putD (f : Str) (d : D) : List (Str × D) → List (Str × D)
  | [] => [(f, d)]
  | (g, c) :: r => if f = g then (f, d) :: r else (g, c) :: putD f d r
theorem KeyH.mono {k : MK} {y : V} (e : Ex G G') (h : KeyH G k y) : KeyH G' k y := by
  cases k with
  | none => exact h
  | some ks => obtain ⟨b, h1, h2, h3⟩ := h; exact ⟨b, h1, e _ _ h2, h3⟩
theorem XsIs.mono (e : Ex G G') : ∀ {m : List (MK × D)} {kvs : KVs}, XsIs K G m kvs → XsIs K G' m kvs
  | [], _, h => h
  | (k, d) :: m, _, h => by
    obtain ⟨y, x, r, e1, hk, i, l⟩ := h
    exact ⟨y, x, r, e1, hk.mono e, i.mono e, XsIs.mono e l⟩
theorem MoOk.mono {mo : MO} (e : Ex G G') (eh : H' a = H a) (h : MoOk K G H a mo) : MoOk K G' H' a mo := by
  cases mo with
  | lst ds => obtain ⟨xs, h1, h2⟩ := h; exact ⟨xs, eh.trans h1, h2.mono e⟩
  | dct m => obtain ⟨xs, h1, h2⟩ := h; exact ⟨xs, eh.trans h1, h2.mono e⟩
  | ins C fs => obtain ⟨dx, xs, h1, h2⟩ := h; exact ⟨dx, xs, eh.trans h1, h2.mono e⟩
  | mix P w m => obtain ⟨kvs, h1, h2⟩ := h; exact ⟨kvs, eh.trans h1, h2.mono e⟩
theorem MoOk.there {mo : MO} (h : MoOk K G H a mo) : ∃ o, H a = some o := by
  cases mo with
  | lst ds => obtain ⟨xs, h1, h2⟩ := h; exact ⟨_, h1⟩
  | dct m => obtain ⟨xs, h1, h2⟩ := h; exact ⟨_, h1⟩
  | ins C fs => obtain ⟨dx, xs, h1, h2⟩ := h; exact ⟨_, h1⟩
  | mix P w m => obtain ⟨kvs, h1, h2⟩ := h; exact ⟨_, h1⟩
theorem Sl.mono (e : Ex G G') (h : Sl K G σ ρ) : Sl K G' σ ρ := ⟨h.1, fun i d q => let ⟨v, h1, h2⟩ := h.2 i d q; ⟨v, h1, h2.mono e⟩⟩
theorem Sl.set {i : Nat} {d : D} {v : V} (h : Sl K G σ ρ) (g : Is K G d v) : Sl K G (σ.set i (some v)) (ρ.set i (some d)) := by
  refine ⟨by rw [List.length_set, List.length_set]; exact h.1, fun j e q => ?_⟩
  by_cases hj : i = j
  · subst hj
    by_cases hl : i < ρ.length
    · rw [List.getElem?_set_self hl] at q
      cases q
      exact ⟨v, List.getElem?_set_self (by rw [h.1]; exact hl), g⟩
    · rw [List.getElem?_eq_none (by rw [List.length_set]; omega)] at q; cases q
  · rw [List.getElem?_set_ne hj] at q ⊢
    exact h.2 j e q
theorem Sl.unset {i : Nat} (h : Sl K G σ ρ) : Sl K G (σ.set i none) (ρ.set i none) := by
  refine ⟨by rw [List.length_set, List.length_set]; exact h.1, fun j e q => ?_⟩
  by_cases hj : i = j
  · subst hj
    by_cases hl : i < ρ.length
    · rw [List.getElem?_set_self hl] at q
      cases q
    · rw [List.getElem?_eq_none (by rw [List.length_set]; omega)] at q; cases q
  · rw [List.getElem?_set_ne hj] at q ⊢
    exact h.2 j e q
def wipeR (ρ : List (Option D)) : List Nat → List (Option D)
  | [] => ρ
  | v :: vs => (wipeR ρ vs).set v none
theorem Sl.wipe (h : Sl K G σ ρ) : ∀ vs : List Nat, Sl K G (L2.wipe σ vs) (wipeR ρ vs)
  | [] => h
  | v :: vs => (Sl.wipe h vs).unset
theorem Sl.nil : Sl K G [] [] := ⟨rfl, fun _ _ q => by simp at q⟩
def startR (n : Nat) (ds : List D) : List (Option D) := ds.map some ++ List.replicate (n - ds.length) none
theorem Sl.start {N : List Str} {ds : List D} {vs : List V} (h : IsL K G ds vs) : Sl K G (L2.start N vs) (startR N.length ds) := by
  have hl := h.len
  refine ⟨by simp [L2.start, startR, hl], fun i d q => ?_⟩
  unfold startR at q
  by_cases hi : i < ds.length
  · rw [List.getElem?_append_left (by simpa using hi), List.getElem?_map] at q
    cases e : ds[i]? with
    | none => rw [e] at q; cases q
    | some c =>
      rw [e] at q; cases q
      obtain ⟨x, h1, h2⟩ := h.get e
      refine ⟨x, ?_, h2⟩
      unfold L2.start
      rw [List.getElem?_append_left (by simp [hl]; exact hi), List.getElem?_map, h1]
      rfl
  · rw [List.getElem?_append_right (by simpa using hi), List.getElem?_replicate] at q
    split at q <;> cases q
theorem At.ofSl {σ' : St} {ρ' : List (Option D)} (h : At K G0 H0 ρ μ G H σ) (s : Sl K G σ' ρ') : At K G0 H0 ρ' μ G H σ' := ⟨h.g, h.gh, h.h, h.new, s, h.rep⟩
theorem At.drop {μ' : Mu} (h : At K G0 H0 ρ μ G H σ) (s : μ'.sub μ) : At K G0 H0 ρ μ' G H σ := ⟨h.g, h.gh, h.h, h.new, h.sl, fun a mo e => h.rep a mo (s a mo e)⟩
/-- only new things, some of them data -/
theorem At.step (h : At K G0 H0 ρ μ G H σ) (eg : Ex G G') (eh : Ex H H') (gh : Ex G' H') (new : ∀ a, G' a ≠ none → H a ≠ none → G a ≠ none) : At K G0 H0 ρ μ G' H' σ where
  g := h.g.trans eg
  gh := gh
  h := h.h.trans eh
  new := fun a x y => h.new a (new a x (h.h.nn y)) y
  sl := h.sl.mono eg
  rep := fun a mo e => by
    obtain ⟨r1, r2, r3⟩ := h.rep a mo e
    obtain ⟨o, ho⟩ := r3.there
    have hn : H a ≠ none := by rw [ho]; simp
    refine ⟨?_, r2, r3.mono eg ((eh a o ho).trans ho.symm)⟩
    cases q : G' a with
    | none => rfl
    | some u => exact absurd r1 (new a (by rw [q]; simp) hn)
/-- a new thing as data -/
theorem At.laid {p : Addr} {o : HO} (h : At K G0 H0 ρ μ G H σ) (n : H p = none) : At K G0 H0 ρ μ (upd G p o) (upd H p o) σ := by
  have gn : G p = none := h.gh.off n
  refine h.step (Ex.new gn) (Ex.new n) (fun a u e => ?_) (fun a x y => ?_)
  · by_cases z : a = p
    · subst z; rw [L2.upd_same] at e ⊢; exact e
    · rw [L2.upd_ne z] at e ⊢; exact h.gh a u e
  · have z : a ≠ p := fun z => by subst z; exact y n
    rw [L2.upd_ne z] at x; exact x
/-- a new thing that may change -/
theorem At.fresh {p : Addr} {o : HO} {mo : MO} (h : At K G0 H0 ρ μ G H σ) (n : H p = none) (m : MoOk K G (upd H p o) p mo) : At K G0 H0 ρ (μ.upd p mo) G (upd H p o) σ := by
  have gn : G p = none := h.gh.off n
  have h1 : At K G0 H0 ρ μ G (upd H p o) σ := h.step (Ex.refl _) (Ex.new n) (h.gh.trans (Ex.new n)) (fun a x _ => x)
  refine ⟨h1.g, h1.gh, h1.h, h1.new, h1.sl, fun a x e => ?_⟩
  by_cases z : a = p
  · subst z; rw [Mu.upd_same] at e; cases e
    exact ⟨gn, h.h.off n, m⟩
  · rw [Mu.upd_ne z] at e; exact h1.rep a x e
theorem At.muNone {p : Addr} (h : At K G0 H0 ρ μ G H σ) (n : H p = none) : μ p = none := by
  cases q : μ p with
  | none => rfl
  | some mo =>
    obtain ⟨o, ho⟩ := (h.rep p mo q).2.2.there
    rw [n] at ho; cases ho
/-- a thing changes -/
theorem At.write {p : Addr} {o : HO} {mo mo' : MO} (h : At K G0 H0 ρ μ G H σ) (e : μ p = some mo) (m : MoOk K G (upd H p o) p mo') : At K G0 H0 ρ (μ.upd p mo') G (upd H p o) σ := by
  obtain ⟨r1, r2, r3⟩ := h.rep p mo e
  have ne : ∀ {X : Hp} {b u}, X b = some u → X p = none → b ≠ p := fun {X b u} q n z => by subst z; rw [n] at q; cases q
  refine ⟨h.g, fun a u q => by rw [L2.upd_ne (ne q r1)]; exact h.gh a u q, fun a u q => by rw [L2.upd_ne (ne q r2)]; exact h.h a u q, h.new, h.sl, fun a x q => ?_⟩
  by_cases z : a = p
  · subst z; rw [Mu.upd_same] at q; cases q
    exact ⟨r1, r2, m⟩
  · rw [Mu.upd_ne z] at q
    obtain ⟨s1, s2, s3⟩ := h.rep a x q
    exact ⟨s1, s2, s3.mono (Ex.refl _) (L2.upd_ne z)⟩
/-- a list that changes no more -/
theorem At.freezeL {p : Addr} {ds : List D} (h : At K G0 H0 ρ μ G H σ) (e : μ p = some (.lst ds)) : ∃ G', Ex G G' ∧ Is K G' (.lst ds) (.ref p) ∧ At K G0 H0 ρ (fun b => if b = p then none else μ b) G' H σ := by
  obtain ⟨r1, r2, xs, r3, r4⟩ := h.rep p _ e
  have eg : Ex G (upd G p (.lst xs)) := Ex.new r1
  refine ⟨upd G p (.lst xs), eg, ⟨p, xs, rfl, L2.upd_same, r4.mono eg⟩, h.g.trans eg, fun a u q => ?_, h.h, fun a x y => ?_, h.sl.mono eg, fun a mo q => ?_⟩
  · by_cases z : a = p
    · subst z; rw [L2.upd_same] at q; cases q; exact r3
    · rw [L2.upd_ne z] at q; exact h.gh a u q
  · by_cases z : a = p
    · subst z; exact absurd r2 y
    · rw [L2.upd_ne z] at x; exact h.new a x y
  · have z : a ≠ p := fun z => by
      have q' : (if a = p then none else μ a) = some mo := q
      rw [if_pos z] at q'; cases q'
    have q' : (if a = p then none else μ a) = some mo := q
    rw [if_neg z] at q'
    obtain ⟨s1, s2, s3⟩ := h.rep a mo q'
    exact ⟨by rw [L2.upd_ne z]; exact s1, s2, s3.mono eg rfl⟩
theorem MsIs.split : ∀ {m : List (List Key × D)} {kvs : List (List Key × V)}, MsIs K G m kvs → kvs.map (·.1) = m.map (·.1) ∧ IsL K G (m.map (·.2)) (kvs.map (·.2))
  | [], _, h => by cases h; exact ⟨rfl, rfl⟩
  | (k, d) :: m, _, h => by
    obtain ⟨x, r, e1, i, l⟩ := h
    subst e1
    obtain ⟨h1, h2⟩ := MsIs.split l
    exact ⟨by simp [h1], ⟨x, _, rfl, i, h2⟩⟩
/-- a dict that changes no more -/
theorem At.freezeD {p : Addr} {m : List (List Key × D)} (h : At K G0 H0 ρ μ G H σ) (e : μ p = some (.dct m)) : ∃ G', Ex G G' ∧ Is K G' (.dct (m.map (·.1)) (m.map (·.2))) (.ref p) ∧ At K G0 H0 ρ (fun b => if b = p then none else μ b) G' H σ := by
  obtain ⟨r1, r2, kvs, r3, r4⟩ := h.rep p _ e
  obtain ⟨w1, w2⟩ := r4.split
  have eg : Ex G (upd G p (.dT kvs)) := Ex.new r1
  refine ⟨upd G p (.dT kvs), eg, ⟨p, kvs, rfl, L2.upd_same, w1, w2.mono eg⟩, h.g.trans eg, fun a u q => ?_, h.h, fun a x y => ?_, h.sl.mono eg, fun a mo q => ?_⟩
  · by_cases z : a = p
    · subst z; rw [L2.upd_same] at q; cases q; exact r3
    · rw [L2.upd_ne z] at q; exact h.gh a u q
  · by_cases z : a = p
    · subst z; exact absurd r2 y
    · rw [L2.upd_ne z] at x; exact h.new a x y
  · have z : a ≠ p := fun z => by
      have q' : (if a = p then none else μ a) = some mo := q
      rw [if_pos z] at q'; cases q'
    have q' : (if a = p then none else μ a) = some mo := q
    rw [if_neg z] at q'
    obtain ⟨s1, s2, s3⟩ := h.rep a mo q'
    exact ⟨by rw [L2.upd_ne z]; exact s1, s2, s3.mono eg rfl⟩
end
end Hw
set_option Elab.async false
set_option linter.all false
set_option maxRecDepth 100000
set_option maxHeartbeats 4000000
/-! The calculus' rules: expressions. -/
namespace Hw
open PySem PySem.Spec L2

/-! ### tables -/
section
variable {κ α : Type} [DecidableEq κ]
def look (m : List (κ × α)) (k : κ) : Option α := (m.find? fun p => decide (p.1 = k)).map (·.2)
def put (m : List (κ × α)) (k : κ) (y : α) : List (κ × α) :=
  if (m.any fun p => decide (p.1 = k)) = true then m.map (fun p => if p.1 = k then (p.1, y) else p) else m ++ [(k, y)]
def dropM (m : List (κ × α)) (k : κ) : List (κ × α) := m.filter fun p => decide (p.1 ≠ k)
theorem look_nil {k : κ} : look ([] : List (κ × α)) k = none := rfl
theorem look_pos {p : κ × α} {r : List (κ × α)} {k : κ} (e : p.1 = k) : look (p :: r) k = some p.2 := by simp [look, List.find?_cons, e]
theorem look_neg {p : κ × α} {r : List (κ × α)} {k : κ} (e : ¬ p.1 = k) : look (p :: r) k = look r k := by simp [look, List.find?_cons, e]
theorem look_any (k : κ) : ∀ m : List (κ × α), (m.any fun p => decide (p.1 = k)) = (look m k).isSome
  | [] => rfl
  | p :: r => by
    rw [List.any_cons]
    by_cases e : p.1 = k
    · rw [look_pos e, decide_eq_true e]; rfl
    · rw [look_neg e, decide_eq_false e, look_any k r]; rfl
theorem look_map (k j : κ) (y : α) : ∀ m : List (κ × α), look (m.map fun p => if p.1 = k then (p.1, y) else p) j = (look m j).map fun x => if j = k then y else x
  | [] => rfl
  | p :: r => by
    rw [List.map_cons]
    by_cases e : p.1 = j
    · rw [look_pos (p := p) e]
      by_cases e2 : p.1 = k
      · rw [if_pos e2, look_pos (p := (p.1, y)) e]
        show some y = some (if j = k then y else p.2)
        rw [if_pos (e ▸ e2)]
      · rw [if_neg e2, look_pos e]
        show some p.2 = some (if j = k then y else p.2)
        rw [if_neg (e ▸ e2)]
    · have e3 : ¬ (if p.1 = k then (p.1, y) else p).1 = j := by split <;> exact e
      rw [look_neg e3, look_neg e]
      exact look_map k j y r
theorem look_snoc (k j : κ) (y : α) : ∀ m : List (κ × α), look m k = none → look (m ++ [(k, y)]) j = if j = k then some y else look m j
  | [], _ => by
    show look [(k, y)] j = _
    by_cases e : j = k
    · rw [if_pos e, look_pos (p := (k, y)) e.symm]
    · rw [if_neg e, look_neg (p := (k, y)) (fun z => e z.symm)]
  | p :: r, h => by
    have hk : ¬ p.1 = k := fun e => by rw [look_pos e] at h; cases h
    rw [look_neg hk] at h
    rw [List.cons_append]
    by_cases e : p.1 = j
    · rw [look_pos e, look_pos e, if_neg (fun z => hk (e.trans z))]
    · rw [look_neg e, look_neg e]; exact look_snoc k j y r h
theorem look_put (m : List (κ × α)) (k j : κ) (y : α) : look (put m k y) j = if j = k then some y else look m j := by
  unfold put
  rw [look_any]
  cases q : look m k with
  | none => exact look_snoc k j y m q
  | some x =>
    rw [Option.isSome_some, if_pos rfl, look_map]
    by_cases e : j = k
    · rw [e, q, if_pos rfl, Option.map_some, if_pos rfl]
    · rw [if_neg e]
      simp [if_neg e]
theorem look_drop (k j : κ) : ∀ m : List (κ × α), look (dropM m k) j = if j = k then none else look m j
  | [] => by simp [dropM, look]
  | p :: r => by
    have ih := look_drop k j r
    unfold dropM at ih ⊢
    rw [List.filter_cons]
    by_cases e : p.1 = k
    · rw [if_neg (by simp [e]), ih]
      by_cases e2 : j = k
      · rw [if_pos e2, if_pos e2]
      · rw [if_neg e2, if_neg e2, look_neg (fun z => e2 (z.symm.trans e))]
    · rw [if_pos (by simp [e])]
      by_cases e2 : p.1 = j
      · rw [look_pos e2, look_pos e2, if_neg (fun z => e (e2.trans z))]
      · rw [look_neg e2, look_neg e2, ih]
theorem put_len (m : List (κ × α)) (k : κ) (y : α) : (put m k y).length ≤ m.length + 1 := by
  unfold put
  split
  · rw [List.length_map]; omega
  · rw [List.length_append]; exact Nat.le_refl _
theorem drop_len (m : List (κ × α)) (k : κ) : (dropM m k).length ≤ m.length := List.length_filter_le _ _
theorem put_keys (m : List (κ × α)) (k : κ) (y : α) : (put m k y).map (·.1) = if k ∈ m.map (·.1) then m.map (·.1) else m.map (·.1) ++ [k] := by
  unfold put
  have h : (m.any fun p => decide (p.1 = k)) = true ↔ k ∈ m.map (·.1) := by
    rw [List.any_eq_true, List.mem_map]
    constructor
    · rintro ⟨p, h1, h2⟩; exact ⟨p, h1, of_decide_eq_true h2⟩
    · rintro ⟨p, h1, h2⟩; exact ⟨p, h1, decide_eq_true h2⟩
  by_cases hk : k ∈ m.map (·.1)
  · rw [if_pos (h.mpr hk), if_pos hk, List.map_map]
    refine List.map_congr_left fun p _ => ?_
    show (if p.1 = k then (p.1, y) else p).1 = p.1
    split <;> rfl
  · rw [if_neg (fun z => hk (h.mp z)), if_neg hk, List.map_append]; rfl
theorem put_nodup {m : List (κ × α)} {k : κ} {y : α} (h : (m.map (·.1)).Nodup) : ((put m k y).map (·.1)).Nodup := by
  rw [put_keys]
  split
  · exact h
  · rename_i hk
    refine List.nodup_append.mpr ⟨h, List.nodup_cons.mpr ⟨by simp, List.nodup_nil⟩, fun a ha b hb e => ?_⟩
    rw [List.mem_singleton] at hb
    exact hk (hb ▸ e ▸ ha)
theorem look_mem {m : List (κ × α)} {k : κ} {y : α} (h : look m k = some y) : (k, y) ∈ m := by
  unfold look at h
  cases e : m.find? fun p => decide (p.1 = k) with
  | none => rw [e] at h; cases h
  | some p =>
    rw [e] at h
    have h1 := List.find?_some e
    have h2 := List.mem_of_find?_eq_some e
    have h3 : p.2 = y := Option.some.inj h
    have h4 : p.1 = k := of_decide_eq_true h1
    rw [← h3, ← h4]; exact h2
theorem look_of_mem : ∀ {m : List (κ × α)} {k : κ} {y : α}, (m.map (·.1)).Nodup → (k, y) ∈ m → look m k = some y
  | [], _, _, _, h => by cases h
  | p :: r, k, y, nd, h => by
    rw [List.map_cons, List.nodup_cons] at nd
    rcases List.mem_cons.mp h with e | e
    · subst e; exact look_pos rfl
    · have : ¬ p.1 = k := fun z => nd.1 (by rw [z]; exact List.mem_map.mpr ⟨_, e, rfl⟩)
      rw [look_neg this]; exact look_of_mem nd.2 e
theorem look_keys {m : List (κ × α)} {k : κ} : (look m k).isSome = true ↔ k ∈ m.map (·.1) := by
  rw [← look_any, List.any_eq_true, List.mem_map]
  constructor
  · rintro ⟨p, h1, h2⟩; exact ⟨p, h1, of_decide_eq_true h2⟩
  · rintro ⟨p, h1, h2⟩; exact ⟨p, h1, decide_eq_true h2⟩
end
def keyD : Key → D
  | .inl i => .int i
  | .inr x => .str x
def keyOf : D → Option Key
  | .int i => some (.inl i)
  | .str x => some (.inr x)
  | _ => none
def keysL : List D → Option (List Key)
  | [] => some []
  | d :: ds => match keyOf d, keysL ds with
    | some k, some ks => some (k :: ks)
    | _, _ => none
def keysOf : D → Option (List Key)
  | .tup ds => keysL ds
  | _ => none
section
variable {K : PySem.W.Frag} {G G' H H' G0 H0 : Hp} {σ : L2.St} {ρ : List (Option D)} {μ : Mu} {a : Addr}
theorem keyOf_ok {d : D} {k : Key} {v : V} (e : keyOf d = some k) (h : Is K G d v) : v = kV k := by
  cases d <;> first | cases e | skip
  · cases h; rfl
  · cases h; rfl
theorem keysL_ok : ∀ {ds : List D} {k : List Key} {xs : List V}, keysL ds = some k → IsL K G ds xs → xs = k.map kV
  | [], _, _, e, h => by cases e; cases h; rfl
  | d :: ds, k, _, e, h => by
    obtain ⟨x, r, e1, i, l⟩ := h
    subst e1
    unfold keysL at e
    cases q : keyOf d with
    | none => rw [q] at e; cases e
    | some c =>
      cases p : keysL ds with
      | none => rw [q, p] at e; cases e
      | some cs =>
        rw [q, p] at e; cases e
        rw [keyOf_ok q i, keysL_ok p l]; rfl
theorem keysOf_ok {d : D} {k : List Key} {v : V} (e : keysOf d = some k) (h : Is K G d v) : ∃ b, v = .ref b ∧ G b = some (.tup (k.map kV)) := by
  cases d <;> first | cases e | skip
  obtain ⟨b, xs, e1, e2, l⟩ := h
  exact ⟨b, e1, by rw [e2, keysL_ok e l]⟩
theorem MsIs.look {k : List Key} : ∀ {m : List (List Key × D)} {kvs : List (List Key × V)}, MsIs K G m kvs → ∀ {d}, look m k = some d → ∃ x, valV kvs k = some x ∧ Is K G d x
  | [], _, h, d, e => by cases e
  | (c, d') :: m, _, h, d, e => by
    obtain ⟨x, r, e1, i, l⟩ := h
    subst e1
    by_cases q : c = k
    · rw [look_pos (p := (c, d')) q] at e; cases e
      exact ⟨x, valV_pos (p := (c, x)) q, i⟩
    · rw [look_neg (p := (c, d')) q] at e
      obtain ⟨y, h1, h2⟩ := MsIs.look l e
      exact ⟨y, by rw [valV_neg (p := (c, x)) q]; exact h1, h2⟩
theorem MsIs.lookN {k : List Key} : ∀ {m : List (List Key × D)} {kvs : List (List Key × V)}, MsIs K G m kvs → Hw.look m k = none → valV kvs k = none
  | [], _, h, e => by cases h; rfl
  | (c, d') :: m, _, h, e => by
    obtain ⟨x, r, e1, i, l⟩ := h
    subst e1
    by_cases q : c = k
    · rw [look_pos (p := (c, d')) q] at e; cases e
    · rw [look_neg (p := (c, d')) q] at e
      rw [valV_neg (p := (c, x)) q]; exact MsIs.lookN l e
theorem MsIs.any {k : List Key} : ∀ {m : List (List Key × D)} {kvs : List (List Key × V)}, MsIs K G m kvs → (kvs.any fun p => decide (p.1 = k)) = (m.any fun p => decide (p.1 = k))
  | [], _, h => by cases h; rfl
  | (c, d') :: m, _, h => by
    obtain ⟨x, r, e1, i, l⟩ := h
    subst e1
    rw [List.any_cons, List.any_cons, MsIs.any l]
theorem MsIs.map {k : List Key} {d : D} {y : V} (hd : Is K G d y) : ∀ {m : List (List Key × D)} {kvs : List (List Key × V)}, MsIs K G m kvs → MsIs K G (m.map fun p => if p.1 = k then (p.1, d) else p) (kvs.map fun p => if p.1 = k then (p.1, y) else p)
  | [], _, h => by cases h; rfl
  | (c, d') :: m, _, h => by
    obtain ⟨x, r, e1, i, l⟩ := h
    subst e1
    rw [List.map_cons, List.map_cons]
    by_cases q : c = k
    · rw [if_pos q, if_pos q]; exact ⟨y, _, rfl, hd, MsIs.map hd l⟩
    · rw [if_neg q, if_neg q]; exact ⟨x, _, rfl, i, MsIs.map hd l⟩
theorem MsIs.snoc {k : List Key} {d : D} {y : V} (hd : Is K G d y) : ∀ {m : List (List Key × D)} {kvs : List (List Key × V)}, MsIs K G m kvs → MsIs K G (m ++ [(k, d)]) (kvs ++ [(k, y)])
  | [], _, h => by cases h; exact ⟨y, [], rfl, hd, rfl⟩
  | (c, d') :: m, _, h => by
    obtain ⟨x, r, e1, i, l⟩ := h
    subst e1
    exact ⟨x, _, rfl, i, MsIs.snoc hd l⟩
theorem MsIs.put {k : List Key} {d : D} {y : V} {m : List (List Key × D)} {kvs : List (List Key × V)} (h : MsIs K G m kvs) (hd : Is K G d y) : MsIs K G (Hw.put m k d) (putK kvs k y) := by
  unfold Hw.put putK
  rw [h.any]
  split
  · exact h.map hd
  · exact h.snoc hd
theorem MsIs.drop {k : List Key} : ∀ {m : List (List Key × D)} {kvs : List (List Key × V)}, MsIs K G m kvs → MsIs K G (dropM m k) (dropK kvs k)
  | [], _, h => by cases h; rfl
  | (c, d') :: m, _, h => by
    obtain ⟨x, r, e1, i, l⟩ := h
    subst e1
    unfold dropM dropK
    rw [List.filter_cons, List.filter_cons]
    by_cases q : c = k
    · rw [if_neg (by simp [q]), if_neg (by simp [q])]; exact MsIs.drop l
    · rw [if_pos (by simp [q]), if_pos (by simp [q])]; exact ⟨x, _, rfl, i, MsIs.drop l⟩
theorem MsIs.of : ∀ {ks : List (List Key)} {ds : List D} {kvs : List (List Key × V)}, kvs.map (·.1) = ks → IsL K G ds (kvs.map (·.2)) → MsIs K G (ks.zip ds) kvs
  | ks, ds, [], e, h => by
    subst e; rfl
  | ks, [], (k, x) :: r, e, h => by cases h
  | ks, d :: ds, (k, x) :: r, e, h => by
    subst e
    obtain ⟨y, q, e1, i, l⟩ := h
    cases e1
    exact ⟨x, r, rfl, i, MsIs.of rfl l⟩
end

/-! ### judgements -/
section
variable (K : PySem.W.Frag)
def WE (te : TE) (ρ : List (Option D)) (μ : Mu) (P : D → Mu → Prop) : Prop := ∀ (G0 H0 G H : Hp) (σ : L2.St), At K G0 H0 ρ μ G H σ → ∀ Q : VK,
  (∀ v d μ' G' H', P d μ' → Ex G G' → At K G0 H0 ρ μ' G' H' σ → Is K G' d v → Q v H') → te σ H Q
def WT (tt : TT) (ρ : List (Option D)) (μ : Mu) (P : Bool → Mu → Prop) : Prop := ∀ (G0 H0 G H : Hp) (σ : L2.St), At K G0 H0 ρ μ G H σ → ∀ Q : Bool → Hp → Prop,
  (∀ b μ' G' H', P b μ' → Ex G G' → At K G0 H0 ρ μ' G' H' σ → Q b H') → tt σ H Q
def WA (ta : TA) (ρ : List (Option D)) (μ : Mu) (P : List D → Mu → Prop) : Prop := ∀ (G0 H0 G H : Hp) (σ : L2.St), At K G0 H0 ρ μ G H σ → ∀ Q : List V → Hp → Prop,
  (∀ vs ds μ' G' H', P ds μ' → Ex G G' → At K G0 H0 ρ μ' G' H' σ → IsL K G' ds vs → Q vs H') → ta σ H Q
/-- an operation by values -/
def RO (r : R2) (x y : D) (μ : Mu) (P : D → Mu → Prop) : Prop := ∀ (G0 H0 G H : Hp) (ρ : List (Option D)) (σ : L2.St) (v u : V), At K G0 H0 ρ μ G H σ → Is K G x v → Is K G y u → ∀ Q : VK,
  (∀ v d μ' G' H', P d μ' → Ex G G' → At K G0 H0 ρ μ' G' H' σ → Is K G' d v → Q v H') → r v u H Q
/-- a call by values -/
def RB (r : List V → Hp → VK → Prop) (ds : List D) (μ : Mu) (P : D → Mu → Prop) : Prop := ∀ (G0 H0 G H : Hp) (ρ : List (Option D)) (σ : L2.St) (vs : List V), At K G0 H0 ρ μ G H σ → IsL K G ds vs → ∀ Q : VK,
  (∀ v d μ' G' H', P d μ' → Ex G G' → At K G0 H0 ρ μ' G' H' σ → Is K G' d v → Q v H') → r vs H Q
/-- a method by values -/
def RM (r : V → List V → Hp → VK → Prop) (o : D) (ds : List D) (μ : Mu) (P : D → Mu → Prop) : Prop := ∀ (G0 H0 G H : Hp) (ρ : List (Option D)) (σ : L2.St) (w : V) (vs : List V), At K G0 H0 ρ μ G H σ → Is K G o w → IsL K G ds vs → ∀ Q : VK,
  (∀ v d μ' G' H', P d μ' → Ex G G' → At K G0 H0 ρ μ' G' H' σ → Is K G' d v → Q v H') → r w vs H Q
abbrev Ev (te : TE) (ρ : List (Option D)) (μ : Mu) (d : D) : Prop := WE K te ρ μ fun d' μ' => d' = d ∧ μ' = μ
abbrev EvT (tt : TT) (ρ : List (Option D)) (μ : Mu) (b : Bool) : Prop := WT K tt ρ μ fun b' μ' => b' = b ∧ μ' = μ
abbrev EvA (ta : TA) (ρ : List (Option D)) (μ : Mu) (ds : List D) : Prop := WA K ta ρ μ fun d' μ' => d' = ds ∧ μ' = μ
end
/-- a list: data or a cell -/
def LstIn (μ : Mu) (d : D) (ds : List D) : Prop := d = .lst ds ∨ ∃ a, d = .raw (.ref a) ∧ μ a = some (.lst ds)
def SqIn (μ : Mu) (d : D) (ds : List D) : Prop := d = .tup ds ∨ d = .sq ds ∨ LstIn μ d ds
def DctIn (μ : Mu) (d : D) (m : List (List Key × D)) : Prop := (∃ ks ds, d = .dct ks ds ∧ m = ks.zip ds) ∨ ∃ a, d = .raw (.ref a) ∧ μ a = some (.dct m)
section
variable {K : PySem.W.Frag} {G G' H H' G0 H0 : Hp} {σ : L2.St} {ρ : List (Option D)} {μ : Mu} {a : Addr} {te ta tb : TE} {P : D → Mu → Prop} {x y z d : D} {r : R2}
theorem At.lst {ds : List D} {v : V} (A : At K G0 H0 ρ μ G H σ) (h : LstIn μ d ds) (i : Is K G d v) : ∃ a xs, v = .ref a ∧ H a = some (.lst xs) ∧ IsL K G ds xs := by
  rcases h with e | ⟨a, e, m⟩
  · subst e
    obtain ⟨a, xs, e1, e2, l⟩ := i
    exact ⟨a, xs, e1, A.gh _ _ e2, l⟩
  · subst e
    obtain ⟨_, _, xs, h1, h2⟩ := A.rep a _ m
    exact ⟨a, xs, i, h1, h2⟩
theorem At.dct {m : List (List Key × D)} {v : V} (A : At K G0 H0 ρ μ G H σ) (h : DctIn μ d m) (i : Is K G d v) : ∃ a kvs, v = .ref a ∧ H a = some (.dT kvs) ∧ MsIs K G m kvs := by
  rcases h with ⟨ks, ds, e, em⟩ | ⟨a, e, m⟩
  · subst e em
    obtain ⟨a, kvs, e1, e2, k, l⟩ := i
    exact ⟨a, kvs, e1, A.gh _ _ e2, MsIs.of k l⟩
  · subst e
    obtain ⟨_, _, xs, h1, h2⟩ := A.rep a _ m
    exact ⟨a, xs, i, h1, h2⟩
theorem At.sq {ds : List D} {v : V} (A : At K G0 H0 ρ μ G H σ) (h : SqIn μ d ds) (i : Is K G d v) : ∃ a xs, v = .ref a ∧ (SqL K H a xs ∨ SqT K H a xs) ∧ IsL K G ds xs := by
  rcases h with e | e | e
  · subst e
    obtain ⟨a, xs, e1, e2, l⟩ := i
    exact ⟨a, xs, e1, .inr (SqT.of (A.gh _ _ e2)), l⟩
  · subst e
    obtain ⟨a, xs, e1, e2, l⟩ := i
    exact ⟨a, xs, e1, .inl (A.gh.sl e2), l⟩
  · obtain ⟨a, xs, e1, e2, l⟩ := A.lst e i
    exact ⟨a, xs, e1, .inl (SqL.of e2), l⟩
theorem WE.imp {P' : D → Mu → Prop} (h : WE K te ρ μ P) (f : ∀ d μ', P d μ' → P' d μ') : WE K te ρ μ P' := fun G0 H0 G H σ A Q q => h G0 H0 G H σ A Q fun v d μ' G' H' p => q v d μ' G' H' (f _ _ p)
theorem WT.imp {tt : TT} {P P' : Bool → Mu → Prop} (h : WT K tt ρ μ P) (f : ∀ d μ', P d μ' → P' d μ') : WT K tt ρ μ P' := fun G0 H0 G H σ A Q q => h G0 H0 G H σ A Q fun d μ' G' H' p => q d μ' G' H' (f _ _ p)
theorem WA.imp {ta : TA} {P P' : List D → Mu → Prop} (h : WA K ta ρ μ P) (f : ∀ d μ', P d μ' → P' d μ') : WA K ta ρ μ P' := fun G0 H0 G H σ A Q q => h G0 H0 G H σ A Q fun v d μ' G' H' p => q v d μ' G' H' (f _ _ p)
theorem Ev.go (h : Ev K te ρ μ d) (p : P d μ) : WE K te ρ μ P := WE.imp h fun _ _ e => by obtain ⟨rfl, rfl⟩ := e; exact p
theorem EvT.go {tt : TT} {b : Bool} {P : Bool → Mu → Prop} (h : EvT K tt ρ μ b) (p : P b μ) : WT K tt ρ μ P := WT.imp h fun _ _ e => by obtain ⟨rfl, rfl⟩ := e; exact p
theorem EvA.go {ta : TA} {ds : List D} {P : List D → Mu → Prop} (h : EvA K ta ρ μ ds) (p : P ds μ) : WA K ta ρ μ P := WA.imp h fun _ _ e => by obtain ⟨rfl, rfl⟩ := e; exact p
theorem RO.imp {P' : D → Mu → Prop} (h : RO K r x y μ P) (f : ∀ d μ', P d μ' → P' d μ') : RO K r x y μ P' := fun G0 H0 G H ρ σ v u A i j Q q => h G0 H0 G H ρ σ v u A i j Q fun v d μ' G' H' p => q v d μ' G' H' (f _ _ p)
theorem RB.imp {r : List V → Hp → VK → Prop} {ds : List D} {P' : D → Mu → Prop} (h : RB K r ds μ P) (f : ∀ d μ', P d μ' → P' d μ') : RB K r ds μ P' := fun G0 H0 G H ρ σ vs A i Q q => h G0 H0 G H ρ σ vs A i Q fun v d μ' G' H' p => q v d μ' G' H' (f _ _ p)

/-! ### names, constants -/
theorem we_var {i : Nat} (h : ρ[i]? = some (some d)) (p : P d μ) : WE K (tVar i) ρ μ P := fun G0 H0 G H σ A Q q => by
  obtain ⟨v, h1, h2⟩ := A.sl.2 i d h
  exact ⟨v, h1, q v d μ G H p (Ex.refl _) A h2⟩
theorem ev_var {i : Nat} (h : ρ[i]? = some (some d)) : Ev K (tVar i) ρ μ d := we_var h ⟨rfl, rfl⟩
theorem we_c {v : V} (hv : ∀ G, Is K G d v) (p : P d μ) : WE K (tC v) ρ μ P := fun G0 H0 G H σ A Q q => q v d μ G H p (Ex.refl _) A (hv G)
theorem ev_int {i : Int} : Ev K (tC (.int i)) ρ μ (.int i) := we_c (d := .int i) (fun _ => rfl) ⟨rfl, rfl⟩
theorem ev_bl {i : Bool} : Ev K (tC (.bl i)) ρ μ (.bl i) := we_c (d := .bl i) (fun _ => rfl) ⟨rfl, rfl⟩
theorem ev_non : Ev K (tC .non) ρ μ .non := we_c (d := .non) (fun _ => rfl) ⟨rfl, rfl⟩
theorem ev_str {i : Str} : Ev K (tC (.str i)) ρ μ (.str i) := we_c (d := .str i) (fun _ => rfl) ⟨rfl, rfl⟩

/-! ### operators -/
theorem we_op (ha : WE K ta ρ μ fun x μ1 => WE K tb ρ μ1 fun y μ2 => RO K r x y μ2 P) : WE K (tOp r ta tb) ρ μ P := fun G0 H0 G H σ A Q q =>
  ha G0 H0 G H σ A _ fun v x μ1 G1 H1 w1 e1 A1 i1 => w1 G0 H0 G1 H1 σ A1 _ fun u y μ2 G2 H2 w2 e2 A2 i2 => w2 G0 H0 G2 H2 ρ σ v u A2 (i1.mono e2) i2 Q fun v' d μ' G' H' p e A' i => q v' d μ' G' H' p (e1.trans (e2.trans e)) A' i
theorem ev_op (ha : Ev K ta ρ μ x) (hb : Ev K tb ρ μ y) (hr : RO K r x y μ P) : WE K (tOp r ta tb) ρ μ P := we_op (ha.go (hb.go hr))
theorem ro_int {f : Int → Int → Int} {i j : Int} (p : P (.int (f i j)) μ) : RO K (rI0 fun i j => .int (f i j)) (.int i) (.int j) μ P := fun G0 H0 G H ρ σ v u A e1 e2 Q q =>
  ⟨i, j, e1, e2, q _ _ μ G H p (Ex.refl _) A rfl⟩
theorem ro_bl {f : Int → Int → Bool} {i j : Int} (p : P (.bl (f i j)) μ) : RO K (rI0 fun i j => .bl (f i j)) (.int i) (.int j) μ P := fun G0 H0 G H ρ σ v u A e1 e2 Q q =>
  ⟨i, j, e1, e2, q _ _ μ G H p (Ex.refl _) A rfl⟩
theorem ro_intC {C : Int → Int → Prop} {f : Int → Int → Int} {i j : Int} (c : C i j) (p : P (.int (f i j)) μ) : RO K (rI C fun i j => .int (f i j)) (.int i) (.int j) μ P := fun G0 H0 G H ρ σ v u A e1 e2 Q q =>
  ⟨i, j, e1, e2, c, q _ _ μ G H p (Ex.refl _) A rfl⟩
def vOf : D → Option V
  | .non => some .non
  | .bl b => some (.bl b)
  | .int i => some (.int i)
  | .str x => some (.str x)
  | .raw v => some v
  | _ => none
theorem vOf_ok {v w : V} (e : vOf d = some w) (h : Is K G d v) : v = w := by
  cases d <;> (have e' := e; first | cases e' | skip) <;> first | exact h | cases e
theorem ro_eq {a b : V} (e1 : vOf x = some a) (e2 : vOf y = some b) (s : scal a b = true) (p : P (.bl (decide (a = b))) μ) : RO K rEq x y μ P := fun G0 H0 G H ρ σ v u A h1 h2 Q q => by
  have := vOf_ok e1 h1; subst this
  have := vOf_ok e2 h2; subst this
  exact ⟨s, q _ _ μ G H p (Ex.refl _) A rfl⟩
theorem ro_ne {a b : V} (e1 : vOf x = some a) (e2 : vOf y = some b) (s : scal a b = true) (p : P (.bl (!decide (a = b))) μ) : RO K rNe x y μ P := fun G0 H0 G H ρ σ v u A h1 h2 Q q => by
  have := vOf_ok e1 h1; subst this
  have := vOf_ok e2 h2; subst this
  exact ⟨s, q _ _ μ G H p (Ex.refl _) A rfl⟩
theorem ro_eqI {i j : Int} (p : P (.bl (decide (i = j))) μ) : RO K rEq (.int i) (.int j) μ P := ro_eq rfl rfl rfl (by
  have : decide (V.int i = V.int j) = decide (i = j) := by simp
  rw [this]; exact p)
theorem ro_eqS {i j : Str} (p : P (.bl (decide (i = j))) μ) : RO K rEq (.str i) (.str j) μ P := ro_eq rfl rfl rfl (by
  have : decide (V.str i = V.str j) = decide (i = j) := by simp
  rw [this]; exact p)
theorem ro_ix {ds : List D} {i : Int} (h : SqIn μ x ds) (e : atI ds i = some d) (p : P d μ) : RO K (rIx K) x (.int i) μ P := fun G0 H0 G H ρ σ v u A h1 h2 Q q => by
  cases h2
  obtain ⟨a, xs, e1, s, l⟩ := A.sq h h1
  have ea : ∃ w, atI xs i = some w ∧ Is K G d w := by
    unfold atI at e ⊢
    rw [l.len]
    cases q2 : ixN ds.length i with
    | none => rw [q2] at e; cases e
    | some j => rw [q2] at e; exact l.get e
  obtain ⟨w, e2, iw⟩ := ea
  rcases s with s | s
  · exact .inl ⟨a, xs, i, w, e1, rfl, s, e2, q w d μ G H p (Ex.refl _) A iw⟩
  · exact .inr (.inl ⟨a, xs, i, w, e1, rfl, s, e2, q w d μ G H p (Ex.refl _) A iw⟩)
theorem ro_ixStr {z : Str} {i : Int} {c : Nat} (hz : z.length ≤ sizeLine) (e : atI z.cps.toList i = some c) (p : P (.str ⟨#[c]⟩) μ) : RO K (rIx K) (.str z) (.int i) μ P := fun G0 H0 G H ρ σ v u A h1 h2 Q q => by
  cases h1; cases h2
  exact .inr (.inr ⟨z, i, c, rfl, rfl, hz, e, q _ _ μ G H p (Ex.refl _) A rfl⟩)
theorem atI_n {α : Type} {xs : List α} {i : Nat} {x : α} (h : xs[i]? = some x) : atI xs (i : Int) = some x := by
  have hi := (List.getElem?_eq_some_iff.mp h).1
  unfold atI ixN
  rw [if_pos (by omega), if_pos (by omega)]
  exact h
theorem ro_ixN {ds : List D} {i : Nat} (h : SqIn μ x ds) (e : ds[i]? = some d) (p : P d μ) : RO K (rIx K) x (.int (i : Int)) μ P := ro_ix h (atI_n e) p
theorem ro_cat {ds es : List D} (h : LstIn μ x ds) (g : LstIn μ y es) (hz : ds.length + es.length ≤ sizeLine) (p : P (.lst (ds ++ es)) μ) : RO K rCat x y μ P := fun G0 H0 G H ρ σ v u A h1 h2 Q q => by
  obtain ⟨a, xs, e1, s1, l1⟩ := A.lst h h1
  obtain ⟨b, ys, e2, s2, l2⟩ := A.lst g h2
  refine ⟨a, b, xs, ys, e1, e2, s1, s2, by rw [l1.len, l2.len]; exact hz, fun c hc => ?_⟩
  have eg : Ex G (upd G c (.lst (xs ++ ys))) := Ex.new (A.gh.off hc)
  exact q _ _ μ _ _ p eg (A.laid hc) ⟨c, _, rfl, L2.upd_same, (l1.app l2).mono eg⟩
theorem ro_catT {ds es : List D} (hz : ds.length + es.length ≤ sizeLine) (p : P (.tup (ds ++ es)) μ) : RO K (rCatA K) (.tup ds) (.tup es) μ P := fun G0 H0 G H ρ σ v u A h1 h2 Q q => by
  obtain ⟨a, xs, e1, s1, l1⟩ := h1
  obtain ⟨b, ys, e2, s2, l2⟩ := h2
  refine ⟨a, b, xs, ys, e1, e2, SqT.of (A.gh _ _ s1), SqT.of (A.gh _ _ s2), by rw [l1.len, l2.len]; exact hz, fun z => ?_, fun z1 z2 => ?_, fun z1 z2 c hc => ?_⟩
  · subst z
    exact q _ _ μ _ _ p (Ex.refl _) A ⟨b, ys, rfl, s2, l1.app l2⟩
  · subst z2
    have := l1.app l2
    rw [List.append_nil] at this
    exact q _ _ μ _ _ p (Ex.refl _) A ⟨a, xs, rfl, s1, this⟩
  · have eg : Ex G (upd G c (.tup (xs ++ ys))) := Ex.new (A.gh.off hc)
    exact q _ _ μ _ _ p eg (A.laid hc) ⟨c, _, rfl, L2.upd_same, (l1.app l2).mono eg⟩
def rAddS : R2 := fun x y H Q => ∃ i j, x = .str i ∧ y = .str j ∧ i.length + j.length ≤ sizeLine ∧ Q (.str (i ++ j)) H
theorem ro_addS {i j : Str} (hz : i.length + j.length ≤ sizeLine) (p : P (.str (i ++ j)) μ) : RO K rAddS (.str i) (.str j) μ P := fun G0 H0 G H ρ σ v u A h1 h2 Q q => by
  cases h1; cases h2
  exact ⟨i, j, rfl, rfl, hz, q _ _ μ _ _ p (Ex.refl _) A rfl⟩
def D.isN : D → Bool
  | .non => true
  | .raw v => decide (v = .non)
  | _ => false
theorem isN_ok {v : V} (h : Is K G d v) : decide (v = .non) = d.isN := by
  cases d with
  | non => cases h; rfl
  | bl b => cases h; rfl
  | int b => cases h; rfl
  | str b => cases h; rfl
  | tup ds => obtain ⟨_, _, e, _⟩ := h; subst e; rfl
  | lst ds => obtain ⟨_, _, e, _⟩ := h; subst e; rfl
  | sq ds => obtain ⟨_, _, e, _⟩ := h; subst e; rfl
  | dct ks ds => obtain ⟨_, _, e, _⟩ := h; subst e; rfl
  | raw w => cases h; rfl
theorem we_isN (ha : WE K ta ρ μ fun d μ' => P (.bl d.isN) μ') : WE K (tIsN ta) ρ μ P := fun G0 H0 G H σ A Q q =>
  ha G0 H0 G H σ A _ fun v d μ' G' H' p e A' i => q _ _ μ' G' H' p e A' (congrArg V.bl (isN_ok i))
theorem we_notN (ha : WE K ta ρ μ fun d μ' => P (.bl (!d.isN)) μ') : WE K (tNotN ta) ρ μ P := fun G0 H0 G H σ A Q q =>
  ha G0 H0 G H σ A _ fun v d μ' G' H' p e A' i => q _ _ μ' G' H' p e A' (congrArg (fun b => V.bl (!b)) (isN_ok i))

/-! ### tests -/
theorem wt_B {PT : Bool → Mu → Prop} (ha : WE K ta ρ μ fun d μ' => ∃ b, d = .bl b ∧ PT b μ') : WT K (tB ta) ρ μ PT := fun G0 H0 G H σ A Q q =>
  ha G0 H0 G H σ A _ fun v d μ' G' H' p e A' i => by
    obtain ⟨b, rfl, p⟩ := p
    exact ⟨b, i, q b μ' G' H' p e A'⟩
theorem wt_test {PT : Bool → Mu → Prop} (ha : WE K ta ρ μ fun d μ' => ∃ b, d = .bl b ∧ PT b μ') : WT K (tTest ta) ρ μ PT := fun G0 H0 G H σ A Q q =>
  ha G0 H0 G H σ A _ fun v d μ' G' H' p e A' i => by
    obtain ⟨b, rfl, p⟩ := p
    exact ⟨b, i, q b μ' G' H' p e A'⟩
theorem wt_and {t u : TT} {PT : Bool → Mu → Prop} (h : WT K t ρ μ fun b μ' => (b = true → WT K u ρ μ' PT) ∧ (b = false → PT false μ')) : WT K (tAnd t u) ρ μ PT := fun G0 H0 G H σ A Q q =>
  h G0 H0 G H σ A _ fun b μ' G' H' p e A' => by
    cases b with
    | true => exact p.1 rfl G0 H0 G' H' σ A' Q fun b μ2 G2 H2 p2 e2 A2 => q b μ2 G2 H2 p2 (e.trans e2) A2
    | false => exact q false μ' G' H' (p.2 rfl) e A'
theorem wt_or {t u : TT} {PT : Bool → Mu → Prop} (h : WT K t ρ μ fun b μ' => (b = false → WT K u ρ μ' PT) ∧ (b = true → PT true μ')) : WT K (tOr t u) ρ μ PT := fun G0 H0 G H σ A Q q =>
  h G0 H0 G H σ A _ fun b μ' G' H' p e A' => by
    cases b with
    | false => exact p.1 rfl G0 H0 G' H' σ A' Q fun b μ2 G2 H2 p2 e2 A2 => q b μ2 G2 H2 p2 (e.trans e2) A2
    | true => exact q true μ' G' H' (p.2 rfl) e A'
theorem wt_not {t : TT} {PT : Bool → Mu → Prop} (h : WT K t ρ μ fun b μ' => PT (!b) μ') : WT K (tNot t) ρ μ PT := fun G0 H0 G H σ A Q q =>
  h G0 H0 G H σ A _ fun b μ' G' H' p e A' => q (!b) μ' G' H' p e A'
theorem et_and {t u : TT} {a b : Bool} (h1 : EvT K t ρ μ a) (h2 : a = true → EvT K u ρ μ b) : EvT K (tAnd t u) ρ μ (a && b) := wt_and (h1.go ⟨fun e => (h2 e).go ⟨by rw [e]; rfl, rfl⟩, fun e => ⟨by rw [e]; rfl, rfl⟩⟩)
theorem et_or {t u : TT} {a b : Bool} (h1 : EvT K t ρ μ a) (h2 : a = false → EvT K u ρ μ b) : EvT K (tOr t u) ρ μ (a || b) := wt_or (h1.go ⟨fun e => (h2 e).go ⟨by rw [e]; rfl, rfl⟩, fun e => ⟨by rw [e]; rfl, rfl⟩⟩)
theorem et_not {t : TT} {a : Bool} (h1 : EvT K t ρ μ a) : EvT K (tNot t) ρ μ (!a) := wt_not (h1.go ⟨rfl, rfl⟩)
theorem et_B {b : Bool} (h : Ev K ta ρ μ (.bl b)) : EvT K (tB ta) ρ μ b := wt_B (h.go ⟨b, rfl, rfl, rfl⟩)
theorem et_test {b : Bool} (h : Ev K ta ρ μ (.bl b)) : EvT K (tTest ta) ρ μ b := wt_test (h.go ⟨b, rfl, rfl, rfl⟩)
/-- a value's truth -/
def tTru (K : PySem.W.Frag) (ta : TE) : TT := fun σ H Q => ta σ H fun x H' => ∃ k, TruV K x H' k ∧ Q k H'
theorem wt_truL {PT : Bool → Mu → Prop} (ha : WE K ta ρ μ fun d μ' => ∃ ds, LstIn μ' d ds ∧ PT (!ds.isEmpty) μ') : WT K (tTru K ta) ρ μ PT := fun G0 H0 G H σ A Q q =>
  ha G0 H0 G H σ A _ fun v d μ' G' H' p e A' i => by
    obtain ⟨ds, hl, p⟩ := p
    obtain ⟨a, xs, e1, s1, l1⟩ := A'.lst hl i
    subst e1
    refine ⟨!ds.isEmpty, .inl ⟨xs, SqL.of s1, ?_⟩, q _ μ' G' H' p e A'⟩
    have := l1.len
    cases xs <;> cases ds <;> first | rfl | simp at this
theorem wt_truB {PT : Bool → Mu → Prop} (ha : WE K ta ρ μ fun d μ' => ∃ b, d = .bl b ∧ PT b μ') : WT K (tTru K ta) ρ μ PT := fun G0 H0 G H σ A Q q =>
  ha G0 H0 G H σ A _ fun v d μ' G' H' p e A' i => by
    obtain ⟨b, rfl, p⟩ := p
    cases i
    exact ⟨b, rfl, q b μ' G' H' p e A'⟩
theorem we_if {t : TT} (h : WT K t ρ μ fun b μ' => (b = true → WE K ta ρ μ' P) ∧ (b = false → WE K tb ρ μ' P)) : WE K (tIf t ta tb) ρ μ P := fun G0 H0 G H σ A Q q =>
  h G0 H0 G H σ A _ fun b μ' G' H' p e A' => by
    cases b with
    | true => exact p.1 rfl G0 H0 G' H' σ A' Q fun v d μ2 G2 H2 p2 e2 A2 i => q v d μ2 G2 H2 p2 (e.trans e2) A2 i
    | false => exact p.2 rfl G0 H0 G' H' σ A' Q fun v d μ2 G2 H2 p2 e2 A2 i => q v d μ2 G2 H2 p2 (e.trans e2) A2 i
theorem ev_if {t : TT} {b : Bool} (h : EvT K t ρ μ b) (h1 : b = true → WE K ta ρ μ P) (h2 : b = false → WE K tb ρ μ P) : WE K (tIf t ta tb) ρ μ P := we_if (h.go ⟨h1, h2⟩)

/-! ### arguments, displays, fields -/
theorem wa_nil {PA : List D → Mu → Prop} (p : PA [] μ) : WA K tNil ρ μ PA := fun G0 H0 G H σ A Q q => q [] [] μ G H p (Ex.refl _) A rfl
theorem wa_cons {tr : TA} {PA : List D → Mu → Prop} (h : WE K ta ρ μ fun d μ1 => WA K tr ρ μ1 fun ds μ2 => PA (d :: ds) μ2) : WA K (tCons ta tr) ρ μ PA := fun G0 H0 G H σ A Q q =>
  h G0 H0 G H σ A _ fun v d μ1 G1 H1 w e1 A1 i1 => w G0 H0 G1 H1 σ A1 _ fun vs ds μ2 G2 H2 p e2 A2 l2 => q (v :: vs) (d :: ds) μ2 G2 H2 p (e1.trans e2) A2 ⟨v, vs, rfl, i1.mono e2, l2⟩
theorem ea_nil : EvA K tNil ρ μ [] := wa_nil ⟨rfl, rfl⟩
theorem ea_cons {tr : TA} {ds : List D} (h : Ev K ta ρ μ d) (g : EvA K tr ρ μ ds) : EvA K (tCons ta tr) ρ μ (d :: ds) := wa_cons (h.go (g.go ⟨rfl, rfl⟩))
theorem we_tup {t : TA} (h : WA K t ρ μ fun ds μ' => ds.length ≤ sizeLine ∧ P (.tup ds) μ') : WE K (tTup t) ρ μ P := fun G0 H0 G H σ A Q q =>
  h G0 H0 G H σ A _ fun vs ds μ' G' H' p e A' l => ⟨by rw [l.len]; exact p.1, fun c hc => by
    have eg : Ex G' (upd G' c (.tup vs)) := Ex.new (A'.gh.off hc)
    exact q _ _ μ' _ _ p.2 (e.trans eg) (A'.laid hc) ⟨c, _, rfl, L2.upd_same, l.mono eg⟩⟩
theorem ev_tup {t : TA} {ds : List D} (h : EvA K t ρ μ ds) (hz : ds.length ≤ sizeLine := by exact sz_of (by simp)) : Ev K (tTup t) ρ μ (.tup ds) := we_tup (h.go ⟨hz, rfl, rfl⟩)
theorem we_lst {t : TA} (h : WA K t ρ μ fun ds μ' => ds.length ≤ sizeLine ∧ P (.lst ds) μ') : WE K (tLst t) ρ μ P := fun G0 H0 G H σ A Q q =>
  h G0 H0 G H σ A _ fun vs ds μ' G' H' p e A' l => ⟨by rw [l.len]; exact p.1, fun c hc => by
    have eg : Ex G' (upd G' c (.lst vs)) := Ex.new (A'.gh.off hc)
    exact q _ _ μ' _ _ p.2 (e.trans eg) (A'.laid hc) ⟨c, _, rfl, L2.upd_same, l.mono eg⟩⟩
theorem ev_lst {t : TA} {ds : List D} (h : EvA K t ρ μ ds) (hz : ds.length ≤ sizeLine := by exact sz_of (by simp)) : Ev K (tLst t) ρ μ (.lst ds) := we_lst (h.go ⟨hz, rfl, rfl⟩)
/-- a list that will change -/
theorem we_lstN {t : TA} (h : WA K t ρ μ fun ds μ' => ds.length ≤ sizeLine ∧ ∀ p, μ' p = none → P (.raw (.ref p)) (μ'.upd p (.lst ds))) : WE K (tLst t) ρ μ P := fun G0 H0 G H σ A Q q =>
  h G0 H0 G H σ A _ fun vs ds μ' G' H' p e A' l => ⟨by rw [l.len]; exact p.1, fun c hc =>
    q _ _ _ _ _ (p.2 c (A'.muNone hc)) e (A'.fresh hc ⟨vs, L2.upd_same, l⟩) rfl⟩
theorem we_dctN (h : ∀ p, μ p = none → P (.raw (.ref p)) (μ.upd p (.dct []))) : WE K tDNewT ρ μ P := fun G0 H0 G H σ A Q q c hc =>
  q _ _ _ _ _ (h c (A.muNone hc)) (Ex.refl _) (A.fresh hc ⟨[], L2.upd_same, rfl⟩) rfl
theorem we_fld {f : Str} (h : WE K ta ρ μ fun o μ' => ∃ a C fs d, o = .raw (.ref a) ∧ μ' a = some (.ins C fs) ∧ Cls K C ∧ NoAttr K C f ∧ fs.lookup f = some d ∧ P d μ') : WE K (tFld K ta f) ρ μ P := fun G0 H0 G H σ A Q q =>
  h G0 H0 G H σ A _ fun v o μ' G' H' p e A' i => by
    obtain ⟨a, C, fs, d, rfl, hm, cl, na, hl, p⟩ := p
    cases i
    obtain ⟨_, _, dx, gs, h1, h2⟩ := A'.rep a _ hm
    obtain ⟨x, h3, h4⟩ := h2.look hl
    exact ⟨a, C, dx, gs, x, rfl, h1, cl, na, h3, q x d μ' G' H' p e A' h4⟩
theorem ev_fld {f : Str} {C : Addr} {fs : List (Str × D)} (h : Ev K ta ρ μ (.raw (.ref a))) (hm : μ a = some (.ins C fs)) (cl : Cls K C) (na : NoAttr K C f) (hl : fs.lookup f = some d) : Ev K (tFld K ta f) ρ μ d := we_fld (h.go ⟨a, C, fs, d, rfl, hm, cl, na, hl, rfl, rfl⟩)

/-! ### dicts -/
theorem we_dget (h : WE K ta ρ μ fun o μ1 => WE K tb ρ μ1 fun kd μ2 => ∃ m k d, DctIn μ2 o m ∧ keysOf kd = some k ∧ look m k = some d ∧ P d μ2) : WE K (tDGet ta tb) ρ μ P := fun G0 H0 G H σ A Q q =>
  h G0 H0 G H σ A _ fun v o μ1 G1 H1 w e1 A1 i1 => w G0 H0 G1 H1 σ A1 _ fun u kd μ2 G2 H2 p e2 A2 i2 => by
    obtain ⟨m, k, d, hd, hk, hl, p⟩ := p
    obtain ⟨a, kvs, ea, eh, hm⟩ := A2.dct hd (i1.mono e2)
    obtain ⟨b, eb, hb⟩ := keysOf_ok hk i2
    obtain ⟨x, hx, ix⟩ := hm.look hl
    subst ea eb
    exact ⟨a, x, rfl, hx ▸ DGet.t eh (A2.gh _ _ hb), q x d μ2 G2 H2 p (e1.trans e2) A2 ix⟩
theorem ev_dget {m : List (List Key × D)} {k : List Key} (h1 : Ev K ta ρ μ x) (h2 : Ev K tb ρ μ y) (hd : DctIn μ x m) (hk : keysOf y = some k) (hl : look m k = some d) : Ev K (tDGet ta tb) ρ μ d := we_dget (h1.go (h2.go ⟨m, k, d, hd, hk, hl, rfl, rfl⟩))
theorem we_din (h : WE K tb ρ μ fun kd μ1 => WE K ta ρ μ1 fun o μ2 => ∃ m k, DctIn μ2 o m ∧ keysOf kd = some k ∧ P (.bl (look m k).isSome) μ2) : WE K (tDIn tb ta) ρ μ P := fun G0 H0 G H σ A Q q =>
  h G0 H0 G H σ A _ fun u kd μ1 G1 H1 w e1 A1 i1 => w G0 H0 G1 H1 σ A1 _ fun v o μ2 G2 H2 p e2 A2 i2 => by
    obtain ⟨m, k, hd, hk, p⟩ := p
    obtain ⟨a, kvs, ea, eh, hm⟩ := A2.dct hd i2
    obtain ⟨b, eb, hb⟩ := keysOf_ok hk (i1.mono e2)
    subst ea eb
    refine ⟨a, _, rfl, DGet.t eh (A2.gh _ _ hb), ?_⟩
    have ee : (valV kvs k).isSome = (look m k).isSome := by
      cases e : look m k with
      | none => rw [hm.lookN e] <;> rfl
      | some d => obtain ⟨x, hx, _⟩ := hm.look e; rw [hx]; rfl
    rw [ee]
    exact q _ _ μ2 G2 H2 p (e1.trans e2) A2 rfl
theorem ev_dget2 {tx : TE} {m : List (List Key × D)} {k : List Key} (h1 : Ev K ta ρ μ x) (h2 : Ev K tb ρ μ y) (h3 : Ev K tx ρ μ z) (hd : DctIn μ x m) (hk : keysOf y = some k) : Ev K (tDGet2 ta tb tx) ρ μ ((look m k).getD z) := fun G0 H0 G H σ A Q q =>
  h1 G0 H0 G H σ A _ fun v _ μ1 G1 H1 p1 e1 A1 i1 => by
    obtain ⟨rfl, rfl⟩ := p1
    obtain ⟨a, kvs, ea, eh, _⟩ := A1.dct hd i1
    subst ea
    refine ⟨a, rfl, .inr ⟨kvs, .inl eh⟩, h2 G0 H0 G1 H1 σ A1 _ fun u _ _ G2 H2 p2 e2 A2 i2 => ?_⟩
    obtain ⟨rfl, rfl⟩ := p2
    refine h3 G0 H0 G2 H2 σ A2 _ fun w _ _ G3 H3 p3 e3 A3 i3 => ?_
    obtain ⟨rfl, rfl⟩ := p3
    obtain ⟨a', kvs3, ea3, eh3, hm3⟩ := A3.dct hd (i1.mono (e2.trans e3))
    cases ea3
    obtain ⟨b, eb, hb⟩ := keysOf_ok hk (i2.mono e3)
    subst eb
    refine ⟨_, DGet.t eh3 (A3.gh _ _ hb), ?_⟩
    cases e : look m k with
    | none =>
      rw [hm3.lookN e]
      exact q w _ _ G3 H3 ⟨by rw [e]; rfl, rfl⟩ (e1.trans (e2.trans e3)) A3 i3
    | some d =>
      obtain ⟨x, hx, ix⟩ := hm3.look e
      rw [hx]
      exact q x _ _ G3 H3 ⟨by rw [e]; rfl, rfl⟩ (e1.trans (e2.trans e3)) A3 ix
end
end Hw
set_option Elab.async false
set_option linter.all false
set_option maxRecDepth 100000
set_option maxHeartbeats 4000000
/-! The calculus' rules: calls, statements, loops, comprehensions. -/
namespace Hw
open PySem PySem.Spec L2

/-! ### calls -/
abbrev Spec := List D → Mu → (D → Mu → Prop) → Prop
/-- a promise in the layer's words -/
def lift (K : PySem.W.Frag) (S : Spec) : Sp := fun vs H Q _ => ∃ (G H0 : Hp) (ds : List D) (μ : Mu), At K G H0 [] μ G H [] ∧ IsL K G ds vs ∧
  S ds μ fun d μ' => ∀ v G' H', At K G H0 [] μ' G' H' [] → Is K G' d v → Q v H'
def Spec.len (S : Spec) (n : Nat) : Prop := ∀ ds μ Q, S ds μ Q → ds.length = n
section
variable {K : PySem.W.Frag} {G G' H H' G0 H0 : Hp} {σ : L2.St} {ρ : List (Option D)} {μ : Mu} {a : Addr} {te ta tb : TE} {P : D → Mu → Prop} {x y z d : D} {r : R2} {t : TA}
/-- from the state at a call to the callee's, and back -/
theorem At.callee (A : At K G0 H0 ρ μ G H σ) : ∃ H1, At K G H1 [] μ G H [] ∧ ∀ {μ' G' H'}, At K G H1 [] μ' G' H' [] → Ex G G' ∧ At K G0 H0 ρ μ' G' H' σ := by
  refine ⟨fun b => if μ b = none then H b else none, ⟨Ex.refl _, A.gh, fun b o e => ?_, fun b x _ => x, Sl.nil, fun b mo e => ?_⟩, fun {μ' G' H'} B => ⟨B.g, A.g.trans B.g, B.gh, fun b o e => ?_, fun b x y => ?_, A.sl.mono B.g, fun b mo e => ?_⟩⟩
  · have e' : (if μ b = none then H b else none) = some o := e
    split at e'
    · exact e'
    · cases e'
  · obtain ⟨r1, r2, r3⟩ := A.rep b mo e
    refine ⟨r1, ?_, r3⟩
    show (if μ b = none then H b else none) = none
    rw [if_neg (by rw [e]; simp)]
  · have hm : μ b = none := by
      cases q : μ b with
      | none => rfl
      | some mo => rw [(A.rep b mo q).2.1] at e; cases e
    refine B.h b o ?_
    show (if μ b = none then H b else none) = some o
    rw [if_pos hm]; exact A.h b o e
  · have hm : μ b = none := by
      cases q : μ b with
      | none => rfl
      | some mo => exact absurd (A.rep b mo q).2.1 y
    refine A.new b (B.new b x ?_) y
    show (if μ b = none then H b else none) ≠ none
    rw [if_pos hm]; exact A.h.nn y
  · obtain ⟨r1, r2, r3⟩ := B.rep b mo e
    refine ⟨r1, ?_, r3⟩
    cases q : H0 b with
    | none => rfl
    | some o =>
      have hm : μ b = none := by
        cases p : μ b with
        | none => rfl
        | some mo => rw [(A.rep b mo p).2.1] at q; cases q
      have r2' : (if μ b = none then H b else none) = none := r2
      rw [if_pos hm, A.h b o q] at r2'; cases r2'
theorem we_call {S : Spec} {E : XK} (h : WA K t ρ μ fun ds μ' => S ds μ' P) (mono : ∀ ds μ (P P' : D → Mu → Prop), (∀ d μ', P d μ' → P' d μ') → S ds μ P → S ds μ P') : WE K (tCall (lift K S) [] E t) ρ μ P := fun G0 H0 G H σ A Q q =>
  h G0 H0 G H σ A _ fun vs ds μ1 G1 H1 p e1 A1 l => by
    obtain ⟨H2, B, back⟩ := A1.callee
    rw [List.append_nil]
    refine ⟨G1, H2, ds, μ1, B, l, mono _ _ _ _ (fun d μ' pd v G' H' B' i => ?_) p⟩
    obtain ⟨e2, A2⟩ := back B'
    exact q v d μ' G' H' pd (e1.trans e2) A2 i
def Mono (S : Spec) : Prop := ∀ ds μ (P P' : D → Mu → Prop), (∀ d μ', P d μ' → P' d μ') → S ds μ P → S ds μ P'
theorem we_meth {S : Spec} {E : XK} {C : Addr} {m : Str} (h : WE K ta ρ μ fun o μ1 => ∃ a fs, o = .raw (.ref a) ∧ μ1 a = some (.ins C fs) ∧ fs.lookup m = none ∧ WA K t ρ μ1 fun ds μ' => S (o :: ds) μ' P) (mono : Mono S) : WE K (tMeth C m (lift K S) [] E ta t) ρ μ P := fun G0 H0 G H σ A Q q =>
  h G0 H0 G H σ A _ fun v o μ1 G1 H1 p e1 A1 i => by
    obtain ⟨a, fs, rfl, hm, hl, p⟩ := p
    cases i
    obtain ⟨_, _, dx, gs, h1, h2⟩ := A1.rep a _ hm
    refine ⟨a, dx, gs, rfl, h1, h2.none hl, p G0 H0 G1 H1 σ A1 _ fun vs ds μ2 G2 H2 p2 e2 A2 l => ?_⟩
    obtain ⟨H3, B, back⟩ := A2.callee
    rw [List.append_nil]
    refine ⟨G2, H3, _, μ2, B, IsL.cons (d := .raw (.ref a)) rfl l, mono _ _ _ _ (fun d μ' pd v G' H' B' i => ?_) p2⟩
    obtain ⟨e3, A3⟩ := back B'
    exact q v d μ' G' H' pd (e1.trans (e2.trans e3)) A3 i
theorem we_make {S : Spec} {E : XK} {C : Addr} (h : WA K t ρ μ fun ds μ' => ∀ p, μ' p = none → S (.raw (.ref p) :: ds) (μ'.upd p (.ins C [])) fun d μ2 => d = .non ∧ P (.raw (.ref p)) μ2) (mono : Mono S) : WE K (tMake C (lift K S) [] E t) ρ μ P := fun G0 H0 G H σ A Q q =>
  h G0 H0 G H σ A _ fun vs ds μ1 G1 H1 p e1 A1 l x dx hx hdx hne => by
    have A2 : At K G0 H0 ρ μ1 G1 (upd H1 dx (.own x)) σ := A1.step (Ex.refl _) (Ex.new hdx) (A1.gh.trans (Ex.new hdx)) (fun a z _ => z)
    have hx2 : (upd H1 dx (.own x)) x = none := by rw [L2.upd_ne (Ne.symm hne)]; exact hx
    have A3 := A2.fresh (p := x) (o := .ins C dx []) (mo := .ins C []) hx2 ⟨dx, [], L2.upd_same, rfl⟩
    obtain ⟨H3, B, back⟩ := A3.callee
    rw [List.append_nil]
    refine ⟨G1, H3, _, _, B, IsL.cons (d := .raw (.ref x)) rfl l, mono _ _ _ _ (fun d μ' pd v G' H' B' i => ?_) (p x (A1.muNone hx))⟩
    obtain ⟨e3, A4⟩ := back B'
    obtain ⟨rfl, pd⟩ := pd
    cases i
    exact ⟨rfl, q _ _ μ' G' H' pd (e1.trans e3) A4 rfl⟩
/-- a built-in called -/
theorem we_cb {r : List V → Hp → VK → Prop} (h : WA K t ρ μ fun ds μ' => RB K r ds μ' P) : WE K (tCB r t) ρ μ P := fun G0 H0 G H σ A Q q =>
  h G0 H0 G H σ A _ fun vs ds μ1 G1 H1 p e1 A1 l => p G0 H0 G1 H1 ρ σ vs A1 l Q fun v d μ' G' H' pd e2 A2 i => q v d μ' G' H' pd (e1.trans e2) A2 i
theorem ev_cb {r : List V → Hp → VK → Prop} {ds : List D} (h : EvA K t ρ μ ds) (p : RB K r ds μ P) : WE K (tCB r t) ρ μ P := we_cb (h.go p)
def rLen (K : PySem.W.Frag) : List V → Hp → VK → Prop := fun xs H Q => ∃ p ys, xs = [.ref p] ∧ (SqL K H p ys ∨ SqT K H p ys) ∧ Q (.int ys.length) H
theorem rb_len {ds : List D} (h : SqIn μ x ds) (p : P (.int ds.length) μ) : RB K (rLen K) [x] μ P := fun G0 H0 G H ρ σ vs A l Q q => by
  obtain ⟨v, r, rfl, i, e⟩ := l
  cases e
  obtain ⟨a, xs, rfl, s, l⟩ := A.sq h i
  exact ⟨a, xs, rfl, s, by rw [l.len]; exact q _ _ μ G H p (Ex.refl _) A rfl⟩
theorem rb_sum {is : List Int} (h : LstIn μ x (is.map .int)) (p : P (.int is.sum) μ) : RB K (rSum K) [x] μ P := fun G0 H0 G H ρ σ vs A l Q q => by
  obtain ⟨v, r, rfl, i, e⟩ := l
  cases e
  obtain ⟨a, xs, rfl, s, l⟩ := A.lst h i
  rw [l.ints] at s
  exact ⟨a, is, rfl, SqL.of s, q _ _ μ G H p (Ex.refl _) A rfl⟩
def rInt1 : List V → Hp → VK → Prop := fun xs H Q => (∃ i, xs = [.int i] ∧ Q (.int i) H) ∨ ∃ k, xs = [.bl k] ∧ Q (.int (if k then 1 else 0)) H
theorem rb_int {i : Int} (p : P (.int i) μ) : RB K rInt1 [.int i] μ P := fun G0 H0 G H ρ σ vs A l Q q => by
  obtain ⟨v, r, rfl, e, e2⟩ := l
  cases e; cases e2
  exact .inl ⟨i, rfl, q _ _ μ G H p (Ex.refl _) A rfl⟩
theorem rb_intB {b : Bool} (p : P (.int (if b then 1 else 0)) μ) : RB K rInt1 [.bl b] μ P := fun G0 H0 G H ρ σ vs A l Q q => by
  obtain ⟨v, r, rfl, e, e2⟩ := l
  cases e; cases e2
  exact .inr ⟨b, rfl, q _ _ μ G H p (Ex.refl _) A rfl⟩
def rMin2 : List V → Hp → VK → Prop := fun xs H Q => ∃ i j, xs = [.int i, .int j] ∧ Q (.int (if j < i then j else i)) H
theorem rb_min2 {i j : Int} (p : P (.int (min i j)) μ) : RB K rMin2 [.int i, .int j] μ P := fun G0 H0 G H ρ σ vs A l Q q => by
  obtain ⟨v, r, rfl, e, v2, r2, rfl, e3, e4⟩ := l
  cases e; cases e3; cases e4
  have : (if j < i then j else i) = min i j := by
    rw [Int.min_def]; split <;> split <;> omega
  exact ⟨i, j, rfl, by rw [this]; exact q _ _ μ G H p (Ex.refl _) A rfl⟩
def rTupleOf (K : PySem.W.Frag) : List V → Hp → VK → Prop := fun xs H Q => ∃ p ys, xs = [.ref p] ∧ ((SqL K H p ys ∧ ∀ l, H l = none → Q (.ref l) (upd H l (.tup ys))) ∨ (SqT K H p ys ∧ Q (.ref p) H))
theorem rb_tuple {ds : List D} (h : LstIn μ x ds) (p : P (.tup ds) μ) : RB K (rTupleOf K) [x] μ P := fun G0 H0 G H ρ σ vs A l Q q => by
  obtain ⟨v, r, rfl, i, e⟩ := l
  cases e
  obtain ⟨a, xs, rfl, s, l⟩ := A.lst h i
  refine ⟨a, xs, rfl, .inl ⟨SqL.of s, fun c hc => ?_⟩⟩
  have eg : Ex G (upd G c (.tup xs)) := Ex.new (A.gh.off hc)
  exact q _ _ μ _ _ p eg (A.laid hc) ⟨c, _, rfl, L2.upd_same, l.mono eg⟩
def rListOf (K : PySem.W.Frag) : List V → Hp → VK → Prop := fun xs H Q => ∃ p ys, xs = [.ref p] ∧ (SqL K H p ys ∨ SqT K H p ys) ∧ ∀ l, H l = none → Q (.ref l) (upd H l (.lst ys))
theorem rb_list {ds : List D} (h : SqIn μ x ds) (p : P (.lst ds) μ) : RB K (rListOf K) [x] μ P := fun G0 H0 G H ρ σ vs A l Q q => by
  obtain ⟨v, r, rfl, i, e⟩ := l
  cases e
  obtain ⟨a, xs, rfl, s, l⟩ := A.sq h i
  refine ⟨a, xs, rfl, s, fun c hc => ?_⟩
  have eg : Ex G (upd G c (.lst xs)) := Ex.new (A.gh.off hc)
  exact q _ _ μ _ _ p eg (A.laid hc) ⟨c, _, rfl, L2.upd_same, l.mono eg⟩
/-! methods of a list cell -/
theorem we_append {to : TE} (h : WE K to ρ μ fun o μ1 => ∃ a ds0, o = .raw (.ref a) ∧ μ1 a = some (.lst ds0) ∧ WE K te ρ μ1 fun d μ2 => ∃ ds, μ2 a = some (.lst ds) ∧ ds.length < sizeLine ∧ P .non (μ2.upd a (.lst (ds ++ [d])))) :
    WE K (tBM K "list" rAppend to (tCons te tNil)) ρ μ P := fun G0 H0 G H σ A Q q =>
  h G0 H0 G H σ A _ fun v o μ1 G1 H1 p e1 A1 i1 => by
    obtain ⟨a, ds0, rfl, hm, w⟩ := p
    cases i1
    obtain ⟨_, _, xs, hx, lx⟩ := A1.rep a _ hm
    refine ⟨.inl ⟨rfl, _, SqL.of hx⟩, w G0 H0 G1 H1 σ A1 _ fun u d μ2 G2 H2 p2 e2 A2 i2 => ?_⟩
    obtain ⟨ds, hm2, hz, p2⟩ := p2
    obtain ⟨_, _, ys, hy, ly⟩ := A2.rep a _ hm2
    exact ⟨a, ys, u, rfl, rfl, hy, by rw [ly.len]; exact hz, q _ _ _ _ _ p2 (e1.trans e2) (A2.write hm2 ⟨_, L2.upd_same, ly.app ⟨u, [], rfl, i2, rfl⟩⟩) rfl⟩
end

/-! ### statements -/
inductive Out where
  | nx (ρ : List (Option D)) (μ : Mu)
  | rt (d : D) (μ : Mu)
  | bk (ρ : List (Option D)) (μ : Mu)
  | ct (ρ : List (Option D)) (μ : Mu)
section
variable (K : PySem.W.Frag)
structure Hold (G0 H0 : Hp) (Φ : Out → Prop) (D : Ends) : Prop where
  nx : ∀ ρ μ σ G H, Φ (.nx ρ μ) → At K G0 H0 ρ μ G H σ → D.nx σ H
  rt : ∀ d μ v G H, Φ (.rt d μ) → At K G0 H0 [] μ G H [] → Is K G d v → D.rt v H
  bk : ∀ ρ μ σ G H, Φ (.bk ρ μ) → At K G0 H0 ρ μ G H σ → D.bk σ H
  ct : ∀ ρ μ σ G H, Φ (.ct ρ μ) → At K G0 H0 ρ μ G H σ → D.ct σ H
def PW (ts : TS) (ρ : List (Option D)) (μ : Mu) (Φ : Out → Prop) : Prop := ∀ (G0 H0 G H : Hp) (σ : L2.St) (D : Ends), At K G0 H0 ρ μ G H σ → Hold K G0 H0 Φ D → ts D σ H
/-- a target -/
def WG (g : TG) (d : D) (ρ : List (Option D)) (μ : Mu) (Ψ : List (Option D) → Mu → Prop) : Prop := ∀ (G0 H0 G H : Hp) (σ : L2.St) (v : V), At K G0 H0 ρ μ G H σ → Is K G d v → ∀ Q : L2.St → Hp → Prop,
  (∀ ρ' μ' σ' G' H', Ψ ρ' μ' → Ex G G' → At K G0 H0 ρ' μ' G' H' σ' → Q σ' H') → g v σ H Q
def WGs (g : TGs) (ds : List D) (ρ : List (Option D)) (μ : Mu) (Ψ : List (Option D) → Mu → Prop) : Prop := ∀ (G0 H0 G H : Hp) (σ : L2.St) (vs : List V), At K G0 H0 ρ μ G H σ → IsL K G ds vs → ∀ Q : L2.St → Hp → Prop,
  (∀ ρ' μ' σ' G' H', Ψ ρ' μ' → Ex G G' → At K G0 H0 ρ' μ' G' H' σ' → Q σ' H') → g vs σ H Q
end
section
variable {K : PySem.W.Frag} {G G' H H' G0 H0 : Hp} {σ : L2.St} {ρ : List (Option D)} {μ : Mu} {a : Addr} {te ta tb : TE} {P : D → Mu → Prop} {x y z d : D} {r : R2} {t : TA} {Φ : Out → Prop} {ts tu : TS} {g : TG} {Ψ : List (Option D) → Mu → Prop}
theorem At.bare (A : At K G0 H0 ρ μ G H σ) : At K G0 H0 [] μ G H [] := A.ofSl Sl.nil
/-- behind a first statement -/
def thenO (Φ : Out → Prop) (N : List (Option D) → Mu → Prop) : Out → Prop
  | .nx ρ μ => N ρ μ
  | o => Φ o
theorem PW.imp {Φ' : Out → Prop} (h : PW K ts ρ μ Φ) (f : ∀ o, Φ o → Φ' o) : PW K ts ρ μ Φ' := fun G0 H0 G H σ D A hd => h G0 H0 G H σ D A ⟨fun ρ μ σ G H p => hd.nx ρ μ σ G H (f _ p), fun d μ v G H p => hd.rt d μ v G H (f _ p), fun ρ μ σ G H p => hd.bk ρ μ σ G H (f _ p), fun ρ μ σ G H p => hd.ct ρ μ σ G H (f _ p)⟩
theorem pw_seq (h : PW K ts ρ μ (thenO Φ fun ρ' μ' => PW K tu ρ' μ' Φ)) : PW K (tSeq ts tu) ρ μ Φ := fun G0 H0 G H σ D A hd =>
  h G0 H0 G H σ { D with nx := tu D } A ⟨fun ρ μ σ G H p A => p G0 H0 G H σ D A hd, hd.rt, hd.bk, hd.ct⟩
theorem pw_next (p : Φ (.nx ρ μ)) : PW K tNext ρ μ Φ := fun G0 H0 G H σ D A hd => hd.nx ρ μ σ G H p A
theorem pw_break (p : Φ (.bk ρ μ)) : PW K tBreak ρ μ Φ := fun G0 H0 G H σ D A hd => hd.bk ρ μ σ G H p A
theorem pw_cont (p : Φ (.ct ρ μ)) : PW K tCont ρ μ Φ := fun G0 H0 G H σ D A hd => hd.ct ρ μ σ G H p A
theorem pw_asg (h : WE K te ρ μ fun d μ' => WG K g d ρ μ' fun ρ2 μ2 => Φ (.nx ρ2 μ2)) : PW K (tAsg te g) ρ μ Φ := fun G0 H0 G H σ D A hd =>
  h G0 H0 G H σ A _ fun v d μ' G' H' p e A' i => p G0 H0 G' H' σ v A' i _ fun ρ2 μ2 σ2 G2 H2 p2 _ A2 => hd.nx ρ2 μ2 σ2 G2 H2 p2 A2
theorem wg_name {i : Nat} (p : Ψ (ρ.set i (some d)) μ) : WG K (gName i) d ρ μ Ψ := fun G0 H0 G H σ v A i Q q => q _ _ _ _ _ p (Ex.refl _) (A.ofSl (A.sl.set i))
theorem pw_set {i : Nat} (h : WE K te ρ μ fun d μ' => Φ (.nx (ρ.set i (some d)) μ')) : PW K (tAsg te (gName i)) ρ μ Φ := pw_asg (WE.imp h fun d μ' p => wg_name p)
theorem wgs_nil (p : Ψ ρ μ) : WGs K gNil [] ρ μ Ψ := fun G0 H0 G H σ v A i Q q => by cases i; exact ⟨rfl, q _ _ _ _ _ p (Ex.refl _) A⟩
theorem wgs_cons {gs : TGs} {ds : List D} (h : WG K g d ρ μ fun ρ1 μ1 => WGs K gs ds ρ1 μ1 Ψ) : WGs K (gCons g gs) (d :: ds) ρ μ Ψ := fun G0 H0 G H σ v A i Q q => by
  obtain ⟨x, r, rfl, i, l⟩ := i
  exact ⟨x, r, rfl, h G0 H0 G H σ x A i _ fun ρ1 μ1 σ1 G1 H1 w e A1 => w G0 H0 G1 H1 σ1 r A1 (l.mono e) Q fun ρ2 μ2 σ2 G2 H2 p e2 A2 => q _ _ _ _ _ p (e.trans e2) A2⟩
theorem wg_tup {gs : TGs} {ds : List D} {n : Nat} (hn : ds.length = n) (h : WGs K gs ds ρ μ Ψ) : WG K (gTup K n gs) (.tup ds) ρ μ Ψ := fun G0 H0 G H σ v A i Q q => by
  obtain ⟨a, xs, rfl, e, l⟩ := i
  exact ⟨a, xs, rfl, SqT.of (A.gh _ _ e), by rw [l.len]; exact hn, h G0 H0 G H σ xs A l Q q⟩
theorem pw_drop (h : WE K te ρ μ fun _ μ' => Φ (.nx ρ μ')) : PW K (tDrop te) ρ μ Φ := fun G0 H0 G H σ D A hd =>
  h G0 H0 G H σ A _ fun v d μ' G' H' p e A' i => hd.nx ρ μ' σ G' H' p A'
theorem pw_ret (h : WE K te ρ μ fun d μ' => Φ (.rt d μ')) : PW K (tRet te) ρ μ Φ := fun G0 H0 G H σ D A hd =>
  h G0 H0 G H σ A _ fun v d μ' G' H' p e A' i => hd.rt d μ' v G' H' p A'.bare i
theorem pw_if {tc : TT} (h : WT K tc ρ μ fun b μ' => (b = true → PW K ts ρ μ' Φ) ∧ (b = false → PW K tu ρ μ' Φ)) : PW K (tIfS tc ts tu) ρ μ Φ := fun G0 H0 G H σ D A hd =>
  h G0 H0 G H σ A _ fun b μ' G' H' p e A' => by
    cases b with
    | true => exact p.1 rfl G0 H0 G' H' σ D A' hd
    | false => exact p.2 rfl G0 H0 G' H' σ D A' hd
theorem pw_ifE {tc : TT} {b : Bool} (h : EvT K tc ρ μ b) (h1 : b = true → PW K ts ρ μ Φ) (h2 : b = false → PW K tu ρ μ Φ) : PW K (tIfS tc ts tu) ρ μ Φ := pw_if (h.go ⟨h1, h2⟩)
/-- name += e -/
theorem pw_aug {i : Nat} {f : Int → Int → Int} {n : Int} (hx : ρ[i]? = some (some (.int n))) (h : WE K te ρ μ fun d μ' => ∃ m, d = .int m ∧ Φ (.nx (ρ.set i (some (.int (f n m)))) μ')) : PW K (tAug i te (ipI f)) ρ μ Φ := fun G0 H0 G H σ D A hd => by
  obtain ⟨v, h1, h2⟩ := A.sl.2 i _ hx
  refine ⟨v, h1, h G0 H0 G H σ A _ fun u d μ' G' H' p e A' i2 => ?_⟩
  obtain ⟨m, rfl, p⟩ := p
  exact ⟨n, m, h2, i2, hd.nx _ _ _ _ _ p (A'.ofSl (A'.sl.set rfl))⟩
/-- a ghost step: a list cell becomes data; slot i holds it -/
theorem pw_freezeL {i : Nat} {ds : List D} (hx : ρ[i]? = some (some (.raw (.ref a)))) (hm : μ a = some (.lst ds)) (h : PW K ts (ρ.set i (some (.lst ds))) (fun b => if b = a then none else μ b) Φ) : PW K ts ρ μ Φ := fun G0 H0 G H σ D A hd => by
  obtain ⟨G', e, i2, A'⟩ := A.freezeL hm
  obtain ⟨v, h1, h2⟩ := A.sl.2 i _ hx
  cases h2
  refine h G0 H0 G' H σ D (A'.ofSl ?_) hd
  have := A'.sl.set (i := i) i2
  have es : σ.set i (some (.ref a)) = σ := by
    refine List.ext_getElem? fun j => ?_
    by_cases hj : i = j
    · subst hj
      rw [h1, List.getElem?_set_self ((List.getElem?_eq_some_iff.mp h1).1)]
    · rw [List.getElem?_set_ne hj]
  rw [es] at this; exact this
theorem pw_freezeD {i : Nat} {m : List (List Key × D)} (hx : ρ[i]? = some (some (.raw (.ref a)))) (hm : μ a = some (.dct m)) (h : PW K ts (ρ.set i (some (.dct (m.map (·.1)) (m.map (·.2))))) (fun b => if b = a then none else μ b) Φ) : PW K ts ρ μ Φ := fun G0 H0 G H σ D A hd => by
  obtain ⟨G', e, i2, A'⟩ := A.freezeD hm
  obtain ⟨v, h1, h2⟩ := A.sl.2 i _ hx
  cases h2
  refine h G0 H0 G' H σ D (A'.ofSl ?_) hd
  have := A'.sl.set (i := i) i2
  have es : σ.set i (some (.ref a)) = σ := by
    refine List.ext_getElem? fun j => ?_
    by_cases hj : i = j
    · subst hj
      rw [h1, List.getElem?_set_self ((List.getElem?_eq_some_iff.mp h1).1)]
    · rw [List.getElem?_set_ne hj]
  rw [es] at this; exact this
/-- fewer cells -/
theorem pw_less {μ' : Mu} (s : μ'.sub μ) (h : PW K ts ρ μ' Φ) : PW K ts ρ μ Φ := fun G0 H0 G H σ D A hd => h G0 H0 G H σ D (A.drop s) hd
/-- slots forgotten or told otherwise -/
theorem pw_rho {ρ' : List (Option D)} (e : ρ = ρ') (h : PW K ts ρ' μ Φ) : PW K ts ρ μ Φ := e ▸ h

/-! ### stores -/
theorem putF_len (f : Str) (y : V) (fs : List (Str × V)) : True := trivial
theorem FsIs.put {f : Str} {v : V} (hd : Is K G d v) : ∀ {fs : List (Str × D)} {gs : List (Str × V)}, FsIs K G fs gs → FsIs K G (putD f d fs) (putF f v gs)
  | [], _, h => by cases h; exact ⟨v, [], rfl, hd, rfl⟩
  | (g, c) :: fs, _, h => by
    obtain ⟨x, r, e1, i, l⟩ := h
    subst e1
    unfold putD putF
    by_cases q : f = g
    · first
        | (rw [if_pos q, if_pos q]; exact ⟨v, r, rfl, hd, l⟩)
        | (rw [if_pos q, if_pos q]; subst q; exact ⟨v, r, rfl, hd, l⟩)
        | (subst q; simp; exact ⟨v, r, rfl, hd, l⟩)
    · first
        | (rw [if_neg q, if_neg q]; exact ⟨x, _, rfl, i, FsIs.put hd l⟩)
        | (rw [if_neg q, if_neg (Ne.symm q)]; exact ⟨x, _, rfl, i, FsIs.put hd l⟩)
theorem pw_fld {f : Str} (h : WE K te ρ μ fun d μ1 => WE K ta ρ μ1 fun o μ2 => ∃ a C fs, o = .raw (.ref a) ∧ μ2 a = some (.ins C fs) ∧ Cls K C ∧ NoAttr K C f ∧ fs.length < 1000 ∧ Φ (.nx ρ (μ2.upd a (.ins C (putD f d fs))))) : PW K (sFld K ta te f) ρ μ Φ := fun G0 H0 G H σ D A hd =>
  h G0 H0 G H σ A _ fun v d μ1 G1 H1 w e1 A1 i1 => w G0 H0 G1 H1 σ A1 _ fun u o μ2 G2 H2 p e2 A2 i2 => by
    obtain ⟨a, C, fs, rfl, hm, cl, na, hl, p⟩ := p
    cases i2
    obtain ⟨_, _, dx, gs, h1, h2⟩ := A2.rep a _ hm
    exact ⟨a, C, dx, gs, rfl, h1, cl, na, by rw [h2.len]; exact hl, hd.nx _ _ _ _ _ p (A2.write hm ⟨dx, _, L2.upd_same, h2.put (i1.mono e2)⟩)⟩
theorem pw_dput (h : WE K te ρ μ fun d μ1 => WE K ta ρ μ1 fun o μ2 => WE K tb ρ μ2 fun kd μ3 => ∃ a m k, o = .raw (.ref a) ∧ μ3 a = some (.dct m) ∧ keysOf kd = some k ∧ m.length < sizeLine ∧ Φ (.nx ρ (μ3.upd a (.dct (put m k d))))) : PW K (sDPut ta tb te) ρ μ Φ := fun G0 H0 G H σ D A hd =>
  h G0 H0 G H σ A _ fun v d μ1 G1 H1 w e1 A1 i1 => w G0 H0 G1 H1 σ A1 _ fun u o μ2 G2 H2 w2 e2 A2 i2 => w2 G0 H0 G2 H2 σ A2 _ fun u3 kd μ3 G3 H3 p e3 A3 i3 => by
    obtain ⟨a, m, k, rfl, hm, hk, hz, p⟩ := p
    cases i2
    obtain ⟨_, _, kvs, h1, h2⟩ := A3.rep a _ hm
    obtain ⟨b, rfl, hb⟩ := keysOf_ok hk i3
    exact ⟨a, _, rfl, DPut.t h1 (A3.gh _ _ hb) (by rw [h2.len]; exact hz), hd.nx _ _ _ _ _ p (A3.write hm ⟨_, L2.upd_same, h2.put (i1.mono (e2.trans e3))⟩)⟩
/-- o[i] = v of a list cell, as a target -/
theorem wg_subL {to ti : TE} (h : WE K to ρ μ fun o μ1 => WE K ti ρ μ1 fun ix μ2 => ∃ a ds i j, o = .raw (.ref a) ∧ ix = .int i ∧ μ2 a = some (.lst ds) ∧ ixN ds.length i = some j ∧ Ψ ρ (μ2.upd a (.lst (ds.set j d)))) : WG K (gSub to ti rSetL) d ρ μ Ψ := fun G0 H0 G H σ v A iv Q q =>
  h G0 H0 G H σ A _ fun u o μ1 G1 H1 w e1 A1 i1 => w G0 H0 G1 H1 σ A1 _ fun u2 ix μ2 G2 H2 p e2 A2 i2 => by
    obtain ⟨a, ds, i, j, rfl, rfl, hm, hj, p⟩ := p
    cases i1; cases i2
    obtain ⟨_, _, xs, h1, h2⟩ := A2.rep a _ hm
    exact ⟨a, xs, i, j, rfl, rfl, h1, by rw [h2.len]; exact hj, q _ _ _ _ _ p (e1.trans e2) (A2.write hm ⟨_, L2.upd_same, h2.set j (iv.mono (e1.trans e2))⟩)⟩
end
end Hw
set_option Elab.async false
set_option linter.all false
set_option maxRecDepth 100000
set_option maxHeartbeats 4000000
/-! The calculus' rules: loops, comprehensions. -/
namespace Hw
open PySem PySem.Spec L2

section
variable (K : PySem.W.Frag)
/-- the iterator J goes through ds while inv holds -/
def Good (Gb : Hp) (J : It) (ds : List D) (inv : Mu → Prop) : Prop := ∀ (G0 H0 G H : Hp) (ρ : List (Option D)) (μ : Mu) (σ : L2.St), Ex Gb G → At K G0 H0 ρ μ G H σ → inv μ →
  (∀ (i : Nat) (d : D), ds[i]? = some d → J.go i H ∧ ∀ x H', J.yld i H x H' → ∃ G', Ex G G' ∧ At K G0 H0 ρ μ G' H' σ ∧ Is K G' d x) ∧ J.stop ds.length H
def WI (wi : TI) (ρ : List (Option D)) (μ : Mu) (P : List D → (Mu → Prop) → Mu → Prop) : Prop := ∀ (G0 H0 G H : Hp) (σ : L2.St), At K G0 H0 ρ μ G H σ → ∀ R : It → Hp → Prop,
  (∀ J ds inv μ' G' H', P ds inv μ' → Ex G G' → At K G0 H0 ρ μ' G' H' σ → Good K G' J ds inv → R J H') → wi σ H R
end
section
variable {K : PySem.W.Frag} {G G' H H' G0 H0 : Hp} {σ σ' : L2.St} {ρ ρ' : List (Option D)} {μ μ' : Mu} {a : Addr} {te ta tb : TE} {P : D → Mu → Prop} {x y z d : D} {t : TA} {Φ : Out → Prop} {ts tu : TS} {g : TG}
theorem At.rebase (A : At K G0 H0 ρ μ G H σ) : At K G H0 ρ μ G H σ := ⟨Ex.refl _, A.gh, A.h, fun _ x _ => x, A.sl, A.rep⟩
theorem At.unbase (A : At K G0 H0 ρ μ G H σ) (B : At K G H0 ρ' μ' G' H' σ') : At K G0 H0 ρ' μ' G' H' σ' := ⟨A.g.trans B.g, B.gh, B.h, fun a x y => A.new a (B.new a x y) y, B.sl, B.rep⟩
theorem wi_tup {ds : List D} {PI : List D → (Mu → Prop) → Mu → Prop} (h : WE K te ρ μ fun d μ' => ∃ ds, d = .tup ds ∧ PI ds (fun _ => True) μ') : WI K (iTup K te) ρ μ PI := fun G0 H0 G H σ A R q =>
  h G0 H0 G H σ A _ fun v d μ' G' H' p e A' i => by
    obtain ⟨ds, rfl, p⟩ := p
    obtain ⟨a, xs, rfl, ea, l⟩ := i
    refine ⟨a, rfl, ⟨xs, SqT.of (A'.gh _ _ ea)⟩, q (Itt K a) ds _ μ' G' H' p e A' fun G0 H0 G2 H2 ρ2 μ2 σ2 e2 A2 _ => ⟨fun i d hd => ?_, ⟨xs, SqT.of (A2.gh _ _ (e2 _ _ ea)), by rw [l.len]; exact Nat.le_refl _⟩⟩⟩
    have sq : SqT K H2 a xs := SqT.of (A2.gh _ _ (e2 _ _ ea))
    obtain ⟨w, h1, h2⟩ := l.get hd
    refine ⟨⟨xs, w, sq, h1⟩, fun x H' y => ?_⟩
    obtain ⟨rfl, y⟩ := y
    have hx := y xs sq
    rw [h1] at hx
    cases hx
    exact ⟨G2, Ex.refl _, A2, h2.mono e2⟩
/-- a list as data -/
theorem wi_lst {PI : List D → (Mu → Prop) → Mu → Prop} (h : WE K te ρ μ fun d μ' => ∃ ds, d = .lst ds ∧ PI ds (fun _ => True) μ') : WI K (iList K te) ρ μ PI := fun G0 H0 G H σ A R q =>
  h G0 H0 G H σ A _ fun v d μ' G' H' p e A' i => by
    obtain ⟨ds, rfl, p⟩ := p
    obtain ⟨a, xs, rfl, ea, l⟩ := i
    refine ⟨a, rfl, ⟨xs, SqL.of (A'.gh _ _ ea)⟩, q (Itl K a) ds _ μ' G' H' p e A' fun G0 H0 G2 H2 ρ2 μ2 σ2 e2 A2 _ => ⟨fun i d hd => ?_, ⟨xs, SqL.of (A2.gh _ _ (e2 _ _ ea)), by rw [l.len]; exact Nat.le_refl _⟩⟩⟩
    have sq : SqL K H2 a xs := SqL.of (A2.gh _ _ (e2 _ _ ea))
    obtain ⟨w, h1, h2⟩ := l.get hd
    refine ⟨⟨xs, w, sq, h1⟩, fun x H' y => ?_⟩
    obtain ⟨rfl, y⟩ := y
    have hx := y xs sq
    rw [h1] at hx
    cases hx
    exact ⟨G2, Ex.refl _, A2, h2.mono e2⟩
/-- a list cell that the loop leaves as it is -/
theorem wi_cell {PI : List D → (Mu → Prop) → Mu → Prop} (h : WE K te ρ μ fun d μ' => ∃ a ds, d = .raw (.ref a) ∧ μ' a = some (.lst ds) ∧ PI ds (fun μ => μ a = some (.lst ds)) μ') : WI K (iList K te) ρ μ PI := fun G0 H0 G H σ A R q =>
  h G0 H0 G H σ A _ fun v d μ' G' H' p e A' i => by
    obtain ⟨a, ds, rfl, hm, p⟩ := p
    cases i
    obtain ⟨_, _, xs, h1, l⟩ := A'.rep a _ hm
    refine ⟨a, rfl, ⟨xs, SqL.of h1⟩, q (Itl K a) ds _ μ' G' H' p e A' fun G0 H0 G2 H2 ρ2 μ2 σ2 e2 A2 hm2 => ?_⟩
    obtain ⟨_, _, ys, h2, l2⟩ := A2.rep a _ hm2
    refine ⟨fun i d hd => ?_, ⟨ys, SqL.of h2, by rw [l2.len]; exact Nat.le_refl _⟩⟩
    obtain ⟨w, h3, h4⟩ := l2.get hd
    refine ⟨⟨ys, w, SqL.of h2, h3⟩, fun x H' y => ?_⟩
    obtain ⟨rfl, y⟩ := y
    have hx := y ys (SqL.of h2)
    rw [h3] at hx
    cases hx
    exact ⟨G2, Ex.refl _, A2, h4⟩
def rngD (lo : Int) (n : Nat) : List D := (List.range n).map fun i => .int (lo + (i : Nat))
theorem rngD_len {lo : Int} {n : Nat} : (rngD lo n).length = n := by simp [rngD]
theorem rngD_get {lo : Int} {n i : Nat} (h : (rngD lo n)[i]? = some d) : i < n ∧ d = .int (lo + (i : Nat)) := by
  unfold rngD at h
  rw [List.getElem?_map] at h
  by_cases hi : i < n
  · rw [List.getElem?_range hi] at h
    cases h; exact ⟨hi, rfl⟩
  · rw [List.getElem?_eq_none (by simpa using hi)] at h; cases h
theorem good_rng {lo : Int} {n : Nat} : Good K G (Itr lo n) (rngD lo n) (fun _ => True) := fun G0 H0 G2 H2 ρ2 μ2 σ2 e2 A2 _ => by
  refine ⟨fun i d hd => ?_, by rw [rngD_len]; exact Nat.le_refl _⟩
  obtain ⟨h1, rfl⟩ := rngD_get hd
  refine ⟨h1, fun x H' y => ?_⟩
  obtain ⟨rfl, rfl⟩ := y
  exact ⟨G2, Ex.refl _, A2, rfl⟩
theorem wi_rng1 {PI : List D → (Mu → Prop) → Mu → Prop} {n : Int} (h : EvA K t ρ μ [.int n]) (hn : -(2 ^ 62) ≤ n ∧ n < 2 ^ 62) (p : PI (rngD 0 n.toNat) (fun _ => True) μ) : WI K (iRng1 t) ρ μ PI := fun G0 H0 G H σ A R q =>
  h G0 H0 G H σ A _ fun vs ds μ' G' H' pe e A' l => by
    obtain ⟨rfl, rfl⟩ := pe
    obtain ⟨v, r, rfl, i, l⟩ := l
    cases i; cases l
    exact ⟨n, rfl, hn.1, hn.2, q _ _ _ _ G' H' p e A' good_rng⟩
theorem wi_rng2 {PI : List D → (Mu → Prop) → Mu → Prop} {m n : Int} (h : EvA K t ρ μ [.int m, .int n]) (hn : -(2 ^ 62) ≤ m ∧ m < 2 ^ 62 ∧ -(2 ^ 62) ≤ n ∧ n < 2 ^ 62) (p : PI (rngD m (n - m).toNat) (fun _ => True) μ) : WI K (iRng2 t) ρ μ PI := fun G0 H0 G H σ A R q =>
  h G0 H0 G H σ A _ fun vs ds μ' G' H' pe e A' l => by
    obtain ⟨rfl, rfl⟩ := pe
    obtain ⟨v, r, rfl, i, l⟩ := l
    obtain ⟨v2, r2, rfl, i2, l⟩ := l
    cases i; cases i2; cases l
    exact ⟨m, n, rfl, hn, q _ _ _ _ G' H' p e A' good_rng⟩
/-- behind a turn -/
def loopO (Φ : Out → Prop) (N : List (Option D) → Mu → Prop) : Out → Prop
  | .nx ρ μ => N ρ μ
  | .ct ρ μ => N ρ μ
  | .bk ρ μ => Φ (.nx ρ μ)
  | .rt d μ => Φ (.rt d μ)
theorem pw_for {wi : TI} (I : Nat → List (Option D) → Mu → Prop) (hi : WI K wi ρ μ fun ds inv μ' => I 0 ρ μ' ∧ (∀ i ρ μ, I i ρ μ → inv μ) ∧
      (∀ (i : Nat) d ρ μ, ds[i]? = some d → I i ρ μ → WG K g d ρ μ fun ρ1 μ1 => PW K ts ρ1 μ1 (loopO Φ (I (i + 1)))) ∧ ∀ ρ μ, I ds.length ρ μ → Φ (.nx ρ μ)) : PW K (tFor wi g ts) ρ μ Φ := fun G0 H0 G H σ D A hd =>
  hi G0 H0 G H σ A _ fun J ds inv μ' G' H' p e A' good => by
    obtain ⟨p0, pinv, pt, pend⟩ := p
    refine ⟨fun i m σ2 H2 => m = ds.length - i ∧ i ≤ ds.length ∧ ∃ ρ2 μ2 G2, I i ρ2 μ2 ∧ At K G' H0 ρ2 μ2 G2 H2 σ2, ⟨_, rfl, Nat.zero_le _, _, _, _, p0, A'.rebase⟩, ?_⟩
    rintro i m σ2 H2 ⟨rfl, hle, ρ2, μ2, G2, hI, A2⟩
    obtain ⟨gd, gs⟩ := good G' H0 G2 H2 ρ2 μ2 σ2 A2.g A2 (pinv _ _ _ hI)
    by_cases hlt : i < ds.length
    · have hd2 : ds[i]? = some ds[i] := List.getElem?_eq_getElem hlt
      obtain ⟨go, yl⟩ := gd i _ hd2
      refine .inr ⟨go, fun σ3 H3 => i + 1 ≤ ds.length ∧ ∃ ρ3 μ3 G3, I (i + 1) ρ3 μ3 ∧ At K G' H0 ρ3 μ3 G3 H3 σ3, fun σ3 H3 n => ⟨ds.length - (i + 1), by omega, rfl, n.1, n.2⟩, fun x H3 y => ?_⟩
      obtain ⟨G3, e3, A3, i3⟩ := yl x H3 y
      refine pt i _ ρ2 μ2 hd2 hI G' H0 G3 H3 σ2 x A3 i3 _ fun ρ4 μ4 σ4 G4 H4 w e4 A4 => w G' H0 G4 H4 σ4 _ A4 ⟨?_, ?_, ?_, ?_⟩
      · intro ρ5 μ5 σ5 G5 H5 h5 A5
        exact ⟨hlt, ρ5, μ5, G5, h5, A5⟩
      · intro d5 μ5 v5 G5 H5 h5 A5 i5
        exact hd.rt d5 μ5 v5 G5 H5 h5 (A'.bare.unbase A5) i5
      · intro ρ5 μ5 σ5 G5 H5 h5 A5
        exact hd.nx ρ5 μ5 σ5 G5 H5 h5 (A'.unbase A5)
      · intro ρ5 μ5 σ5 G5 H5 h5 A5
        exact ⟨hlt, ρ5, μ5, G5, h5, A5⟩
    · have ei : i = ds.length := by omega
      subst ei
      exact .inl ⟨gs, hd.nx _ _ _ _ _ (pend _ _ hI) (A'.unbase A2)⟩
theorem pw_while {tc : TT} (I : Nat → List (Option D) → Mu → Prop) {m0 : Nat} (h0 : I m0 ρ μ)
    (hs : ∀ m ρ μ, I m ρ μ → WT K tc ρ μ fun b μ' => (b = true → PW K ts ρ μ' (loopO Φ fun ρ2 μ2 => ∃ m', m' < m ∧ I m' ρ2 μ2)) ∧ (b = false → Φ (.nx ρ μ'))) : PW K (tWhile tc ts) ρ μ Φ := fun G0 H0 G H σ D A hd => by
  refine ⟨fun m σ2 H2 => ∃ ρ2 μ2 G2, I m ρ2 μ2 ∧ At K G0 H0 ρ2 μ2 G2 H2 σ2, ⟨m0, ρ, μ, G, h0, A⟩, ?_⟩
  rintro m σ2 H2 ⟨ρ2, μ2, G2, hI, A2⟩
  refine hs m ρ2 μ2 hI G0 H0 G2 H2 σ2 A2 _ fun b μ3 G3 H3 p e A3 => ?_
  cases b with
  | false => exact hd.nx _ _ _ _ _ (p.2 rfl) A3
  | true =>
    refine ⟨fun σ3 H3 => ∃ m', m' < m ∧ ∃ ρ3 μ3 G3, I m' ρ3 μ3 ∧ At K G0 H0 ρ3 μ3 G3 H3 σ3, fun σ3 H3 n => n, p.1 rfl G0 H0 G3 H3 σ2 _ A3 ⟨?_, ?_, ?_, ?_⟩⟩
    · intro ρ5 μ5 σ5 G5 H5 h5 A5
      obtain ⟨m', hm, h5⟩ := h5
      exact ⟨m', hm, ρ5, μ5, G5, h5, A5⟩
    · intro d5 μ5 v5 G5 H5 h5 A5 i5
      exact hd.rt d5 μ5 v5 G5 H5 h5 A5 i5
    · intro ρ5 μ5 σ5 G5 H5 h5 A5
      exact hd.nx ρ5 μ5 σ5 G5 H5 h5 A5
    · intro ρ5 μ5 σ5 G5 H5 h5 A5
      obtain ⟨m', hm, h5⟩ := h5
      exact ⟨m', hm, ρ5, μ5, G5, h5, A5⟩

/-! ### comprehensions -/
/-- a target that stores the slots vs alone -/
def GOk (g : TG) (vs : List Nat) : Prop := ∀ (v : V) (σ0 σ : L2.St) (H : Hp) (Q : L2.St → Hp → Prop), wipe σ vs = wipe σ0 vs → g v σ H Q → g v σ H fun σ' H' => wipe σ' vs = wipe σ0 vs ∧ Q σ' H'
def GsOk (g : TGs) (vs : List Nat) : Prop := ∀ (v : List V) (σ0 σ : L2.St) (H : Hp) (Q : L2.St → Hp → Prop), wipe σ vs = wipe σ0 vs → g v σ H Q → g v σ H fun σ' H' => wipe σ' vs = wipe σ0 vs ∧ Q σ' H'
theorem wipe_get (σ : L2.St) (j : Nat) : ∀ vs : List Nat, (wipe σ vs)[j]? = if j ∈ vs then (if j < σ.length then some none else none) else σ[j]?
  | [] => by simp [wipe]
  | v :: vs => by
    unfold wipe
    by_cases hv : v = j
    · subst hv
      by_cases hl : v < σ.length
      · rw [List.getElem?_set_self (by rw [wipe_length]; exact hl)]
        simp [hl]
      · rw [List.getElem?_eq_none (by rw [List.length_set, wipe_length]; omega)]
        simp [hl]
    · rw [List.getElem?_set_ne hv, wipe_get σ j vs]
      simp [Ne.symm hv]
theorem wipe_set {σ : L2.St} {vs : List Nat} {i : Nat} {o : Option V} (h : i ∈ vs) : wipe (σ.set i o) vs = wipe σ vs := by
  refine List.ext_getElem? fun j => ?_
  rw [wipe_get, wipe_get, List.length_set]
  by_cases hj : j ∈ vs
  · rw [if_pos hj, if_pos hj]
  · rw [if_neg hj, if_neg hj, List.getElem?_set_ne (fun z => hj (by rw [← z]; exact h))]
theorem wipe_wipe {σ : L2.St} {vs : List Nat} : wipe (wipe σ vs) vs = wipe σ vs := by
  refine List.ext_getElem? fun j => ?_
  rw [wipe_get, wipe_get, wipe_length]
  by_cases hj : j ∈ vs
  · rw [if_pos hj, if_pos hj]
  · rw [if_neg hj, if_neg hj]
theorem gok_name {i : Nat} {vs : List Nat} (h : i ∈ vs := by simp) : GOk (gName i) vs := fun v σ0 σ H Q e q => ⟨(wipe_set h).trans e, q⟩
theorem gsok_nil {vs : List Nat} : GsOk gNil vs := fun v σ0 σ H Q e q => ⟨q.1, e, q.2⟩
theorem gsok_name {i : Nat} {gs : TGs} {vs : List Nat} (h : i ∈ vs) (k : GsOk gs vs) : GsOk (gCons (gName i) gs) vs := fun v σ0 σ H Q e q => by
  obtain ⟨x, r, rfl, q⟩ := q
  exact ⟨x, r, rfl, k r σ0 (σ.set i (some x)) H Q ((wipe_set h).trans e) q⟩
theorem gok_tup {n : Nat} {gs : TGs} {vs : List Nat} (k : GsOk gs vs) : GOk (gTup K n gs) vs := fun v σ0 σ H Q e q => by
  obtain ⟨a, xs, rfl, h1, h2, q⟩ := q
  exact ⟨a, xs, rfl, h1, h2, k xs σ0 σ H Q e q⟩
theorem WT.yes {PT : Bool → Mu → Prop} (p : PT true μ) : WT K tYes ρ μ PT := fun G0 H0 G H σ A Q q => q true μ G H p (Ex.refl _) A
/-- with one more thing that stands still -/
theorem At.guard {D : Addr} {o : HO} (A : At K G0 H0 ρ μ G H σ) (hG : G D = none) (hH : H D = some o) (hm : μ D = none) : At K G (L2.upd H0 D o) ρ μ G H σ := by
  refine ⟨Ex.refl _, A.gh, fun b u e => ?_, fun _ x _ => x, A.sl, fun b mo e => ?_⟩
  · by_cases z : b = D
    · subst z; rw [L2.upd_same] at e; cases e; exact hH
    · rw [L2.upd_ne z] at e; exact A.h b u e
  · obtain ⟨r1, r2, r3⟩ := A.rep b mo e
    have z : b ≠ D := fun z => by subst z; rw [hm] at e; cases e
    exact ⟨r1, by rw [L2.upd_ne z]; exact r2, r3⟩
theorem At.unguard {D : Addr} {o : HO} (A : At K G0 H0 ρ μ G H σ) (h0 : H0 D = none) (hG : G D = none) (B : At K G (L2.upd H0 D o) ρ' μ' G' H' σ') : At K G0 H0 ρ' μ' G' H' σ' ∧ G' D = none ∧ H' D = some o ∧ μ' D = none := by
  have gd : G' D = none := by
    cases q : G' D with
    | none => rfl
    | some u => exact absurd hG (B.new D (by rw [q]; simp) (by rw [L2.upd_same]; simp))
  have ex : Ex H0 (L2.upd H0 D o) := Ex.new h0
  refine ⟨⟨A.g.trans B.g, B.gh, ex.trans B.h, fun b x y => A.new b (B.new b x (ex.nn y)) y, B.sl, fun b mo e => ?_⟩, gd, B.h D o L2.upd_same, ?_⟩
  · obtain ⟨r1, r2, r3⟩ := B.rep b mo e
    exact ⟨r1, ex.off r2, r3⟩
  · cases q : μ' D with
    | none => rfl
    | some mo =>
      have := (B.rep D mo q).2.1
      rw [L2.upd_same] at this; cases this
/-- the hidden list grows -/
theorem At.hidden {D : Addr} {o : HO} (A : At K G0 H0 ρ μ G H σ) (h0 : H0 D = none) (hG : G D = none) (hm : μ D = none) : At K G0 H0 ρ μ G (L2.upd H D o) σ := by
  have ne : ∀ {X : Hp} {b u}, X b = some u → X D = none → b ≠ D := fun {X b u} q n z => by subst z; rw [n] at q; cases q
  refine ⟨A.g, fun b u q => by rw [L2.upd_ne (ne q hG)]; exact A.gh b u q, fun b u q => by rw [L2.upd_ne (ne q h0)]; exact A.h b u q, A.new, A.sl, fun b mo e => ?_⟩
  obtain ⟨r1, r2, r3⟩ := A.rep b mo e
  have z : b ≠ D := fun z => by subst z; rw [hm] at e; cases e
  exact ⟨r1, r2, r3.mono (Ex.refl _) (L2.upd_ne z)⟩
theorem At.wiped (A : At K G0 H0 ρ μ G H σ) (vs : List Nat) : At K G0 H0 (wipeR ρ vs) μ G H (wipe σ vs) := A.ofSl (A.sl.wipe vs)
theorem we_lc {wi : TI} {tt : TT} {vs : List Nat} (J : Nat → List D → Mu → Prop) (hg : GOk g vs) (hi : WI K wi ρ μ fun ds inv μ' => J 0 [] μ' ∧ (∀ i acc μ, J i acc μ → inv μ ∧ acc.length ≤ i) ∧ ds.length ≤ sizeLine ∧
      (∀ (i : Nat) d acc μ, ds[i]? = some d → J i acc μ → WG K g d (wipeR ρ vs) μ fun ρ1 μ1 => WT K tt ρ1 μ1 fun b μ2 => (b = true → WE K te ρ1 μ2 fun y μ3 => J (i + 1) (acc ++ [y]) μ3) ∧ (b = false → J (i + 1) acc μ2)) ∧
      ∀ acc μ, J ds.length acc μ → P (.lst acc) μ) : WE K (tLc wi g tt te vs) ρ μ P := fun G0 H0 G H σ A Q q =>
  hi G0 H0 G H σ A _ fun I ds inv μ' G' H' p e A' good D hD => by
    obtain ⟨p0, pinv, pz, pt, pend⟩ := p
    have gD : G' D = none := A'.gh.off hD
    have h0D : H0 D = none := A'.h.off hD
    have mD := A'.muNone hD
    refine ⟨fun i m H2 => m = ds.length - i ∧ i ≤ ds.length ∧ ∃ μ2 G2 acc xs, J i acc μ2 ∧ At K G' H0 ρ μ2 G2 H2 σ ∧ IsL K G2 acc xs ∧ H2 D = some (.lst xs) ∧ G2 D = none ∧ μ2 D = none,
      ⟨_, rfl, Nat.zero_le _, μ', G', [], [], p0, (A'.step (Ex.refl _) (Ex.new hD) (A'.gh.trans (Ex.new hD)) (fun _ x _ => x)).rebase, rfl, L2.upd_same, gD, mD⟩, ?_⟩
    rintro i m H2 ⟨rfl, hle, μ2, G2, acc, xs, hJ, A2, l2, hD2, gD2, mD2⟩
    obtain ⟨iv, hacc⟩ := pinv _ _ _ hJ
    by_cases hlt : i < ds.length
    · have hd2 : ds[i]? = some ds[i] := List.getElem?_eq_getElem hlt
      have B := A2.guard gD2 hD2 mD2
      obtain ⟨gd, gs⟩ := good G2 _ G2 H2 ρ μ2 σ A2.g B iv
      obtain ⟨go, yl⟩ := gd i _ hd2
      refine .inr ⟨go, fun H3 => i + 1 ≤ ds.length ∧ ∃ μ3 G3 acc xs, J (i + 1) acc μ3 ∧ At K G' H0 ρ μ3 G3 H3 σ ∧ IsL K G3 acc xs ∧ H3 D = some (.lst xs) ∧ G3 D = none ∧ μ3 D = none, fun H3 n => ⟨ds.length - (i + 1), by omega, rfl, n.1, n.2⟩, fun x H3 y => ?_⟩
      obtain ⟨G3, e3, B3, i3⟩ := yl x H3 y
      refine hg x σ _ H3 _ wipe_wipe (pt i _ acc μ2 hd2 hJ _ _ G3 H3 _ x (B3.wiped vs) i3 _ fun ρ4 μ4 σ4 G4 H4 w e4 B4 => ?_)
      -- back behind the turn: the state ahead, wiped and given back
      have back : ∀ {ρ5 μ5 G5 H5} {σ5 : L2.St}, At K G2 (L2.upd H0 D (.lst xs)) ρ5 μ5 G5 H5 σ5 → At K G' H0 ρ μ5 G5 H5 σ ∧ G5 D = none ∧ H5 D = some (.lst xs) ∧ μ5 D = none ∧ Ex G2 G5 := fun {ρ5 μ5 G5 H5 σ5} C => by
        obtain ⟨C1, C2, C3, C4⟩ := A2.unguard (by exact h0D) gD2 C
        exact ⟨C1.ofSl (A2.sl.mono C.g), C2, C3, C4, C.g⟩
      refine w _ _ G4 H4 σ4 B4 _ fun b μ5 G5 H5 p5 e5 B5 => ?_
      cases b with
      | false =>
        obtain ⟨C1, C2, C3, C4, C5⟩ := back B5
        exact ⟨hlt, μ5, G5, acc, xs, p5.2 rfl, C1, l2.mono C5, C3, C2, C4⟩
      | true =>
        refine p5.1 rfl _ _ G5 H5 σ4 B5 _ fun v6 d6 μ6 G6 H6 p6 e6 B6 i6 => ?_
        obtain ⟨C1, C2, C3, C4, C5⟩ := back B6
        refine ⟨xs, C3, by rw [l2.len]; omega, hlt, μ6, G6, acc ++ [d6], xs ++ [v6], p6, C1.hidden h0D C2 C4, (l2.mono C5).app ⟨v6, [], rfl, i6, rfl⟩, L2.upd_same, C2, C4⟩
    · have ei : i = ds.length := by omega
      subst ei
      obtain ⟨_, gs⟩ := good G' H0 G2 H2 ρ μ2 σ A2.g A2 iv
      refine .inl ⟨gs, ?_⟩
      have eg : Ex G2 (L2.upd G2 D (.lst xs)) := Ex.new gD2
      have A3 : At K G' H0 ρ μ2 (L2.upd G2 D (.lst xs)) H2 σ := by
        refine ⟨A2.g.trans eg, fun b u z => ?_, A2.h, fun b x y => ?_, A2.sl.mono eg, fun b mo z => ?_⟩
        · by_cases zb : b = D
          · subst zb; rw [L2.upd_same] at z; cases z; exact hD2
          · rw [L2.upd_ne zb] at z; exact A2.gh b u z
        · by_cases zb : b = D
          · subst zb; exact absurd h0D y
          · rw [L2.upd_ne zb] at x; exact A2.new b x y
        · obtain ⟨r1, r2, r3⟩ := A2.rep b mo z
          have zb : b ≠ D := fun zb => by subst zb; rw [mD2] at z; cases z
          exact ⟨by rw [L2.upd_ne zb]; exact r1, r2, r3.mono eg rfl⟩
      exact q _ _ _ _ _ (pend _ _ hJ) (e.trans (A2.g.trans eg)) (A'.unbase A3) ⟨D, xs, rfl, L2.upd_same, l2.mono eg⟩
end
end Hw
set_option Elab.async false
set_option linter.all false
set_option maxRecDepth 100000
set_option maxHeartbeats 4000000
/-! The calculus' rules: two fors in one comprehension. -/
namespace Hw
open PySem PySem.Spec L2
section
variable {K : PySem.W.Frag} {G G' H H' G0 H0 : Hp} {σ σ' : L2.St} {ρ ρ' : List (Option D)} {μ μ' : Mu} {a : Addr} {te ta tb : TE} {P : D → Mu → Prop} {x y z d : D} {t : TA} {Φ : Out → Prop} {ts tu : TS} {g g1 : TG}
theorem wipe_sub {σ : L2.St} {vs vs1 : List Nat} (h : ∀ i ∈ vs1, i ∈ vs) : wipe (wipe σ vs1) vs = wipe σ vs := by
  refine List.ext_getElem? fun j => ?_
  rw [wipe_get, wipe_get, wipe_get, wipe_length]
  by_cases hj : j ∈ vs
  · rw [if_pos hj, if_pos hj]
  · rw [if_neg hj, if_neg hj, if_neg (fun z => hj (h j z))]
/-- pure: both walks and the element change nothing; row d: what the inner walk goes through at the outer item d -/
theorem ev_lc2 {wi wi1 : TI} {vs vs1 : List Nat} {es : List D} (row : D → List D) (f : D → D → D) (hg : GOk g vs) (hg1 : GOk g1 vs1) (hv : ∀ i ∈ vs1, i ∈ vs) (hz : ((es.map fun d => (row d).map (f d)).flatten).length ≤ sizeLine)
    (hi : WI K wi ρ μ fun ds inv μ' => ds = es ∧ μ' = μ ∧ inv μ ∧ ∀ (i : Nat) d, ds[i]? = some d → WG K g d (wipeR ρ vs) μ fun ρ1 μ1 => μ1 = μ ∧ WI K wi1 ρ1 μ fun ds1 inv1 μ2 => ds1 = row d ∧ μ2 = μ ∧ inv1 μ ∧
      ∀ (j : Nat) d1, ds1[j]? = some d1 → WG K g1 d1 (wipeR ρ1 vs1) μ fun ρ2 μ3 => μ3 = μ ∧ Ev K te ρ2 μ (f d d1)) : Ev K (tLc2 wi g tYes wi1 g1 tYes te vs vs1) ρ μ (.lst (es.map fun d => (row d).map (f d)).flatten) := fun G0 H0 G H σ A Q q =>
  hi G0 H0 G H σ A _ fun I ds inv μ' G' H' p e A' good D hD => by
    obtain ⟨rfl, rfl, pinv, pt⟩ := p
    have gD : G' D = none := A'.gh.off hD
    have h0D : H0 D = none := A'.h.off hD
    have mD := A'.muNone hD
    generalize hall : (ds.map fun d => (row d).map (f d)) = all at hz q
    refine ⟨fun i m H2 => m = ds.length - i ∧ i ≤ ds.length ∧ ∃ G2 xs, At K G' H0 ρ μ' G2 H2 σ ∧ IsL K G2 (all.take i).flatten xs ∧ H2 D = some (.lst xs) ∧ G2 D = none,
      ⟨_, rfl, Nat.zero_le _, G', [], (A'.step (Ex.refl _) (Ex.new hD) (A'.gh.trans (Ex.new hD)) (fun _ x _ => x)).rebase, by simp; rfl, L2.upd_same, gD⟩, ?_⟩
    rintro i m H2 ⟨rfl, hle, G2, xs, A2, l2, hD2, gD2⟩
    by_cases hlt : i < ds.length
    · have hd2 : ds[i]? = some ds[i] := List.getElem?_eq_getElem hlt
      have B := A2.guard gD2 hD2 mD
      obtain ⟨gd, gs⟩ := good G2 _ G2 H2 ρ μ' σ A2.g B pinv
      obtain ⟨go, yl⟩ := gd i _ hd2
      refine .inr ⟨go, fun H3 => i + 1 ≤ ds.length ∧ ∃ G3 xs, At K G' H0 ρ μ' G3 H3 σ ∧ IsL K G3 (all.take (i + 1)).flatten xs ∧ H3 D = some (.lst xs) ∧ G3 D = none, fun H3 n => ⟨ds.length - (i + 1), by omega, rfl, n.1, n.2⟩, fun x H3 y => ?_⟩
      obtain ⟨G3, e3, B3, i3⟩ := yl x H3 y
      refine hg x σ _ H3 _ wipe_wipe (pt i _ hd2 _ _ G3 H3 _ x (B3.wiped vs) i3 _ fun ρ4 μ4 σ4 G4 H4 w e4 B4 => ?_)
      obtain ⟨rfl, w⟩ := w
      have back : ∀ {ρ5 μ5 G5 H5} {σ5 : L2.St}, At K G2 (L2.upd H0 D (.lst xs)) ρ5 μ5 G5 H5 σ5 → At K G' H0 ρ μ5 G5 H5 σ ∧ G5 D = none ∧ H5 D = some (.lst xs) ∧ Ex G2 G5 := fun {ρ5 μ5 G5 H5 σ5} C => by
        obtain ⟨C1, C2, C3, C4⟩ := A2.unguard (by exact h0D) gD2 C
        exact ⟨C1.ofSl (A2.sl.mono C.g), C2, C3, C.g⟩
      show tYes σ4 H4 _
      -- the inner walk, with the list as it stands
      refine w _ _ G4 H4 σ4 B4 _ fun I1 ds1 inv1 μ5 G5 H5 p5 e5 B5 good1 => ?_
      obtain ⟨rfl, rfl, pinv1, pt1⟩ := p5
      obtain ⟨C1, C2, C3, C5⟩ := back B5
      have hrow : all[i]? = some ((row ds[i]).map (f ds[i])) := by rw [← hall, List.getElem?_map, hd2]; rfl
      have htake : (all.take (i + 1)).flatten = (all.take i).flatten ++ (row ds[i]).map (f ds[i]) := by
        rw [List.take_succ, hrow, List.flatten_append]; simp
      have hlen : ∀ j, j ≤ (row ds[i]).length → ((all.take i).flatten ++ ((row ds[i]).map (f ds[i])).take j).length ≤ all.flatten.length := fun j hj => by
        have h1 : (all.take (i + 1)).flatten.length ≤ all.flatten.length := by
          have : all.flatten = (all.take (i + 1)).flatten ++ (all.drop (i + 1)).flatten := by rw [← List.flatten_append, List.take_append_drop]
          rw [this, List.length_append]; omega
        rw [htake, List.length_append] at h1
        rw [List.length_append, List.length_take]
        omega
      have hrl : ((row ds[i]).map (f ds[i])).length = (row ds[i]).length := by simp
      refine ⟨fun j k H6 => k = (row ds[i]).length - j ∧ j ≤ (row ds[i]).length ∧ ∃ G6 ys, At K G5 H0 ρ4 μ5 G6 H6 σ4 ∧ IsL K G6 ((all.take i).flatten ++ ((row ds[i]).map (f ds[i])).take j) ys ∧ H6 D = some (.lst ys) ∧ G6 D = none,
        ⟨_, rfl, Nat.zero_le _, G5, xs, (C1.ofSl B5.sl).rebase, by simpa using l2.mono C5, C3, C2⟩, ?_⟩
      rintro j k H6 ⟨rfl, hjle, G6, ys, A6, l6, hD6, gD6⟩
      have A6' : At K G' H0 ρ μ5 G6 H6 σ := (C1.unbase (A6.ofSl (C1.sl.mono A6.g)))
      by_cases hjlt : j < (row ds[i]).length
      · have hd7 : (row ds[i])[j]? = some (row ds[i])[j] := List.getElem?_eq_getElem hjlt
        have B6 := A6.guard gD6 hD6 mD
        obtain ⟨gd1, gs1⟩ := good1 G6 _ G6 H6 ρ4 μ5 σ4 A6.g B6 pinv1
        obtain ⟨go1, yl1⟩ := gd1 j _ hd7
        refine .inr ⟨go1, fun H7 => j + 1 ≤ (row ds[i]).length ∧ ∃ G7 ys, At K G5 H0 ρ4 μ5 G7 H7 σ4 ∧ IsL K G7 ((all.take i).flatten ++ ((row ds[i]).map (f ds[i])).take (j + 1)) ys ∧ H7 D = some (.lst ys) ∧ G7 D = none, fun H3 n => ⟨(row ds[i]).length - (j + 1), by omega, rfl, n.1, n.2⟩, fun x7 H7 y7 => ?_⟩
        obtain ⟨G7, e7, B7, i7⟩ := yl1 x7 H7 y7
        refine hg1 x7 σ4 _ H7 _ wipe_wipe (pt1 j _ hd7 _ _ G7 H7 _ x7 (B7.wiped vs1) i7 _ fun ρ8 μ8 σ8 G8 H8 w8 e8 B8 => ?_)
        obtain ⟨rfl, w8⟩ := w8
        show tYes σ8 H8 _
        refine w8 _ _ G8 H8 σ8 B8 _ fun v9 d9 μ9 G9 H9 p9 e9 B9 i9 => ?_
        obtain ⟨rfl, rfl⟩ := p9
        obtain ⟨D1, D2, D3, D4⟩ := A6.unguard (by exact h0D) gD6 B9
        refine ⟨ys, D3, ?_, hjlt, G9, ys ++ [v9], (D1.ofSl (A6.sl.mono B9.g)).hidden h0D D2 mD, ?_, L2.upd_same, D2⟩
        · rw [l6.len]
          have h2 := hlen (j + 1) hjlt
          have h3 : ((all.take i).flatten ++ ((row ds[i]).map (f ds[i])).take j).length + 1 = ((all.take i).flatten ++ ((row ds[i]).map (f ds[i])).take (j + 1)).length := by
            rw [List.length_append, List.length_append, List.length_take, List.length_take, hrl]; omega
          omega
        · have ht : ((row ds[i]).map (f ds[i])).take (j + 1) = ((row ds[i]).map (f ds[i])).take j ++ [f ds[i] (row ds[i])[j]] := by
            rw [List.take_succ, List.getElem?_map, hd7]; rfl
          rw [ht, ← List.append_assoc]
          exact (l6.mono B9.g).app ⟨v9, [], rfl, i9, rfl⟩
      · have ej : j = (row ds[i]).length := by omega
        subst ej
        obtain ⟨_, gs1⟩ := good1 G5 H0 G6 H6 ρ4 μ5 σ4 A6.g A6 pinv1
        refine .inl ⟨gs1, hlt, G6, ys, A6', ?_, hD6, gD6⟩
        rw [htake]
        rw [show ((row ds[i]).map (f ds[i])).take (row ds[i]).length = (row ds[i]).map (f ds[i]) by rw [← hrl, List.take_length]] at l6
        exact l6
    · have ei : i = ds.length := by omega
      subst ei
      obtain ⟨_, gs⟩ := good G' H0 G2 H2 ρ μ' σ A2.g A2 pinv
      refine .inl ⟨gs, ?_⟩
      have eg : Ex G2 (L2.upd G2 D (.lst xs)) := Ex.new gD2
      have A3 : At K G' H0 ρ μ' (L2.upd G2 D (.lst xs)) H2 σ := by
        refine ⟨A2.g.trans eg, fun b u z => ?_, A2.h, fun b x y => ?_, A2.sl.mono eg, fun b mo z => ?_⟩
        · by_cases zb : b = D
          · subst zb; rw [L2.upd_same] at z; cases z; exact hD2
          · rw [L2.upd_ne zb] at z; exact A2.gh b u z
        · by_cases zb : b = D
          · subst zb; exact absurd h0D y
          · rw [L2.upd_ne zb] at x; exact A2.new b x y
        · obtain ⟨r1, r2, r3⟩ := A2.rep b mo z
          have zb : b ≠ D := fun zb => by subst zb; rw [mD] at z; cases z
          exact ⟨by rw [L2.upd_ne zb]; exact r1, r2, r3.mono eg rfl⟩
      have hall2 : all.take ds.length = all := by rw [← hall]; exact List.take_of_length_le (by simp)
      rw [hall2] at l2
      exact q _ _ _ _ _ ⟨rfl, rfl⟩ (e.trans (A2.g.trans eg)) (A'.unbase A3) ⟨D, xs, rfl, L2.upd_same, l2.mono eg⟩
end
end Hw
set_option Elab.async false
set_option linter.all false
set_option maxRecDepth 100000
set_option maxHeartbeats 4000000
/-! Defs as the calculus sees them. -/
namespace Hw
open PySem PySem.Spec L2

/-- behind a def's body -/
def retO (P : D → Mu → Prop) : Out → Prop
  | .nx _ μ => ∃ μ' : Mu, μ'.sub μ ∧ P .non μ'
  | .rt d μ => ∃ μ' : Mu, μ'.sub μ ∧ P d μ'
  | _ => False
section
variable {P : Program} {w : World} {K : PySem.W.Frag} {mg : Str → Option Value} {base : Heap} {x qual : Str} {params : Arguments} {body : List Stmt} {scope : Scope} {f C : Addr} {fd : FuncData} {N ps : List Str} {k : Nat} {S : Spec}
theorem fnok (F : FunD K x qual params body scope [] [] f fd) (Sc : FnScope N ps scope) (len : S.len ps.length)
    (hbody : ∀ (cdv : Value) (A : Around) (outer : List Env) (s : Shared) (H : Hp) (E : XK), Room k (A.deeper (PyProof.Rows.envOfC qual scope s.heap.objs.size f cdv)) →
      ∃ t, PSs (cxOf CX0 P w K mg base N qual scope f cdv A outer s H E).nox body t ∧ ∀ ds μ P, S ds μ P → PW K t (startR N.length ds) μ (retO P)) : FnOk P w K mg base CX0 (k + 1) f fd ps (lift K S) := by
  refine F.ok Sc (fun vs H Q E h => ?_) (fun cdv A outer s H vs Q E hr h => ?_)
  · obtain ⟨G, H0, ds, μ, A, l, hS⟩ := h
    rw [l.len]; exact len _ _ _ hS
  · obtain ⟨t, ht, hp⟩ := hbody cdv A outer s H E hr
    refine ⟨t, ht.nox, ?_⟩
    obtain ⟨G, H0, ds, μ, At0, l, hS⟩ := h
    refine hp ds μ _ hS G H0 G H _ _ (At0.ofSl (Sl.start l)) ⟨?_, ?_, ?_, ?_⟩
    · rintro ρ1 μ1 σ1 G1 H1 ⟨μ2, sb, p⟩ A1
      exact p _ G1 H1 (A1.bare.drop sb) rfl
    · rintro d1 μ1 v1 G1 H1 ⟨μ2, sb, p⟩ A1 i1
      exact p _ G1 H1 (A1.drop sb) i1
    · intro _ _ _ _ _ h; exact h.elim
    · intro _ _ _ _ _ h; exact h.elim
end
/-- a def of the module that keeps S -/
structure Cal (P : Program) (w : World) (K : PySem.W.Frag) (mg : Str → Option Value) (base : Heap) (k : Nat) (x : Str) (S : Spec) : Prop where
  ex : ∃ (f : Addr) (fd : FuncData) (ps : List Str), FnOk P w K mg base CX0 k f fd ps (lift K S) ∧ mg x = some (.ref f) ∧ PySem.W.keepIn K (.ref f) = true ∧ Binds K fd ps []
structure Met (P : Program) (w : World) (K : PySem.W.Frag) (mg : Str → Option Value) (base : Heap) (k : Nat) (C : Addr) (m : Str) (S : Spec) : Prop where
  ex : ∃ (f : Addr) (fd : FuncData) (ps : List Str), Cls K C ∧ Meth K C m f ∧ FnOk P w K mg base CX0 k f fd ps (lift K S) ∧ Binds K fd ps []
structure Mak (P : Program) (w : World) (K : PySem.W.Frag) (mg : Str → Option Value) (base : Heap) (k : Nat) (x : Str) (C : Addr) (S : Spec) : Prop where
  ex : ∃ (f : Addr) (fd : FuncData) (ps : List Str), Mk K C f ∧ FnOk P w K mg base CX0 k f fd ps (lift K S) ∧ mg x = some (.ref C) ∧ Binds K fd ps []
section
variable {X : Cx} {k j : Nat} {C : Addr} {x m : Str} {S : Spec} {p pos apos : Pos} {e o : Expr} {es : List Expr} {ta : TE} {t : TA}
theorem pe_cal (c : Cal X.prog X.w X.K X.mg X.base k x S) (hr : Room j X.A) (hk : k ≤ j) (hg : Gl X x) (ha : PA X (e :: es) t)
    (hdb : (x == ("__debug__" : Str)) = false := by decide) (he : starEach (e :: es) X.env = (false, eval e X.env) :: starEach es X.env := by rfl) (hpl : (backTo pos (starEach es X.env)).any (·.1) = false := by rfl) :
    PE X (.Call (.Name x p) (e :: es) [] pos) (tCall (lift X.K S) [] E0 t) := by
  obtain ⟨f, fd, ps, F, hm, kp, b⟩ := c.ex
  exact pe_call F (hr.mono hk) hg hm kp b .nil pass0 ha hdb he hpl
theorem pe_mak (c : Mak X.prog X.w X.K X.mg X.base k x C S) (hr : Room j X.A) (hk : k + 1 ≤ j) (hg : Gl X x) (ha : PA X (e :: es) t)
    (hdb : (x == ("__debug__" : Str)) = false := by decide) (he : starEach (e :: es) X.env = (false, eval e X.env) :: starEach es X.env := by rfl) (hpl : (backTo pos (starEach es X.env)).any (·.1) = false := by rfl) :
    PE X (.Call (.Name x p) (e :: es) [] pos) (tMake C (lift X.K S) [] E0 t) := by
  obtain ⟨f, fd, ps, M, F, hm, b⟩ := c.ex
  exact pe_make M F (hr.mono hk) hg hm b .nil pass0 ha hdb he hpl
theorem pe_met {pl : Sem Bool} (c : Met X.prog X.w X.K X.mg X.base k C m S) (hr : Room j X.A) (hk : k ≤ j) (he : PE X o ta) (ha : PA X (e :: es) t)
    (hst : starEach (e :: es) X.env = (false, eval e X.env) :: starEach es X.env := by rfl) (hpl : (backTo pos (starEach es X.env)).any (·.1) = false := by rfl)
    (ht : eval (.Call (.Attribute o m apos) (e :: es) [] pos) X.env = (do let ov ← eval o X.env; standAt apos.atName; let (f, first) ← holding [ov] (getMethod ov m pl); callWith pos f first (backTo pos (starEach (e :: es) X.env)) (backToKw pos (keywordEach [] X.env))) := by rfl) :
    PE X (.Call (.Attribute o m apos) (e :: es) [] pos) (tMeth C m (lift X.K S) [] E0 ta t) := by
  obtain ⟨f, fd, ps, hc, hm, F, b⟩ := c.ex
  exact pe_meth (pl := pl) he hc hm F (hr.mono hk) b .nil pass0 ha hst hpl ht
theorem pe_met0 {pl : Sem Bool} (c : Met X.prog X.w X.K X.mg X.base k C m S) (hr : Room j X.A) (hk : k ≤ j) (he : PE X o ta)
    (ht : eval (.Call (.Attribute o m apos) [] [] pos) X.env = (do let ov ← eval o X.env; standAt apos.atName; let (f, first) ← holding [ov] (getMethod ov m pl); callWith pos f first (backTo pos (starEach [] X.env)) (backToKw pos (keywordEach [] X.env))) := by rfl) :
    PE X (.Call (.Attribute o m apos) [] [] pos) (tMeth C m (lift X.K S) [] E0 ta tNil) := by
  obtain ⟨f, fd, ps, hc, hm, F, b⟩ := c.ex
  exact pe_meth0 (pl := pl) he hc hm F (hr.mono hk) b .nil pass0 ht
theorem pe_gI {i : Int} (h : ∃ t, X.mg x = some (.int i t)) (hg : Gl X x) (hd : (x == ("__debug__" : Str)) = false := by decide) : PE X (.Name x pos) (tC (.int i)) := by
  obtain ⟨t, h⟩ := h
  exact pe_glob hg h ⟨t, rfl⟩ hd
theorem pe_gS {z : Str} (h : ∃ t, X.mg x = some (.str z t)) (hg : Gl X x) (hd : (x == ("__debug__" : Str)) = false := by decide) : PE X (.Name x pos) (tC (.str z)) := by
  obtain ⟨t, h⟩ := h
  exact pe_glob hg h ⟨t, rfl⟩ hd
theorem op_addS : OpR X (binaryOp .Add) rAddS := op_add_str
theorem call_len1 : CallR X (.builtin "len") (rLen X.K) := call_len_seq
theorem call_intA : CallR X (.type "int") rInt1 := call_int1
theorem call_minA (hc : X.calm = true) : CallR X (.builtin "min") rMin2 := call_min2 hc
theorem call_tupleA : CallR X (.type "tuple") (rTupleOf X.K) := call_tuple_of
theorem call_listA : CallR X (.type "list") (rListOf X.K) := call_list_of
theorem pt_tru {a : Expr} {ta : TE} (ha : PE X a ta) (he : ∀ whole, isTrue a X.env whole = (do let v ← whole; standAt a.pos; holding [v] (truthy v)) := by intro _; rfl) : PT X a (tTru X.K ta) := pt_truth ha he
end
section
variable {K : PySem.W.Frag} {ρ : List (Option D)} {μ : Mu} {Φ : Out → Prop} {ts : TS}
/-- the derived forms of a block's end -/
theorem pw_one (h : PW K ts ρ μ Φ) : PW K ts ρ μ Φ := h
end
end Hw
set_option Elab.async false
set_option linter.all false
set_option maxRecDepth 100000
set_option maxHeartbeats 0
namespace Hw
open PySem PySem.Spec L2
/-! ### the text by places -/
def top (i : Nat) : Stmt := PySem.Challenge.pw_heldwater_k47_parcels_followed.main.body.getD i (.Pass ⟨0, 0, 0, 0⟩)
abbrev s_site_number : Stmt := top 9
abbrev s_claims : Stmt := top 10
abbrev s_claim_cell : Stmt := top 11
abbrev s_claim_size : Stmt := top 12
abbrev s_cells : Stmt := top 13
abbrev s_cell_supply : Stmt := top 14
abbrev s_let_to : Stmt := top 15
abbrev s_let_from : Stmt := top 16
abbrev s_received : Stmt := top 21
abbrev s_spill : Stmt := top 22
abbrev s_cell_fault : Stmt := top 23
abbrev s_month_fault : Stmt := top 24
abbrev s_plan_fault : Stmt := top 25
abbrev s_joined : Stmt := top 27
abbrev s_parted : Stmt := top 28
abbrev s_Tracing_init : Stmt := inClass (top 29) 0
abbrev s_Tracing_row_at : Stmt := inClass (top 29) 1
abbrev s_Tracing_trace : Stmt := inClass (top 29) 2
abbrev s_Tracing_lost : Stmt := inClass (top 29) 3
abbrev s_tuples : Stmt := top 30
abbrev s_parcels : Stmt := top 31
abbrev s_Arc_init : Stmt := inClass (top 34) 0
abbrev s_Arc_ahead : Stmt := inClass (top 34) 1
abbrev s_Arc_back : Stmt := inClass (top 34) 2
abbrev s_least : Stmt := top 35
abbrev s_Network_init : Stmt := inClass (top 36) 0
abbrev s_Network_add : Stmt := inClass (top 36) 1
abbrev s_Network_steps : Stmt := inClass (top 36) 2
abbrev s_Network_way : Stmt := inClass (top 36) 3
abbrev s_Network_steps_back : Stmt := inClass (top 36) 4
abbrev s_Network_push : Stmt := inClass (top 36) 5
abbrev s_led : Stmt := top 37
abbrev s_lessen : Stmt := top 39
abbrev s_rows_of : Stmt := top 40
abbrev s_operation : Stmt := top 41
abbrev s_Running_init : Stmt := inClass (top 43) 0
abbrev s_Running_serve : Stmt := inClass (top 43) 1
abbrev s_Running_let_down : Stmt := inClass (top 43) 2
abbrev s_Running_run : Stmt := inClass (top 43) 3
abbrev s_Running_plan : Stmt := inClass (top 43) 4
abbrev s_run_by : Stmt := top 44
abbrev s_law_cell : Stmt := top 46
abbrev s_law_digits : Stmt := top 47
abbrev s_law_draw : Stmt := top 48
abbrev s_law_same : Stmt := top 49
abbrev s_law_basin : Stmt := top 50
abbrev s_law_demands : Stmt := top 51
abbrev s_law_rights : Stmt := top 52
abbrev s_law_cells : Stmt := top 53
abbrev s_law_receives : Stmt := top 54
abbrev s_law_plan_fault : Stmt := top 55
abbrev s_law_joined : Stmt := top 56
abbrev s_law_used : Stmt := top 57
abbrev s_law_followed : Stmt := top 58
abbrev s_law_due : Stmt := top 59
abbrev s_law_amounts : Stmt := top 60
abbrev s_law_water : Stmt := top 61
abbrev s_law_refused : Stmt := top 62
abbrev s_law : Stmt := top 63
/-! ### the head: facts by names -/
def d_site_number : He.DefD := ⟨("site_number", none), "site_number", "site_number", defArgs s_site_number, defBody s_site_number, defScope s_site_number, [], []⟩
def d_claims : He.DefD := ⟨("claims", none), "claims", "claims", defArgs s_claims, defBody s_claims, defScope s_claims, [], []⟩
def d_claim_cell : He.DefD := ⟨("claim_cell", none), "claim_cell", "claim_cell", defArgs s_claim_cell, defBody s_claim_cell, defScope s_claim_cell, [], []⟩
def d_claim_size : He.DefD := ⟨("claim_size", none), "claim_size", "claim_size", defArgs s_claim_size, defBody s_claim_size, defScope s_claim_size, [], []⟩
def d_cells : He.DefD := ⟨("cells", none), "cells", "cells", defArgs s_cells, defBody s_cells, defScope s_cells, [], []⟩
def d_cell_supply : He.DefD := ⟨("cell_supply", none), "cell_supply", "cell_supply", defArgs s_cell_supply, defBody s_cell_supply, defScope s_cell_supply, [], []⟩
def d_let_to : He.DefD := ⟨("let_to", none), "let_to", "let_to", defArgs s_let_to, defBody s_let_to, defScope s_let_to, [], []⟩
def d_let_from : He.DefD := ⟨("let_from", none), "let_from", "let_from", defArgs s_let_from, defBody s_let_from, defScope s_let_from, [], []⟩
def d_received : He.DefD := ⟨("received", none), "received", "received", defArgs s_received, defBody s_received, defScope s_received, [], []⟩
def d_spill : He.DefD := ⟨("spill", none), "spill", "spill", defArgs s_spill, defBody s_spill, defScope s_spill, [], []⟩
def d_cell_fault : He.DefD := ⟨("cell_fault", none), "cell_fault", "cell_fault", defArgs s_cell_fault, defBody s_cell_fault, defScope s_cell_fault, [], []⟩
def d_month_fault : He.DefD := ⟨("month_fault", none), "month_fault", "month_fault", defArgs s_month_fault, defBody s_month_fault, defScope s_month_fault, [], []⟩
def d_plan_fault : He.DefD := ⟨("plan_fault", none), "plan_fault", "plan_fault", defArgs s_plan_fault, defBody s_plan_fault, defScope s_plan_fault, [], []⟩
def d_joined : He.DefD := ⟨("joined", none), "joined", "joined", defArgs s_joined, defBody s_joined, defScope s_joined, [], []⟩
def d_parted : He.DefD := ⟨("parted", none), "parted", "parted", defArgs s_parted, defBody s_parted, defScope s_parted, [], []⟩
def d_Tracing_init : He.DefD := ⟨("Tracing", some "__init__"), "__init__", "Tracing.__init__", defArgs s_Tracing_init, defBody s_Tracing_init, defScope s_Tracing_init, [], []⟩
def d_Tracing_row_at : He.DefD := ⟨("Tracing", some "row_at"), "row_at", "Tracing.row_at", defArgs s_Tracing_row_at, defBody s_Tracing_row_at, defScope s_Tracing_row_at, [], []⟩
def d_Tracing_trace : He.DefD := ⟨("Tracing", some "trace"), "trace", "Tracing.trace", defArgs s_Tracing_trace, defBody s_Tracing_trace, defScope s_Tracing_trace, [], []⟩
def d_Tracing_lost : He.DefD := ⟨("Tracing", some "lost"), "lost", "Tracing.lost", defArgs s_Tracing_lost, defBody s_Tracing_lost, defScope s_Tracing_lost, [], []⟩
def d_tuples : He.DefD := ⟨("tuples", none), "tuples", "tuples", defArgs s_tuples, defBody s_tuples, defScope s_tuples, [], []⟩
def d_parcels : He.DefD := ⟨("parcels", none), "parcels", "parcels", defArgs s_parcels, defBody s_parcels, defScope s_parcels, [], []⟩
def d_Arc_init : He.DefD := ⟨("Arc", some "__init__"), "__init__", "Arc.__init__", defArgs s_Arc_init, defBody s_Arc_init, defScope s_Arc_init, [], []⟩
def d_Arc_ahead : He.DefD := ⟨("Arc", some "ahead"), "ahead", "Arc.ahead", defArgs s_Arc_ahead, defBody s_Arc_ahead, defScope s_Arc_ahead, [], []⟩
def d_Arc_back : He.DefD := ⟨("Arc", some "back"), "back", "Arc.back", defArgs s_Arc_back, defBody s_Arc_back, defScope s_Arc_back, [], []⟩
def d_least : He.DefD := ⟨("least", none), "least", "least", defArgs s_least, defBody s_least, defScope s_least, [], []⟩
def d_Network_init : He.DefD := ⟨("Network", some "__init__"), "__init__", "Network.__init__", defArgs s_Network_init, defBody s_Network_init, defScope s_Network_init, [], []⟩
def d_Network_add : He.DefD := ⟨("Network", some "add"), "add", "Network.add", defArgs s_Network_add, defBody s_Network_add, defScope s_Network_add, [], []⟩
def d_Network_steps : He.DefD := ⟨("Network", some "steps"), "steps", "Network.steps", defArgs s_Network_steps, defBody s_Network_steps, defScope s_Network_steps, [], []⟩
def d_Network_way : He.DefD := ⟨("Network", some "way"), "way", "Network.way", defArgs s_Network_way, defBody s_Network_way, defScope s_Network_way, [], []⟩
def d_Network_steps_back : He.DefD := ⟨("Network", some "steps_back"), "steps_back", "Network.steps_back", defArgs s_Network_steps_back, defBody s_Network_steps_back, defScope s_Network_steps_back, [], []⟩
def d_Network_push : He.DefD := ⟨("Network", some "push"), "push", "Network.push", defArgs s_Network_push, defBody s_Network_push, defScope s_Network_push, [], []⟩
def d_led : He.DefD := ⟨("led", none), "led", "led", defArgs s_led, defBody s_led, defScope s_led, [], []⟩
def d_lessen : He.DefD := ⟨("lessen", none), "lessen", "lessen", defArgs s_lessen, defBody s_lessen, defScope s_lessen, [], []⟩
def d_rows_of : He.DefD := ⟨("rows_of", none), "rows_of", "rows_of", defArgs s_rows_of, defBody s_rows_of, defScope s_rows_of, [], []⟩
def d_operation : He.DefD := ⟨("operation", none), "operation", "operation", defArgs s_operation, defBody s_operation, defScope s_operation, [], []⟩
def d_Running_init : He.DefD := ⟨("Running", some "__init__"), "__init__", "Running.__init__", defArgs s_Running_init, defBody s_Running_init, defScope s_Running_init, [], []⟩
def d_Running_serve : He.DefD := ⟨("Running", some "serve"), "serve", "Running.serve", defArgs s_Running_serve, defBody s_Running_serve, defScope s_Running_serve, [], []⟩
def d_Running_let_down : He.DefD := ⟨("Running", some "let_down"), "let_down", "Running.let_down", defArgs s_Running_let_down, defBody s_Running_let_down, defScope s_Running_let_down, [], []⟩
def d_Running_run : He.DefD := ⟨("Running", some "run"), "run", "Running.run", defArgs s_Running_run, defBody s_Running_run, defScope s_Running_run, [], []⟩
def d_Running_plan : He.DefD := ⟨("Running", some "plan"), "plan", "Running.plan", defArgs s_Running_plan, defBody s_Running_plan, defScope s_Running_plan, [], []⟩
def d_run_by : He.DefD := ⟨("run_by", none), "run_by", "run_by", defArgs s_run_by, defBody s_run_by, defScope s_run_by, [], []⟩
def d_law_cell : He.DefD := ⟨("_law_cell", none), "_law_cell", "_law_cell", defArgs s_law_cell, defBody s_law_cell, defScope s_law_cell, [], []⟩
def d_law_digits : He.DefD := ⟨("_law_digits", none), "_law_digits", "_law_digits", defArgs s_law_digits, defBody s_law_digits, defScope s_law_digits, [], []⟩
def d_law_draw : He.DefD := ⟨("_law_draw", none), "_law_draw", "_law_draw", defArgs s_law_draw, defBody s_law_draw, defScope s_law_draw, [], []⟩
def d_law_same : He.DefD := ⟨("_law_same", none), "_law_same", "_law_same", defArgs s_law_same, defBody s_law_same, defScope s_law_same, [], []⟩
def d_law_basin : He.DefD := ⟨("_law_basin", none), "_law_basin", "_law_basin", defArgs s_law_basin, defBody s_law_basin, defScope s_law_basin, [], []⟩
def d_law_demands : He.DefD := ⟨("_law_demands", none), "_law_demands", "_law_demands", defArgs s_law_demands, defBody s_law_demands, defScope s_law_demands, [], []⟩
def d_law_rights : He.DefD := ⟨("_law_rights", none), "_law_rights", "_law_rights", defArgs s_law_rights, defBody s_law_rights, defScope s_law_rights, [], []⟩
def d_law_cells : He.DefD := ⟨("_law_cells", none), "_law_cells", "_law_cells", defArgs s_law_cells, defBody s_law_cells, defScope s_law_cells, [], []⟩
def d_law_receives : He.DefD := ⟨("_law_receives", none), "_law_receives", "_law_receives", defArgs s_law_receives, defBody s_law_receives, defScope s_law_receives, [], []⟩
def d_law_plan_fault : He.DefD := ⟨("_law_plan_fault", none), "_law_plan_fault", "_law_plan_fault", defArgs s_law_plan_fault, defBody s_law_plan_fault, defScope s_law_plan_fault, [], []⟩
def d_law_joined : He.DefD := ⟨("_law_joined", none), "_law_joined", "_law_joined", defArgs s_law_joined, defBody s_law_joined, defScope s_law_joined, [], []⟩
def d_law_used : He.DefD := ⟨("_law_used", none), "_law_used", "_law_used", defArgs s_law_used, defBody s_law_used, defScope s_law_used, [], []⟩
def d_law_followed : He.DefD := ⟨("_law_followed", none), "_law_followed", "_law_followed", defArgs s_law_followed, defBody s_law_followed, defScope s_law_followed, [], []⟩
def d_law_due : He.DefD := ⟨("_law_due", none), "_law_due", "_law_due", defArgs s_law_due, defBody s_law_due, defScope s_law_due, [], []⟩
def d_law_amounts : He.DefD := ⟨("_law_amounts", none), "_law_amounts", "_law_amounts", defArgs s_law_amounts, defBody s_law_amounts, defScope s_law_amounts, [], []⟩
def d_law_water : He.DefD := ⟨("_law_water", none), "_law_water", "_law_water", defArgs s_law_water, defBody s_law_water, defScope s_law_water, [], []⟩
def d_law_refused : He.DefD := ⟨("_law_refused", none), "_law_refused", "_law_refused", defArgs s_law_refused, defBody s_law_refused, defScope s_law_refused, [], []⟩
def d_law : He.DefD := ⟨("law", none), "law", "law", defArgs s_law, defBody s_law, defScope s_law, [], []⟩
def fn : List He.DefD := [d_site_number, d_claims, d_claim_cell, d_claim_size, d_cells, d_cell_supply, d_let_to, d_let_from, d_received, d_spill, d_cell_fault, d_month_fault, d_plan_fault, d_joined, d_parted, d_Tracing_init, d_Tracing_row_at, d_Tracing_trace, d_Tracing_lost, d_tuples, d_parcels, d_Arc_init, d_Arc_ahead, d_Arc_back, d_least, d_Network_init, d_Network_add, d_Network_steps, d_Network_way, d_Network_steps_back, d_Network_push, d_led, d_lessen, d_rows_of, d_operation, d_Running_init, d_Running_serve, d_Running_let_down, d_Running_run, d_Running_plan, d_run_by, d_law_cell, d_law_digits, d_law_draw, d_law_same, d_law_basin, d_law_demands, d_law_rights, d_law_cells, d_law_receives, d_law_plan_fault, d_law_joined, d_law_used, d_law_followed, d_law_due, d_law_amounts, d_law_water, d_law_refused, d_law]
def fa : List He.Fa := [.glo "site_number",
  .glo "claims",
  .glo "claim_cell",
  .glo "claim_size",
  .glo "cells",
  .glo "cell_supply",
  .glo "let_to",
  .glo "let_from",
  .glo "received",
  .glo "spill",
  .glo "cell_fault",
  .glo "month_fault",
  .glo "plan_fault",
  .glo "joined",
  .glo "parted",
  .glo "tuples",
  .glo "parcels",
  .glo "least",
  .glo "led",
  .glo "lessen",
  .glo "rows_of",
  .glo "operation",
  .glo "run_by",
  .glo "_law_cell",
  .glo "_law_digits",
  .glo "_law_draw",
  .glo "_law_same",
  .glo "_law_basin",
  .glo "_law_demands",
  .glo "_law_rights",
  .glo "_law_cells",
  .glo "_law_receives",
  .glo "_law_plan_fault",
  .glo "_law_joined",
  .glo "_law_used",
  .glo "_law_followed",
  .glo "_law_due",
  .glo "_law_amounts",
  .glo "_law_water",
  .glo "_law_refused",
  .glo "law",
  .int "NAME" (0),
  .int "NEXT" (1),
  .int "TRAVEL" (2),
  .int "REACH" (3),
  .int "ROOM" (4),
  .int "HELD" (5),
  .int "INFLOWS" (6),
  .str "SOURCE" "source",
  .glo "Tracing",
  .cls "Tracing",
  .mkr "Tracing",
  .noat "Tracing" "basin",
  .noat "Tracing" "rights",
  .noat "Tracing" "plan",
  .noat "Tracing" "given",
  .noat "Tracing" "let",
  .noat "Tracing" "stored",
  .noat "Tracing" "spilled",
  .meth "Tracing" "row_at",
  .meth "Tracing" "trace",
  .meth "Tracing" "lost",
  .glo "Arc",
  .cls "Arc",
  .mkr "Arc",
  .noat "Arc" "tail",
  .noat "Arc" "head",
  .noat "Arc" "most",
  .noat "Arc" "flow",
  .noat "Arc" "is_fixed",
  .meth "Arc" "ahead",
  .meth "Arc" "back",
  .glo "Network",
  .cls "Network",
  .mkr "Network",
  .noat "Network" "basin",
  .noat "Network" "storages",
  .noat "Network" "releases",
  .noat "Network" "arcs",
  .meth "Network" "add",
  .meth "Network" "steps",
  .meth "Network" "way",
  .meth "Network" "steps_back",
  .meth "Network" "push",
  .glo "Running",
  .cls "Running",
  .mkr "Running",
  .noat "Running" "basin",
  .noat "Running" "rights",
  .noat "Running" "targets",
  .noat "Running" "deliveries",
  .noat "Running" "releases",
  .noat "Running" "storages",
  .meth "Running" "serve",
  .meth "Running" "let_down",
  .meth "Running" "run",
  .meth "Running" "plan",
  .free "len",
  .free "range",
  .free "enumerate",
  .free "sum",
  .free "tuple",
  .free "list",
  .free "min",
  .free "sorted",
  .free "zip",
  .free "int",
  .free "repr",
  .free "super"]
def loose0 : List PySem.Str := [Str.ofString "_wall", Str.ofString "NAME", Str.ofString "NEXT", Str.ofString "TRAVEL", Str.ofString "REACH", Str.ofString "ROOM", Str.ofString "HELD", Str.ofString "INFLOWS", Str.ofString "site_number", Str.ofString "claims", Str.ofString "claim_cell", Str.ofString "claim_size", Str.ofString "cells", Str.ofString "cell_supply", Str.ofString "let_to", Str.ofString "let_from", Str.ofString "WaterError", Str.ofString "BadPlan", Str.ofString "received", Str.ofString "spill"]
def loose1 : List PySem.Str := [Str.ofString "cell_fault", Str.ofString "month_fault", Str.ofString "plan_fault", Str.ofString "joined", Str.ofString "parted", Str.ofString "Tracing", Str.ofString "tuples", Str.ofString "parcels", Str.ofString "SOURCE", Str.ofString "Arc", Str.ofString "least", Str.ofString "Network", Str.ofString "led", Str.ofString "lessen", Str.ofString "rows_of", Str.ofString "operation", Str.ofString "Running", Str.ofString "run_by", Str.ofString "_law_cell", Str.ofString "_law_digits"]
def loose2 : List PySem.Str := [Str.ofString "_law_draw", Str.ofString "_law_same", Str.ofString "_law_basin", Str.ofString "_law_demands", Str.ofString "_law_rights", Str.ofString "_law_cells", Str.ofString "_law_receives", Str.ofString "_law_plan_fault", Str.ofString "_law_joined", Str.ofString "_law_used", Str.ofString "_law_followed", Str.ofString "_law_due", Str.ofString "_law_amounts", Str.ofString "_law_water", Str.ofString "_law_refused"]
def loose : List PySem.Str := loose0 ++ (loose1 ++ (loose2))

/-! ### the facts, by names -/
structure Fx (K : PySem.W.Frag) (mg : Str → Option Value) : Prop where
  c : He.SaysD fa fn K
  ex : ∃ h : Heap, K.In h ∧ h.Ns mainGlobals mg
section
variable {K : PySem.W.Frag} {mg : Str → Option Value} {x y : Str}
theorem Fx.glo (F : Fx K mg) (i : Nat) (h : fa[i]? = some (.glo x) := by rfl) : mg x = some (.ref (He.ga K x)) := by
  obtain ⟨_, a, b⟩ := F.ex
  exact He.glo_ok a b (F.c.fact i h)
theorem Fx.free (F : Fx K mg) (i : Nat) (h : fa[i]? = some (.free x) := by rfl) : mg x = none := by
  obtain ⟨_, a, b⟩ := F.ex
  exact He.free_ok a b (F.c.fact i h)
theorem Fx.int (F : Fx K mg) {z : Int} (i : Nat) (h : fa[i]? = some (.int x z) := by rfl) : ∃ t, mg x = some (.int z t) := by
  obtain ⟨_, a, b⟩ := F.ex
  exact He.int_ok a b (F.c.fact i h)
theorem Fx.str (F : Fx K mg) {z : Str} (i : Nat) (h : fa[i]? = some (.str x z) := by rfl) : ∃ t, mg x = some (.str z t) := by
  obtain ⟨_, a, b⟩ := F.ex
  exact He.str_ok a b (F.c.fact i h)
theorem Fx.cls (F : Fx K mg) (i : Nat) (h : fa[i]? = some (.cls x) := by rfl) : Cls K (He.ga K x) := He.cls_ok (F.c.fact i h)
theorem Fx.noat (F : Fx K mg) (i : Nat) (h : fa[i]? = some (.noat x y) := by rfl) : NoAttr K (He.ga K x) y := He.noat_ok (F.c.fact i h)
theorem Fx.meth (F : Fx K mg) (i : Nat) (h : fa[i]? = some (.meth x y) := by rfl) : Meth K (He.ga K x) y (He.ma K (He.ga K x) y) := He.meth_ok (F.c.fact i h)
theorem Fx.mkr (F : Fx K mg) (i : Nat) (h : fa[i]? = some (.mkr x) := by rfl) : Mk K (He.ga K x) (He.ma K (He.ga K x) "__init__") := He.mkr_ok (F.c.fact i h)
end
end Hw
set_option Elab.async false
set_option linter.all false
set_option maxRecDepth 100000
set_option maxHeartbeats 4000000
/-! The program's data, and the plain functions that its defs are. -/
namespace Hw
open PySem PySem.Spec L2

structure Site where
  next : Option Nat
  travel : Nat
  reach : Option Int
  room : Int
  held : Int
  inflows : List Int
structure Basin where
  months : Nat
  sites : List Site
structure Right where
  name : Str
  site : Nat
  demands : List Int
structure Plan where
  del : List (List Int)
  rel : List (List Int)
  sto : List (List Int)
abbrev Cell := Nat × Nat
/-- the name of the k-th site -/
def nm (k : Nat) : Str := ⟨#[115, 97 + k]⟩
theorem nm_inj {j k : Nat} (h : nm j = nm k) : j = k := by
  unfold nm at h
  have h1 : (#[115, 97 + j] : Array Nat) = #[115, 97 + k] := congrArg Str.cps h
  simp at h1
  exact h1
def optD (f : α → D) : Option α → D
  | none => .non
  | some x => f x
def intD (i : Int) : D := .int i
def intsD (l : List Int) : D := .tup (l.map .int)
def tabD (t : List (List Int)) : D := .tup (t.map intsD)
def siteD (k : Nat) (s : Site) : D := .tup [.str (nm k), optD (fun j => .str (nm j)) s.next, .int (s.travel : Int), optD .int s.reach, .int s.room, .int s.held, intsD s.inflows]
def basinD (B : Basin) : D := .tup [.int (B.months : Int), .tup (B.sites.mapIdx siteD)]
def rightD (r : Right) : D := .tup [.str r.name, .str (nm r.site), intsD r.demands]
def rightsD (R : List Right) : D := .tup (R.map rightD)
def planD (p : Plan) : D := .tup [tabD p.del, tabD p.rel, tabD p.sto]
def cellD (c : Cell) : D := .tup [.int (c.1 : Int), .int (c.2 : Int)]
def cellsD (l : List Cell) : D := .lst (l.map cellD)
structure Site.Ok (n k months : Nat) (s : Site) : Prop where
  last : s.next = none ↔ k + 1 = n
  next : ∀ j, s.next = some j → k < j ∧ j < n
  travel : s.travel ≤ 2
  reach : ∀ r, s.reach = some r → 0 ≤ r
  room0 : 0 ≤ s.room
  room : s.room ≤ 100
  held0 : 0 ≤ s.held
  held : s.held ≤ s.room
  len : s.inflows.length = months
  inf : ∀ x ∈ s.inflows, 0 ≤ x ∧ x ≤ 100
structure Basin.Ok (B : Basin) : Prop where
  m1 : 1 ≤ B.months
  m4 : B.months ≤ 4
  n1 : 1 ≤ B.sites.length
  n3 : B.sites.length ≤ 3
  six : B.months * B.sites.length ≤ 6
  site : ∀ (k : Nat) (s : Site), B.sites[k]? = some s → s.Ok B.sites.length k B.months
structure Right.Ok (B : Basin) (r : Right) : Prop where
  site : r.site < B.sites.length
  len : r.demands.length = B.months
  dem : ∀ x ∈ r.demands, 0 ≤ x ∧ x ≤ 100
def RightsOk (B : Basin) (R : List Right) : Prop := R.length ≤ 3 ∧ ∀ r ∈ R, r.Ok B
def get2 (t : List (List Int)) (i j : Nat) : Int := ((t[i]?.getD [])[j]?).getD 0
def Tab (n m : Nat) (t : List (List Int)) : Prop := t.length = n ∧ ∀ r ∈ t, r.length = m
structure Plan.Shape (B : Basin) (R : List Right) (p : Plan) : Prop where
  del : Tab R.length B.months p.del
  rel : Tab B.sites.length B.months p.rel
  sto : Tab B.sites.length B.months p.sto
instance : Inhabited Site := ⟨⟨none, 0, none, 0, 0, []⟩⟩
def Basin.n (B : Basin) : Nat := B.sites.length
def Basin.at (B : Basin) (k : Nat) : Site := B.sites[k]?.getD default
def Basin.inf (B : Basin) (c : Cell) : Int := ((B.at c.1).inflows[c.2]?).getD 0
def Basin.In (B : Basin) (c : Cell) : Prop := c.1 < B.sites.length ∧ c.2 < B.months
def Basin.supply (B : Basin) (c : Cell) : Int := B.inf c + if c.2 = 0 then (B.at c.1).held else 0
def Basin.letTo (B : Basin) (c : Cell) : Option Cell := match (B.at c.1).next with
  | none => none
  | some j => if B.months ≤ c.2 + (B.at c.1).travel then none else some (j, c.2 + (B.at c.1).travel)
def Basin.cells (B : Basin) : List Cell := ((List.range B.months).map fun m => (List.range B.sites.length).map fun k => (k, m)).flatten
def Basin.letFrom (B : Basin) (c : Cell) : List Cell := B.cells.filter fun o => decide (B.letTo o = some c)
inductive Claim where
  | right (r m : Nat)
  | room (s : Nat)
def claimD : Claim → D
  | .right r m => .tup [.str "right", .int (r : Int), .int (m : Int)]
  | .room s => .tup [.str "room", .int (s : Int)]
def claimsOf (B : Basin) (R : List Right) : List Claim := ((List.range R.length).map fun r => (List.range B.months).map fun m => Claim.right r m).flatten ++ (List.range B.sites.length).map Claim.room
instance : Inhabited Right := ⟨⟨⟨#[]⟩, 0, []⟩⟩
def rAt (R : List Right) (r : Nat) : Right := R[r]?.getD default
def claimCell (B : Basin) (R : List Right) : Claim → Cell
  | .right r m => ((rAt R r).site, m)
  | .room s => (s, B.months - 1)
def claimSize (B : Basin) (R : List Right) : Claim → Int
  | .right r m => ((rAt R r).demands[m]?).getD 0
  | .room s => (B.at s).room
def claimOk (B : Basin) (R : List Right) : Claim → Prop
  | .right r m => r < R.length ∧ m < B.months
  | .room s => s < B.sites.length
section
variable {B : Basin} {R : List Right} {p : Plan} {c : Cell} {k m : Nat}
theorem Basin.atS (h : k < B.sites.length) : B.sites[k]? = some (B.at k) := by
  unfold Basin.at
  rw [List.getElem?_eq_getElem h]; rfl
theorem siteAt (h : k < B.sites.length) : (B.sites.mapIdx siteD)[k]? = some (siteD k (B.at k)) := by
  rw [List.getElem?_mapIdx, Basin.atS h]; rfl
theorem Basin.Ok.s (o : B.Ok) (h : k < B.sites.length) : (B.at k).Ok B.sites.length k B.months := o.site k _ (Basin.atS h)
theorem infAt (o : B.Ok) (h : B.In c) : ((B.at c.1).inflows.map D.int)[c.2]? = some (.int (B.inf c)) := by
  have hl := (o.s h.1).len
  have : c.2 < (B.at c.1).inflows.length := by rw [hl]; exact h.2
  unfold Basin.inf
  rw [List.getElem?_map, List.getElem?_eq_getElem this]; rfl
theorem get2_row {t : List (List Int)} {i j a b : Nat} (T : Tab a b t) (hi : i < a) : (t.map intsD)[i]? = some (intsD (t[i]?.getD [])) := by
  rw [List.getElem?_map, List.getElem?_eq_getElem (by rw [T.1]; exact hi)]; rfl
theorem get2_at {t : List (List Int)} {i j a b : Nat} (T : Tab a b t) (hi : i < a) (hj : j < b) : ((t[i]?.getD []).map D.int)[j]? = some (.int (get2 t i j)) := by
  have h1 : i < t.length := by rw [T.1]; exact hi
  have h2 : (t[i]?.getD []).length = b := by
    rw [List.getElem?_eq_getElem h1]
    exact T.2 _ (List.getElem_mem h1)
  unfold get2
  rw [List.getElem?_map, List.getElem?_eq_getElem (by rw [h2]; exact hj)]; rfl
theorem rightAt (h : k < R.length) : (R.map rightD)[k]? = some (rightD (rAt R k)) := by
  unfold rAt
  rw [List.getElem?_map, List.getElem?_eq_getElem h]; rfl
theorem rAt_mem (h : k < R.length) : rAt R k ∈ R := by
  unfold rAt
  rw [List.getElem?_eq_getElem h]; exact List.getElem_mem h
theorem RightsOk.at (o : RightsOk B R) (h : k < R.length) : (rAt R k).Ok B := o.2 _ (rAt_mem h)
theorem mem_cells : c ∈ B.cells ↔ B.In c := by
  unfold Basin.cells Basin.In
  simp only [List.mem_flatten, List.mem_map, List.mem_range]
  constructor
  · rintro ⟨l, ⟨m, hm, e⟩, h⟩
    subst e
    obtain ⟨k, hk, e⟩ := List.mem_map.mp h
    subst e
    exact ⟨List.mem_range.mp hk, hm⟩
  · rintro ⟨h1, h2⟩
    exact ⟨_, ⟨c.2, h2, rfl⟩, List.mem_map.mpr ⟨c.1, List.mem_range.mpr h1, rfl⟩⟩
end
end Hw
set_option Elab.async false
set_option linter.all false
set_option maxRecDepth 100000
set_option maxHeartbeats 4000000
/-! Short words of the calculus; iterators of our own. -/
namespace Hw
open PySem PySem.Spec L2
section
variable {K : PySem.W.Frag} {G G' H H' G0 H0 : Hp} {σ : L2.St} {ρ : List (Option D)} {μ : Mu} {a : Addr} {te ta tb tc : TE} {P : D → Mu → Prop} {x y z d e : D} {t : TA} {Φ : Out → Prop} {ts tu tz : TS} {g : TG} {ds : List D}
theorem V' (i : Nat) (h : ρ[i]? = some (some d) := by rfl) : Ev K (tVar i) ρ μ d := ev_var h
/-- t[i], i written -/
theorem ev_ix {i : Int} (ha : Ev K ta ρ μ (.tup ds)) (hb : Ev K tb ρ μ (.int i)) (h : atI ds i = some d := by rfl) : Ev K (tOp (rIx K) ta tb) ρ μ d := ev_op ha hb (ro_ix (.inl rfl) h ⟨rfl, rfl⟩)
/-- t[i], i a number -/
theorem ev_ixN {i : Nat} (ha : Ev K ta ρ μ (.tup ds)) (hb : Ev K tb ρ μ (.int (i : Int))) (h : ds[i]? = some d) : Ev K (tOp (rIx K) ta tb) ρ μ d := ev_op ha hb (ro_ixN (.inl rfl) h ⟨rfl, rfl⟩)
theorem ev_ixL {i : Nat} (ha : Ev K ta ρ μ x) (hb : Ev K tb ρ μ (.int (i : Int))) (hx : LstIn μ x ds) (h : ds[i]? = some d) : Ev K (tOp (rIx K) ta tb) ρ μ d := ev_op ha hb (ro_ixN (.inr (.inr hx)) h ⟨rfl, rfl⟩)
theorem ev_add {i j : Int} (ha : Ev K ta ρ μ (.int i)) (hb : Ev K tb ρ μ (.int j)) : Ev K (tOp (rI0 fun i j => .int (i + j)) ta tb) ρ μ (.int (i + j)) := ev_op ha hb (ro_int (f := fun i j => i + j) ⟨rfl, rfl⟩)
theorem ev_sub {i j : Int} (ha : Ev K ta ρ μ (.int i)) (hb : Ev K tb ρ μ (.int j)) : Ev K (tOp (rI0 fun i j => .int (i - j)) ta tb) ρ μ (.int (i - j)) := ev_op ha hb (ro_int (f := fun i j => i - j) ⟨rfl, rfl⟩)
theorem ev_lt {i j : Int} (ha : Ev K ta ρ μ (.int i)) (hb : Ev K tb ρ μ (.int j)) : Ev K (tOp (rI0 fun i j => .bl (decide (i < j))) ta tb) ρ μ (.bl (decide (i < j))) := ev_op ha hb (ro_bl (f := fun i j => decide (i < j)) ⟨rfl, rfl⟩)
theorem ev_gt {i j : Int} (ha : Ev K ta ρ μ (.int i)) (hb : Ev K tb ρ μ (.int j)) : Ev K (tOp (rI0 fun i j => .bl (decide (j < i))) ta tb) ρ μ (.bl (decide (j < i))) := ev_op ha hb (ro_bl (f := fun i j => decide (j < i)) ⟨rfl, rfl⟩)
theorem ev_ge {i j : Int} (ha : Ev K ta ρ μ (.int i)) (hb : Ev K tb ρ μ (.int j)) : Ev K (tOp (rI0 fun i j => .bl (decide (j ≤ i))) ta tb) ρ μ (.bl (decide (j ≤ i))) := ev_op ha hb (ro_bl (f := fun i j => decide (j ≤ i)) ⟨rfl, rfl⟩)
theorem ev_eqI {i j : Int} (ha : Ev K ta ρ μ (.int i)) (hb : Ev K tb ρ μ (.int j)) : Ev K (tOp rEq ta tb) ρ μ (.bl (decide (i = j))) := ev_op ha hb (ro_eqI ⟨rfl, rfl⟩)
theorem ev_eqS {i j : Str} (ha : Ev K ta ρ μ (.str i)) (hb : Ev K tb ρ μ (.str j)) : Ev K (tOp rEq ta tb) ρ μ (.bl (decide (i = j))) := ev_op ha hb (ro_eqS ⟨rfl, rfl⟩)
theorem ev_isN (ha : Ev K ta ρ μ x) : Ev K (tIsN ta) ρ μ (.bl x.isN) := we_isN (ha.go ⟨rfl, rfl⟩)
theorem ev_notN (ha : Ev K ta ρ μ x) : Ev K (tNotN ta) ρ μ (.bl (!x.isN)) := we_notN (ha.go ⟨rfl, rfl⟩)
theorem ev_len {n : Nat} (ha : Ev K ta ρ μ x) (h : SqIn μ x ds) (hn : ds.length = n := by simp) : Ev K (tCB (rLen K) (tCons ta tNil)) ρ μ (.int (n : Int)) := ev_cb (ea_cons ha ea_nil) (rb_len h ⟨by rw [hn], rfl⟩)
theorem ev_tupleOf (ha : Ev K ta ρ μ x) (h : LstIn μ x ds) : Ev K (tCB (rTupleOf K) (tCons ta tNil)) ρ μ (.tup ds) := ev_cb (ea_cons ha ea_nil) (rb_tuple h ⟨rfl, rfl⟩)
theorem ev_listOf (ha : Ev K ta ρ μ x) (h : SqIn μ x ds) : Ev K (tCB (rListOf K) (tCons ta tNil)) ρ μ (.lst ds) := ev_cb (ea_cons ha ea_nil) (rb_list h ⟨rfl, rfl⟩)
theorem ev_cat {es : List D} (ha : Ev K ta ρ μ x) (hb : Ev K tb ρ μ y) (h : LstIn μ x ds) (k : LstIn μ y es) (hz : ds.length + es.length ≤ sizeLine) : Ev K (tOp rCat ta tb) ρ μ (.lst (ds ++ es)) := ev_op ha hb (ro_cat h k hz ⟨rfl, rfl⟩)
/-- if with both ways told -/
theorem ev_ite {tt : TT} {b : Bool} (h : EvT K tt ρ μ b) (h1 : b = true → Ev K ta ρ μ d) (h2 : b = false → Ev K tb ρ μ d) : Ev K (tIf tt ta tb) ρ μ d := ev_if h h1 h2
/-- a call of a def that changes nothing -/
theorem ev_call {S : Spec} {E : XK} (ha : EvA K t ρ μ ds) (h : S ds μ fun d' μ' => d' = d ∧ μ' = μ) (mono : Mono S) : Ev K (tCall (lift K S) [] E t) ρ μ d := we_call (ha.go h) mono
/-- name = e -/
theorem q_set {i : Nat} (h : Ev K te ρ μ d) (k : PW K tz (ρ.set i (some d)) μ Φ) : PW K (tSeq (tAsg te (gName i)) tz) ρ μ Φ := pw_seq (pw_set (h.go k))
theorem s_set {i : Nat} (h : Ev K te ρ μ d) (k : Φ (.nx (ρ.set i (some d)) μ)) : PW K (tAsg te (gName i)) ρ μ Φ := pw_set (h.go k)
/-- a, b = t -/
theorem q_two {i j n : Nat} (h : Ev K te ρ μ (.tup [x, y])) (hn : 2 = n := by rfl) (k : PW K tz ((ρ.set i (some x)).set j (some y)) μ Φ) : PW K (tSeq (tAsg te (gTup K n (gCons (gName i) (gCons (gName j) gNil)))) tz) ρ μ Φ :=
  pw_seq (pw_asg (h.go (wg_tup hn (wgs_cons (wg_name (wgs_cons (wg_name (wgs_nil k))))))))
theorem q_three {i j l n : Nat} (h : Ev K te ρ μ (.tup [x, y, z])) (hn : 3 = n := by rfl) (k : PW K tz (((ρ.set i (some x)).set j (some y)).set l (some z)) μ Φ) : PW K (tSeq (tAsg te (gTup K n (gCons (gName i) (gCons (gName j) (gCons (gName l) gNil))))) tz) ρ μ Φ :=
  pw_seq (pw_asg (h.go (wg_tup hn (wgs_cons (wg_name (wgs_cons (wg_name (wgs_cons (wg_name (wgs_nil k))))))))))
theorem s_ret {P : D → Mu → Prop} (h : Ev K te ρ μ d) (k : P d μ) : PW K (tRet te) ρ μ (retO P) := pw_ret (h.go ⟨μ, Mu.sub.refl _, k⟩)
theorem s_retΦ (h : Ev K te ρ μ d) (k : Φ (.rt d μ)) : PW K (tRet te) ρ μ Φ := pw_ret (h.go k)
theorem q_if {tt : TT} {b : Bool} (h : EvT K tt ρ μ b) (h1 : b = true → PW K ts ρ μ (thenO Φ fun ρ' μ' => PW K tz ρ' μ' Φ)) (h2 : b = false → PW K tu ρ μ (thenO Φ fun ρ' μ' => PW K tz ρ' μ' Φ)) : PW K (tSeq (tIfS tt ts tu) tz) ρ μ Φ := pw_seq (pw_ifE h h1 h2)
/-- if without else -/
theorem q_when {tt : TT} {b : Bool} (h : EvT K tt ρ μ b) (h1 : b = true → PW K ts ρ μ (thenO Φ fun ρ' μ' => PW K tz ρ' μ' Φ)) (h2 : b = false → PW K tz ρ μ Φ) : PW K (tSeq (tIfS tt ts tNext) tz) ρ μ Φ := pw_seq (pw_ifE h h1 fun e => pw_next (h2 e))
theorem s_when {tt : TT} {b : Bool} (h : EvT K tt ρ μ b) (h1 : b = true → PW K ts ρ μ Φ) (h2 : b = false → Φ (.nx ρ μ)) : PW K (tIfS tt ts tNext) ρ μ Φ := pw_ifE h h1 fun e => pw_next (h2 e)
theorem s_retT {P : D → Mu → Prop} {N : List (Option D) → Mu → Prop} (h : Ev K te ρ μ d) (k : P d μ) : PW K (tRet te) ρ μ (thenO (retO P) N) := pw_ret (h.go ⟨μ, Mu.sub.refl _, k⟩)

/-! ### pure comprehensions with one for -/
theorem ev_lc {wi : TI} {vs : List Nat} {es fs : List D} (hg : GOk g vs) (hz : es.length ≤ sizeLine) (hl : fs.length = es.length)
    (hi : WI K wi ρ μ fun ds inv μ' => ds = es ∧ μ' = μ ∧ inv μ) (he : ∀ (i : Nat) d e, es[i]? = some d → fs[i]? = some e → WG K g d (wipeR ρ vs) μ fun ρ1 μ1 => μ1 = μ ∧ Ev K te ρ1 μ e) : Ev K (tLc wi g tYes te vs) ρ μ (.lst fs) := by
  refine we_lc (fun i acc μ' => μ' = μ ∧ acc = fs.take i) hg ?_
  refine fun G0 H0 G H σ A R q => hi G0 H0 G H σ A R fun J ds inv μ' G' H' p => ?_
  obtain ⟨rfl, rfl, iv⟩ := p
  refine q J ds inv μ' G' H' ⟨⟨rfl, by simp⟩, ?_, hz, ?_, ?_⟩
  · rintro i acc μ ⟨rfl, rfl⟩
    exact ⟨iv, by rw [List.length_take]; omega⟩
  · rintro i d acc μ hd ⟨rfl, rfl⟩
    have hlt : i < ds.length := (List.getElem?_eq_some_iff.mp hd).1
    have hf : fs[i]? = some fs[i] := List.getElem?_eq_getElem (by omega)
    refine fun G0 H0 G H σ v A i1 Q q => he i d _ hd hf G0 H0 G H σ v A i1 Q fun ρ1 μ1 σ1 G1 H1 p => q ρ1 μ1 σ1 G1 H1 ?_
    obtain ⟨rfl, hE⟩ := p
    refine WT.yes ⟨fun _ => hE.go ⟨rfl, ?_⟩, fun h => by cases h⟩
    rw [List.take_succ, hf]; rfl
  · rintro acc μ ⟨rfl, rfl⟩
    exact ⟨by rw [← hl, List.take_length], rfl⟩
/-- with a test -/
theorem ev_lcIf {wi : TI} {tt : TT} {vs : List Nat} {es : List D} (p : Nat → Bool) (f : Nat → D) (hg : GOk g vs) (hz : es.length ≤ sizeLine)
    (hi : WI K wi ρ μ fun ds inv μ' => ds = es ∧ μ' = μ ∧ inv μ) (he : ∀ (i : Nat) d, es[i]? = some d → WG K g d (wipeR ρ vs) μ fun ρ1 μ1 => μ1 = μ ∧ EvT K tt ρ1 μ (p i) ∧ (p i = true → Ev K te ρ1 μ (f i))) :
    Ev K (tLc wi g tt te vs) ρ μ (.lst (((List.range es.length).filter p).map f)) := by
  refine we_lc (fun i acc μ' => μ' = μ ∧ acc = ((List.range i).filter p).map f) hg ?_
  refine fun G0 H0 G H σ A R q => hi G0 H0 G H σ A R fun J ds inv μ' G' H' pp => ?_
  obtain ⟨rfl, rfl, iv⟩ := pp
  refine q J ds inv μ' G' H' ⟨⟨rfl, rfl⟩, ?_, hz, ?_, ?_⟩
  · rintro i acc μ ⟨rfl, rfl⟩
    refine ⟨iv, ?_⟩
    rw [List.length_map]
    have h := List.length_filter_le p (List.range i)
    rw [List.length_range] at h
    exact h
  · rintro i d acc μ hd ⟨rfl, rfl⟩
    refine fun G0 H0 G H σ v A i1 Q q => he i d hd G0 H0 G H σ v A i1 Q fun ρ1 μ1 σ1 G1 H1 pp => q ρ1 μ1 σ1 G1 H1 ?_
    obtain ⟨rfl, hT, hE⟩ := pp
    refine hT.go ⟨fun e => (hE e).go ⟨rfl, ?_⟩, fun e => ⟨rfl, ?_⟩⟩
    · rw [List.range_succ, List.filter_append, List.map_append, List.filter_cons, if_pos e]; rfl
    · rw [List.range_succ, List.filter_append, List.map_append, List.filter_cons, if_neg (by rw [e]; simp)]; simp
  · rintro acc μ ⟨rfl, rfl⟩
    exact ⟨rfl, rfl⟩
theorem wi_lstP (h : Ev K te ρ μ (.lst ds)) : WI K (iList K te) ρ μ fun ds' inv μ' => ds' = ds ∧ μ' = μ ∧ inv μ := wi_lst (h.go ⟨ds, rfl, rfl, rfl, trivial⟩)
theorem wi_tupP (h : Ev K te ρ μ (.tup ds)) : WI K (iTup K te) ρ μ fun ds' inv μ' => ds' = ds ∧ μ' = μ ∧ inv μ := wi_tup (ds := ds) (h.go ⟨ds, rfl, rfl, rfl, trivial⟩)
theorem wi_rngP {n : Nat} (h : EvA K t ρ μ [.int (n : Int)]) (hn : n ≤ 100000) : WI K (iRng1 t) ρ μ fun ds' inv μ' => ds' = rngD 0 n ∧ μ' = μ ∧ inv μ := wi_rng1 h ⟨by omega, by omega⟩ ⟨by simp, rfl, trivial⟩
theorem rngD0 {n i : Nat} (h : (rngD 0 n)[i]? = some d) : i < n ∧ d = .int (i : Int) := by
  obtain ⟨h1, h2⟩ := rngD_get h
  exact ⟨h1, by rw [h2, Int.zero_add]⟩
/-- over a range -/
theorem ev_lcR {n j : Nat} {vs : List Nat} (f : Nat → D) (h : EvA K t ρ μ [.int (n : Int)]) (hn : n ≤ 100000) (he : ∀ i : Nat, i < n → Ev K te ((wipeR ρ vs).set j (some (.int (i : Int)))) μ (f i)) (hg : j ∈ vs := by simp) :
    Ev K (tLc (iRng1 t) (gName j) tYes te vs) ρ μ (.lst ((List.range n).map f)) := by
  refine ev_lc (es := rngD 0 n) (gok_name hg) (sz_of (by rw [rngD_len]; exact hn)) (by rw [rngD_len]; simp) (wi_rngP h hn) fun i d e hd he' => ?_
  obtain ⟨hi, rfl⟩ := rngD0 hd
  rw [List.getElem?_map, List.getElem?_range hi] at he'
  cases he'
  exact wg_name ⟨rfl, he i hi⟩
theorem ev_lcRR {n m j l : Nat} {vs : List Nat} {t1 : TA} (f : Nat → Nat → D) (h : EvA K t ρ μ [.int (n : Int)]) (hz : n * m ≤ 100000) (hn : n ≤ 100000) (hm : m ≤ 100000)
    (h1 : ∀ i : Nat, i < n → EvA K t1 ((wipeR ρ vs).set j (some (.int (i : Int)))) μ [.int (m : Int)])
    (he : ∀ i k : Nat, i < n → k < m → Ev K te ((wipeR ((wipeR ρ vs).set j (some (.int (i : Int)))) [l]).set l (some (.int (k : Int)))) μ (f i k)) (hg : j ∈ vs := by simp) (hg1 : l ∈ vs := by simp) :
    Ev K (tLc2 (iRng1 t) (gName j) tYes (iRng1 t1) (gName l) tYes te vs [l]) ρ μ (.lst ((List.range n).map fun i => (List.range m).map (f i)).flatten) := by
  have e : (List.range n).map (fun i => (List.range m).map (f i)) = (rngD 0 n).map fun d => (rngD 0 m).map fun b => match d, b with | .int i, .int k => f i.toNat k.toNat | _, _ => .non := by
    unfold rngD
    rw [List.map_map]
    refine List.map_congr_left fun i _ => ?_
    rw [Function.comp_apply, List.map_map]
    refine List.map_congr_left fun k _ => ?_
    simp
  rw [e]
  refine ev_lc2 (es := rngD 0 n) (row := fun _ => rngD 0 m) (f := fun d b => match d, b with | .int i, .int k => f i.toNat k.toNat | _, _ => .non) (gok_name hg) gok_name (by simpa using hg1) (sz_of ?_) ?_
  · rw [← e, List.length_flatten, List.map_map]
    have : (List.range n).map (List.length ∘ fun i => (List.range m).map (f i)) = (List.range n).map fun _ => m := List.map_congr_left fun i _ => by simp
    rw [this]
    have h2 : ∀ n : Nat, ((List.range n).map fun _ => m).sum = n * m := fun n => by
      induction n with
      | zero => simp
      | succ n ih => rw [List.range_succ, List.map_append, List.sum_append, ih, Nat.succ_mul]; simp
    rw [h2]; exact hz
  · refine fun G0 H0 G H σ A R' q' => wi_rngP h hn G0 H0 G H σ A R' fun J ds inv μ' G' H' p => q' J ds inv μ' G' H' ?_
    obtain ⟨rfl, rfl, iv⟩ := p
    refine ⟨rfl, rfl, iv, fun i d hd => wg_name ⟨rfl, ?_⟩⟩
    obtain ⟨hi, rfl⟩ := rngD0 hd
    refine fun G0 H0 G H σ A R' q' => wi_rngP (h1 i hi) hm G0 H0 G H σ A R' fun J ds inv μ' G' H' p => q' J ds inv μ' G' H' ?_
    obtain ⟨rfl, rfl, iv⟩ := p
    refine ⟨rfl, rfl, iv, fun k d1 hd1 => wg_name ⟨rfl, ?_⟩⟩
    obtain ⟨hk, rfl⟩ := rngD0 hd1
    have := he i k hi hk
    simpa using this
end
end Hw
set_option Elab.async false
set_option linter.all false
set_option maxRecDepth 100000
set_option maxHeartbeats 4000000
/-! Iterators that the layer lacks: enumerate(tuple), zip(tuple, list), items() of a dict with tuple keys. -/
namespace PySem
section
/-- what enumerate(v) makes over an iterator that lies at p -/
def freshEnum (p : Addr) : Obj := { cls := .type "enumerate", data := .fields #[.none, .bool false, .ref p, rawInt 0, .none, .none] }
/-- enumerate(v): v's iterator and the new object lie at the heap's end -/
theorem hw_enum_new {v : Value} {o : Obj} {H : Heap → Prop} (B : Begins v o H) :
    Meets (Builtin.«enumerate.__new__» ⟨[.type "enumerate", v], []⟩) fun _ R s =>
      H s.heap ∧ R (.ok (.ret (.ref (s.heap.objs.size + 1)))) { s with heap := (s.heap.push o).push (freshEnum s.heap.objs.size) } := by
  refine .of_wp fun prog w A R ⟨hp, g, d, tk, os⟩ ⟨begun, done⟩ => ?_
  have known := sub_enumerate
  have first : ∀ {B' : Around} {E' Q' : Value → Shared → Prop}, Q' (.ref hp.objs.size) ⟨hp.push o, g, d, tk, os⟩ → wpAny (model prog w) B' (pyIter v) Q' E' ⟨hp, g, d, tk, os⟩ :=
    fun {_ _ _} q => B.iter prog w _ _ _ _ begun q
  have two : (hp.push o).objs.size = hp.objs.size + 1 := Heap.size_push ..
  dsimp only at done
  rw [← two] at done
  wp_walk using first
  refine wpAny_stack_any fun _ => wpAny_pure ?_
  split <;> try (rename_i c _ _ _ _ _; cases (c == Value.type "enumerate"))
  all_goals (wp_walk using first; exact ⟨_, rfl, done⟩)
variable {prog : Program} {w : World} {A : Around} {E : Value → Shared → Prop} {s : Shared}
theorem hw_enum {v : Value} {o : Obj} {H : Heap → Prop} {Q : Value → Shared → Prop} (B : Begins v o H) (begun : H s.heap)
    (go : ∀ h', IsEnum h' (s.heap.objs.size + 1) s.heap.objs.size 0 .none → h'.get? s.heap.objs.size = some o → (∀ b u, s.heap.get? b = some u → h'.get? b = some u) →
      Q (.ref (s.heap.objs.size + 1)) { s with heap := h' }) : wpAny (model prog w) A (call (.type "enumerate") [v]) Q E s := by
  have cell : ((s.heap.push o).push (freshEnum s.heap.objs.size)).get? (s.heap.objs.size + 1) = some (freshEnum s.heap.objs.size) := by
    have z := Heap.get?_push_size (s.heap.push o) (o := freshEnum s.heap.objs.size) rfl
    rwa [Heap.size_push] at z
  have made := hw_enum_new B
  refine callType_new F.called_enumerate (by decide) (F.typeCall_enumerate_1 _) (F.newCall_enumerate_1 _) (fun u => F.args_object_init_2 u _) F.entry_enumerate_new made ⟨begun, ⟨_, cell, rfl⟩, ?_⟩
  exact go _ cell (Heap.get?_push_of_some _ (Heap.get?_push_size _ B.free)) fun _ _ z => Heap.get?_push_of_some _ (Heap.get?_push_of_some _ z)
end
end PySem
namespace Hw
open PySem PySem.Spec L2
/-- pairs: what is yielded is a new tuple -/
def ItPair (n : Hp → Nat → Prop) (R : Hp → Nat → V → V → Prop) : It :=
  ⟨fun i H => ∃ m, n H m ∧ i < m, fun i H v H' => ∃ T x y, v = .ref T ∧ H T = none ∧ H' = L2.upd H T (.tup [x, y]) ∧ R H i x y, fun i H => n H i⟩
/-- an iterator of new pairs, by the library's walk -/
theorem turn_pairs {P : Program} {w : World} {K : PySem.W.Frag} {elts : List Expr} {kk : Nat} {tpos : Pos} {n : Hp → Nat → Prop} {R : Hp → Nat → V → V → Prop} {own wr : List Addr} {it : Addr} {tn : Nat → Heap → Prop} (sub : ∀ b ∈ wr, b ∈ own)
    (mem : it ∈ own) (obj : ∀ i h, tn i h → ∀ b ∈ own, ∃ o, h.get? b = some o ∧ ∀ v, o.data ≠ .cell v)
    (keep : ∀ i h h', tn i h → (∀ b ∈ own, ∀ o, h.get? b = some o → h'.get? b = some o) → tn i h')
    (W : ∀ (X : Cx), X.prog = P → X.w = w → X.K = K → X.calm = true → ∀ (i m : Nat) (pins : List (Addr × Obj)) (s : Shared) (σ : L2.St) (H : Hp), Inv X pins σ H s → (∀ b ∈ own, FpOk X pins H b) → tn i s.heap → n H m → i ≤ m →
      ∃ (fp : List Addr) (Pt : Nat → Array Value → Prop) (St : Nat → Heap → Prop) (Mid : Nat → Addr → Heap → Prop), WalksT P w X.A it fp wr m Pt St Mid ∧ St i s.heap ∧ (∀ i h, St i h → tn i h) ∧ ∀ vals, Pt i vals → ∃ u1 u2 x y, vals = #[u1, u2] ∧ RelV x u1 ∧ RelV y u2 ∧ R H i x y)
    (self : ∀ (A : Around) (i : Nat) (s : Shared) (Q : Value → Shared → Prop) (E : Value → Shared → Prop), tn i s.heap → Q (.ref it) s → wpAny (model P w) A (pyIter (.ref it)) Q E s) :
    Turn P w K (.Tuple elts kk tpos) (ItPair n R) own it tn where
  mem := mem
  obj := obj
  keep := keep
  item := by
    intro X hP hw hK hc i pins s σ H E I hf st hg
    obtain ⟨m, hn, hi⟩ := hg
    obtain ⟨fp, Pt, St, Mid, WT, s0, bk, hv⟩ := W X hP hw hK hc i m pins s σ H I hf st hn (Nat.le_of_lt hi)
    refine WT.item i s _ _ hi s0 fun T vals h' tk hP' hT ht hm hk => ⟨_, rfl, WT.go elts kk tpos i T { s with heap := h', toks := tk } _ _ hm fun h2 s2 hk2 => ?_⟩
    obtain ⟨u1, u2, x, y, rfl, r1, r2, hR⟩ := hv vals hP'
    have hT2 : h2.IsTuple T #[u1, u2] := ht.at fun o e => hk2 T o (WT.apart i T h' hm) e
    have new : ObjOk X.prog X.w (L2.upd H T (.tup [x, y])) h2 T (.tup [x, y]) := by
      refine ⟨by show 2 ≤ sizeLine; decide, [u1, u2], .cons r1 (.cons r2 .nil), ?_⟩
      exact hT2
    have I1 : Inv X pins σ (L2.upd H T (.tup [x, y])) { s with heap := h2, toks := tk } :=
      I.turnedNew (ch := own) (fun b o hb e => hk2 b o (fun z => hb (sub b z)) (hk b o (fun z => hb (sub b z)) e)) hf hT new
    refine ⟨.ref T, _, I1, rfl, ⟨T, x, y, rfl, I.hok.fresh hT, rfl, hR⟩, bk _ _ s2, fun b hb => ?_⟩
    obtain ⟨o, ho, _⟩ := obj i _ st b hb
    have hne : b ≠ T := Nat.ne_of_lt (Nat.lt_of_lt_of_le (Heap.lt_size ho) hT)
    rw [L2.upd_ne hne]
    exact (hf b hb).1
  done := by
    intro X hP hw hK hc i pins s σ H E I hf st hg
    obtain ⟨fp, Pt, St, Mid, WT, s0, bk, hv⟩ := W X hP hw hK hc i i pins s σ H I hf st hg (Nat.le_refl _)
    refine WT.done s _ _ s0 fun h' tk hk => ⟨rfl, ?_⟩
    refine I.step (g' := s.gens) (d' := s.drawn) (ch := own) (fun b hb => ⟨(hf b hb).2.2.2.1, (hf b hb).2.1, (hf b hb).2.2.2.2.1, (hf b hb).2.2.2.2.2⟩) (fun b o _ _ hc e _ => hk b o (fun z => hc (sub b z)) e) (fun b o _ _ hc e _ => ⟨o.slots, hk b o (fun z => hc (sub b z)) e⟩)
      (fun b o hc e n => n) (fun b o hc e => ⟨o, hk b o (fun z => hc (sub b z)) e⟩) (fun _ _ q => q) (fun _ _ _ q => q) (fun _ ps q => ⟨#[], by rw [q]; simp⟩) (fun m' hm => ?_) ?_ I.bare
    · obtain ⟨o, es, ep, ho, r⟩ := hm
      exact ⟨o, es, ep, hk _ o (fun z => (hf _ (sub _ z)).2.1 rfl) ho, r⟩
    · have I2 := I.hok
      refine fun b o e => (I2 b o e).stay (fun c u hc q => hk c u (fun z => ?_) q) (fun _ q => q) fun _ _ q => q
      rcases hc with hc | hc
      · subst hc; rw [(hf c (sub c z)).1] at e; cases e
      · rw [(hf c (sub c z)).1] at hc; cases hc
  self := self
/-! ### enumerate(tuple) -/
theorem pgetV : ∀ {xs : List V} {us : List Value} {j : Nat} {u : Value}, Vals xs us → us[j]? = some u → ∃ x, xs[j]? = some x ∧ RelV x u
  | _, _, _, _, .nil, e => by simp at e
  | _, _, 0, _, .cons r _, e => by simp at e; subst e; exact ⟨_, rfl, r⟩
  | _, _, j + 1, u, .cons _ t, e => by
    obtain ⟨x, h1, h2⟩ := pgetV (j := j) (u := u) t (by simpa using e)
    exact ⟨x, by simpa using h1, h2⟩
theorem tup_inj {h : Heap} {a : Addr} {xs ys : Array Value} (p : PyProof.Rows.IsTup h a xs) (q : PyProof.Rows.IsTup h a ys) : xs = ys := by
  obtain ⟨o3, g3, _, n3, d3⟩ := p
  obtain ⟨o2, g2, _, n2, d2⟩ := q
  rw [g2] at g3; cases g3
  rw [d2] at d3
  injection d3 with d4 d5
  exact d4.symm
abbrev RvE (K : PySem.W.Frag) (a : Addr) : Hp → Nat → V → V → Prop := fun H i x y => x = .int (i : Int) ∧ ∀ xs, SqT K H a xs → xs[i]? = some y
abbrev NvE (K : PySem.W.Frag) (a : Addr) : Hp → Nat → Prop := fun H m => ∃ xs, SqT K H a xs ∧ m = xs.length
theorem turn_enumT {P : Program} {w : World} {K : PySem.W.Frag} {elts : List Expr} {kk : Nat} {tpos : Pos} {a e it : Addr} (hai : a ≠ it) (hea : e ≠ a) (hei : e ≠ it) :
    Turn P w K (.Tuple elts kk tpos) (ItPair (NvE K a) (RvE K a)) [e, it] e (fun i h => (∃ old, IsEnum h e it (0 + (i : Int)) old) ∧ h.IsTupleIter it a i) := by
  refine turn_pairs (wr := [e, it]) (fun b hb => hb) (by simp) ?_ ?_ ?_ ?_
  · rintro i h ⟨⟨old, h1⟩, ⟨o, ho, hc, hd⟩⟩ b hb
    rcases (by simpa using hb : b = e ∨ b = it) with z | z
    · rw [z]; exact ⟨_, h1, fun v q => nomatch q⟩
    · rw [z]; exact ⟨o, ho, fun v q => by rw [hd] at q; cases q⟩
  · rintro i h h' ⟨⟨old, h1⟩, h2⟩ k
    exact ⟨⟨old, k _ (by simp) _ h1⟩, h2.at fun o q => k _ (by simp) o q⟩
  · intro X hP hw hK hc i m pins s σ H I hf st hn hle
    subst hP hw hK
    obtain ⟨ys, hy, rfl⟩ := hn
    obtain ⟨its, rv, ht, _⟩ := I.tuple hy
    have D := Draws.tuple (prog := X.prog) (w := X.w) (A := X.A.in1) (I.ok.hd hc) it a hai its.toArray
    have Wk := WalksT.enumFrom 0 D e hei (by simp [hea, hei]) (by simp)
    have hsz : its.toArray.size = ys.length := by rw [rv.length]; simp
    rw [hsz] at Wk
    refine ⟨_, _, _, _, Wk, ⟨st.1, st.2, ht⟩, fun i h z => ⟨z.1, z.2.1⟩, fun vals z => ?_⟩
    obtain ⟨t, x, hx, rfl⟩ := z
    have hx' : its[i]? = some x := by simpa using hx
    obtain ⟨y, hy1, hy2⟩ := pgetV rv hx'
    refine ⟨_, _, .int (i : Int), y, rfl, ⟨t, by rw [Int.zero_add]⟩, hy2, rfl, fun zs hz2 => ?_⟩
    obtain ⟨its3, rv3, ht3, _⟩ := I.tuple hz2
    have e3 : its3 = its := by simpa using tup_inj ht3 ht
    subst e3
    rw [rv3.inj rv]; exact hy1
  · intro A i s Q E st h
    obtain ⟨⟨_, h1⟩, _⟩ := st
    exact wpAny_pyIter_enum h1 h
def iEnumT (K : PySem.W.Frag) (ta : TA) : TI := fun σ H R => ta σ H fun vs H1 => ∃ a, vs = [.ref a] ∧ (∃ xs, SqT K H1 a xs) ∧ R (ItPair (NvE K a) (RvE K a)) H1
theorem tup_lt {h : Heap} {a : Addr} {xs : Array Value} (p : PyProof.Rows.IsTup h a xs) : a < h.objs.size := by
  obtain ⟨o, ho, _⟩ := p
  exact Heap.lt_size ho
theorem pi_enumT {X : Cx} {e : Expr} {ta : TA} {p pos tpos : Pos} {elts : List Expr} {kk : Nat} (hg : Gl X "enumerate") (hm : X.mg "enumerate" = none) (ha : PA X [e] ta) (hs : starEach [e] X.env = [(false, eval e X.env)] := by rfl) :
    PI X (.Tuple elts kk tpos) (.Call (.Name "enumerate" p) [e] [] pos) (iEnumT X.K ta) := by
  refine ⟨fun pins s σ H R I h => ?_⟩
  refine PyProof.Rows.Call_ (ld_blt I hg hm PyProof.Rows.boot_enumerate (PyProof.Rows.callWith_type1 (thn (ha.run pos pins s σ H _ I h) fun us s1 ⟨vs, H1, I1, r1, q1⟩ => ?_) hs rfl))
  obtain ⟨a, ex, ⟨xs, hq⟩, q⟩ := q1
  subst ex
  cases r1 with
  | cons r rr =>
    cases rr
    cases r
    obtain ⟨its, rv, ht, hz⟩ := I1.tuple hq
    have hlt := tup_lt ht
    refine hw_enum (begins_tuple a its.toArray) ht fun h' he hit hk => wpAny_pyIter_enum he ?_
    have I2 : Inv X pins σ H1 { s1 with heap := h' } := I1.kept (t' := s1.toks) hk
    have hit' : h'.IsTupleIter s1.heap.objs.size a 0 := ⟨_, hit, rfl, rfl⟩
    refine ⟨s1.heap.objs.size + 1, [s1.heap.objs.size + 1, s1.heap.objs.size], _, _, H1, rfl, I2, turn_enumT (Nat.ne_of_lt hlt) (Nat.ne_of_gt (Nat.lt_succ_of_lt hlt)) (Nat.succ_ne_self _), ⟨⟨_, by simpa using he⟩, hit'⟩, fun b hb => ?_, q⟩
    rcases (by simpa using hb : b = s1.heap.objs.size + 1 ∨ b = s1.heap.objs.size) with z | z
    · rw [z]; exact I1.fpOk (Nat.le_succ _) (I1.hok.fresh (Nat.le_succ _))
    · rw [z]; exact I1.fpOk (Nat.le_refl _) (I1.hok.fresh (Nat.le_refl _))
/-! ### zip(tuple, list) -/
abbrev RvZ (K : PySem.W.Frag) (a b : Addr) : Hp → Nat → V → V → Prop := fun H i x y => (∀ xs, SqT K H a xs → xs[i]? = some x) ∧ ∀ ys, SqL K H b ys → ys[i]? = some y
abbrev NvZ (K : PySem.W.Frag) (a b : Addr) : Hp → Nat → Prop := fun H m => ∃ xs ys, SqT K H a xs ∧ SqL K H b ys ∧ m = xs.length ∧ m = ys.length
theorem turn_zipTL {P : Program} {w : World} {K : PySem.W.Frag} {elts : List Expr} {kk : Nat} {tpos : Pos} {a b z TI TO i1 i2 : Addr} (S : ZipSep2 z TI TO i1 i2 [i1, a] [i2, b]) :
    Turn P w K (.Tuple elts kk tpos) (ItPair (NvZ K a b) (RvZ K a b)) [z, TI, TO, i1, i2] z (fun i h => IsZip h z TI TO .none ∧ IsTupOf2 h TI (.ref i1) (.ref i2) ∧ (∃ x y, IsTupOf2 h TO x y) ∧ h.IsTupleIter i1 a i ∧ h.IsListIter i2 b i) := by
  refine turn_pairs (wr := [z, TO, i1, i2]) (fun b hb => by simp at hb ⊢; rcases hb with h | h | h | h <;> simp [h]) (by simp) ?_ ?_ ?_ ?_
  · rintro i h ⟨ez, eI, ⟨_, _, eO⟩, ⟨_, e1, _, f1⟩, ⟨_, e2, _, f2⟩⟩
    have lies : ∀ {c : Addr} {o : Obj}, h.get? c = some o → (∀ v, o.data ≠ .cell v) → ∃ o, h.get? c = some o ∧ ∀ v, o.data ≠ .cell v := fun g n => ⟨_, g, n⟩
    simp only [List.forall_mem_cons, List.not_mem_nil, false_implies, implies_true, and_true]
    refine ⟨lies ez nofun, lies eI nofun, lies eO nofun, lies e1 fun v g => ?_, lies e2 fun v g => ?_⟩
    · rw [f1] at g; exact nomatch g
    · rw [f2] at g; exact nomatch g
  · rintro i h h' ⟨ez, eI, ⟨x, y, eO⟩, e1, e2⟩ same
    simp only [List.forall_mem_cons, List.not_mem_nil, false_implies, implies_true, and_true] at same
    obtain ⟨kz, kI, kO, k1, k2⟩ := same
    exact ⟨kz _ ez, kI _ eI, ⟨x, y, kO _ eO⟩, e1.at k1, e2.at k2⟩
  · intro X hP hw hK hc i m pins s σ H I hf st hn hle
    subst hP hw hK
    obtain ⟨xs, ys, hx, hy, rfl, hxy⟩ := hn
    obtain ⟨its, rv, ht, _⟩ := I.tuple hx
    obtain ⟨its2, rv2, hl, _⟩ := I.list hy
    have ne1 : a ≠ i1 := fun q => by
      obtain ⟨o1, e1, c1, d1⟩ := st.2.2.2.1
      obtain ⟨o2, g2, c2, _⟩ := ht
      rw [← q, g2] at e1; cases e1
      rw [c2] at c1
      exact absurd c1 (by decide)
    have ne2 : b ≠ i2 := fun q => by
      obtain ⟨o1, e1, c1, d1⟩ := st.2.2.2.2
      obtain ⟨o2, n2, g2, c2, _⟩ := hl
      rw [← q, g2] at e1; cases e1
      rw [c2] at c1
      exact absurd c1 (by decide)
    have D1 := Draws.tuple (prog := X.prog) (w := X.w) (A := X.A.in1) (I.ok.hd hc) i1 a ne1 its.toArray
    have D2 := Draws.list (prog := X.prog) (w := X.w) (A := X.A.in1) (I.ok.hd hc) i2 b ne2 its2.toArray
    have Wk := WalksT.zipD2 S D1 D2
    have hsz : min its.toArray.size its2.toArray.size = xs.length := by
      have e1 := rv.length
      have e2 := rv2.length
      simp; omega
    rw [hsz] at Wk
    refine ⟨_, _, _, _, Wk, ⟨st.1, st.2.1, st.2.2.1, ⟨st.2.2.2.1, ht⟩, st.2.2.2.2, hl.isList⟩, fun i h q => ⟨q.1, q.2.1, q.2.2.1, q.2.2.2.1.1, q.2.2.2.2.1⟩, fun vals q => ?_⟩
    obtain ⟨u1, u2, h1, h2, rfl⟩ := q
    have h1' : its[i]? = some u1 := by simpa using h1
    have h2' : its2[i]? = some u2 := by simpa using h2
    obtain ⟨x, hx1, hx2⟩ := pgetV rv h1'
    obtain ⟨y, hy1, hy2⟩ := pgetV rv2 h2'
    refine ⟨u1, u2, x, y, rfl, hx2, hy2, fun zs hz2 => ?_, fun zs hz2 => by rw [I.list_inj hz2 hy]; exact hy1⟩
    obtain ⟨its3, rv3, ht3, _⟩ := I.tuple hz2
    have e3 : its3 = its := by simpa using tup_inj ht3 ht
    subst e3
    rw [rv3.inj rv]; exact hx1
  · intro A i s Q E st h
    exact wpAny_pyIter_zip st.1 h
def iZipTL (K : PySem.W.Frag) (ta : TA) : TI := fun σ H R => ta σ H fun vs H1 => ∃ a b, vs = [.ref a, .ref b] ∧ (∃ xs, SqT K H1 a xs) ∧ (∃ ys, SqL K H1 b ys) ∧ R (ItPair (NvZ K a b) (RvZ K a b)) H1
theorem pi_zipTL {X : Cx} {e e2 : Expr} {ta : TA} {p pos tpos : Pos} {elts : List Expr} {kk : Nat} (hg : Gl X "zip") (hm : X.mg "zip" = none) (ha : PA X [e, e2] ta)
    (hs : starEach [e, e2] X.env = (false, eval e X.env) :: starEach [e2] X.env := by rfl) (hpl : (backTo pos (starEach [e2] X.env)).any (·.1) = false := by rfl) :
    PI X (.Tuple elts kk tpos) (.Call (.Name "zip" p) [e, e2] [] pos) (iZipTL X.K ta) := by
  refine ⟨fun pins s σ H R I h => ?_⟩
  refine PyProof.Rows.Call_ (ld_blt I hg hm PyProof.Rows.boot_zip (PyProof.Rows.callWith_type1 (thn (ha.run pos pins s σ H _ I h) fun us s1 ⟨vs, H1, I1, r1, q1⟩ => ?_) hs hpl))
  obtain ⟨a, b, ex, ⟨xs, hx⟩, ⟨ys, hy⟩, q⟩ := q1
  subst ex
  cases r1 with
  | cons r rr =>
    cases rr with
    | cons r' rr =>
      cases rr
      cases r
      cases r'
      obtain ⟨its, rv, ht, _⟩ := I1.tuple hx
      obtain ⟨its2, rv2, hl, _⟩ := I1.list hy
      have la := tup_lt ht
      have lb : b < s1.heap.objs.size := hl.lt
      refine zip_begins2 (begins_tuple a its.toArray) (begins_list b its2.toArray) ht hl.isList fun h' hz hTI hTO h1 h2 hsz hk => wpAny_pyIter_zip hz ?_
      have I2 : Inv X pins σ H1 { s1 with heap := h' } := I1.kept (t' := s1.toks) hk
      refine ⟨s1.heap.objs.size + 4, [s1.heap.objs.size + 4, s1.heap.objs.size + 2, s1.heap.objs.size + 3, s1.heap.objs.size, s1.heap.objs.size + 1], _, _, H1, rfl, I2,
        turn_zipTL (zip_sep2 (fp1 := [a]) (fp2 := [b]) (by simpa using la) (by simpa using lb)), ⟨hz, hTI, ⟨_, _, hTO⟩, ⟨_, h1, rfl, rfl⟩, ⟨_, h2, rfl, rfl⟩⟩, fun c hcm => ?_, q⟩
      have hle : s1.heap.objs.size ≤ c := by
        rcases (by simpa using hcm : c = s1.heap.objs.size + 4 ∨ c = s1.heap.objs.size + 2 ∨ c = s1.heap.objs.size + 3 ∨ c = s1.heap.objs.size ∨ c = s1.heap.objs.size + 1) with z | z | z | z | z
        all_goals (rw [z]; first | exact Nat.le_add_right _ _ | exact Nat.le_refl _)
      exact I1.fpOk hle (I1.hok.fresh hle)
/-! ### the calculus' words -/
section
variable {K : PySem.W.Frag} {ρ : List (Option D)} {μ : Mu} {t : TA} {ds es : List D}
def enumD (ds : List D) : List D := ds.mapIdx fun i d => .tup [.int (i : Int), d]
def zipD (ds es : List D) : List D := (ds.zip es).map fun p => .tup [p.1, p.2]
theorem enumD_get {i : Nat} {d : D} (h : (enumD ds)[i]? = some d) : ∃ e, ds[i]? = some e ∧ d = .tup [.int (i : Int), e] := by
  unfold enumD at h
  rw [List.getElem?_mapIdx] at h
  cases q : ds[i]? with
  | none => rw [q] at h; cases h
  | some e => rw [q] at h; cases h; exact ⟨e, rfl, rfl⟩
theorem zipD_get {i : Nat} {d : D} (h : (zipD ds es)[i]? = some d) : ∃ x y, ds[i]? = some x ∧ es[i]? = some y ∧ d = .tup [x, y] := by
  unfold zipD at h
  rw [List.getElem?_map] at h
  cases q : (ds.zip es)[i]? with
  | none => rw [q] at h; cases h
  | some p =>
    rw [q] at h; cases h
    obtain ⟨h1, h2⟩ := List.getElem?_zip_eq_some.mp q
    exact ⟨_, _, h1, h2, rfl⟩
theorem wi_enumT {PI : List D → (Mu → Prop) → Mu → Prop} (h : EvA K t ρ μ [.tup ds]) (p : PI (enumD ds) (fun _ => True) μ) : WI K (iEnumT K t) ρ μ PI := fun G0 H0 G H σ A R q =>
  h G0 H0 G H σ A _ fun vs ws μ' G' H' pe e A' l => by
    obtain ⟨rfl, rfl⟩ := pe
    obtain ⟨v, r, rfl, i, l⟩ := l
    cases l
    obtain ⟨a, xs, rfl, ea, l⟩ := i
    refine ⟨a, rfl, ⟨xs, SqT.of (A'.gh _ _ ea)⟩, q _ _ _ _ G' H' p e A' fun G0 H0 G2 H2 ρ2 μ2 σ2 e2 A2 _ => ?_⟩
    have sq : SqT K H2 a xs := SqT.of (A2.gh _ _ (e2 _ _ ea))
    refine ⟨fun i d hd => ?_, ⟨xs, sq, by simp [enumD, l.len]⟩⟩
    obtain ⟨c, hc, rfl⟩ := enumD_get hd
    refine ⟨⟨xs.length, ⟨xs, sq, rfl⟩, by rw [l.len]; exact (List.getElem?_eq_some_iff.mp hc).1⟩, fun x H' y => ?_⟩
    obtain ⟨T, u, w, rfl, hT, rfl, rfl, hw⟩ := y
    obtain ⟨w2, h1, h2⟩ := l.get hc
    have h3 := hw xs sq
    rw [h1] at h3
    cases h3
    have eg : Ex G2 (L2.upd G2 T (.tup [.int (i : Int), w])) := Ex.new (A2.gh.off hT)
    exact ⟨_, eg, A2.laid hT, T, _, rfl, L2.upd_same, _, _, rfl, rfl, _, _, rfl, (h2.mono e2).mono eg, rfl⟩
theorem wi_zipTL {PI : List D → (Mu → Prop) → Mu → Prop} (h : EvA K t ρ μ [.tup ds, .lst es]) (hl : ds.length = es.length) (p : PI (zipD ds es) (fun _ => True) μ) : WI K (iZipTL K t) ρ μ PI := fun G0 H0 G H σ A R q =>
  h G0 H0 G H σ A _ fun vs ws μ' G' H' pe e A' l => by
    obtain ⟨rfl, rfl⟩ := pe
    obtain ⟨v, r, rfl, i, l⟩ := l
    obtain ⟨v2, r2, rfl, i2, l⟩ := l
    cases l
    obtain ⟨a, xs, rfl, ea, l⟩ := i
    obtain ⟨b, ys, rfl, eb, lb⟩ := i2
    refine ⟨a, b, rfl, ⟨xs, SqT.of (A'.gh _ _ ea)⟩, ⟨ys, SqL.of (A'.gh _ _ eb)⟩, q _ _ _ _ G' H' p e A' fun G0 H0 G2 H2 ρ2 μ2 σ2 e2 A2 _ => ?_⟩
    have sq : SqT K H2 a xs := SqT.of (A2.gh _ _ (e2 _ _ ea))
    have sl : SqL K H2 b ys := SqL.of (A2.gh _ _ (e2 _ _ eb))
    have h1 := l.len
    have h2 := lb.len
    refine ⟨fun i d hd => ?_, ⟨xs, ys, sq, sl, by simp [zipD]; omega, by simp [zipD]; omega⟩⟩
    obtain ⟨c, f, hc, hf, rfl⟩ := zipD_get hd
    refine ⟨⟨xs.length, ⟨xs, ys, sq, sl, rfl, by omega⟩, by rw [h1]; exact (List.getElem?_eq_some_iff.mp hc).1⟩, fun x H' y => ?_⟩
    obtain ⟨T, u, w, rfl, hT, rfl, hu, hw⟩ := y
    obtain ⟨u2, g1, g2⟩ := l.get hc
    obtain ⟨w2, g3, g4⟩ := lb.get hf
    have g5 := hu xs sq
    rw [g1] at g5
    cases g5
    have g6 := hw ys sl
    rw [g3] at g6
    cases g6
    have eg : Ex G2 (L2.upd G2 T (.tup [u, w])) := Ex.new (A2.gh.off hT)
    exact ⟨_, eg, A2.laid hT, T, _, rfl, L2.upd_same, _, _, rfl, (g2.mono e2).mono eg, _, _, rfl, (g4.mono e2).mono eg, rfl⟩
end
end Hw
set_option Elab.async false
set_option linter.all false
set_option maxRecDepth 100000
set_option maxHeartbeats 4000000
/-! Data compared. -/
namespace Hw
open PySem PySem.Spec L2
mutual
def toPy : D → PyData
  | .non => .none
  | .bl b => .bool b
  | .int i => .int i
  | .str x => .str x
  | .tup ds => .tuple (toPyL ds)
  | .lst ds => .list (toPyL ds)
  | .sq ds => .list (toPyL ds)
  | .dct _ _ => .none
  | .raw _ => .none
def toPyL : List D → List PyData
  | [] => []
  | d :: ds => toPy d :: toPyL ds
end
mutual
def okD : D → Bool
  | .non => true
  | .bl _ => true
  | .int _ => true
  | .str _ => true
  | .tup ds => okDs ds
  | .lst ds => okDs ds
  | .sq ds => okDs ds
  | .dct _ _ => false
  | .raw _ => false
def okDs : List D → Bool
  | [] => true
  | d :: ds => okD d && okDs ds
end
section
variable {K : PySem.W.Frag} {G H : Hp}
mutual
theorem Is.dp (e : Ex G H) : ∀ {d : D} {v : V}, okD d = true → Is K G d v → Dp K H v (toPy d)
  | .non, _, _, h => by cases h; exact .non
  | .bl b, _, _, h => by cases h; exact .bl b
  | .int b, _, _, h => by cases h; exact .int b
  | .str b, _, _, h => by cases h; exact .str b
  | .tup ds, _, o, h => by
    obtain ⟨a, xs, rfl, s, l⟩ := h
    exact .tup (SqT.of (e _ _ s)) (IsL.dp e o l)
  | .lst ds, _, o, h => by
    obtain ⟨a, xs, rfl, s, l⟩ := h
    exact .lst (SqL.of (e _ _ s)) (IsL.dp e o l)
  | .sq ds, _, o, h => by
    obtain ⟨a, xs, rfl, s, l⟩ := h
    exact .lst (e.sl s) (IsL.dp e o l)
  | .dct _ _, _, o, _ => by cases o
  | .raw _, _, o, _ => by cases o
theorem IsL.dp (e : Ex G H) : ∀ {ds : List D} {xs : List V}, okDs ds = true → IsL K G ds xs → DpAll K H xs (toPyL ds)
  | [], _, _, h => by cases h; exact .nil
  | d :: ds, _, o, h => by
    obtain ⟨x, r, rfl, i, l⟩ := h
    have o2 : okD d = true ∧ okDs ds = true := Bool.and_eq_true_iff.mp o
    exact .cons (Is.dp e o2.1 i) (IsL.dp e o2.2 l)
end
end
section
variable {K : PySem.W.Frag} {ρ : List (Option D)} {μ : Mu} {P : D → Mu → Prop} {x y : D} {ta tb : TE}
theorem ro_eqD (o1 : okD x = true := by rfl) (o2 : okD y = true := by rfl) (s1 : SeqAt.shaped (toPy x) = true := by rfl) (s2 : SeqAt.shaped (toPy y) = true := by rfl) (p : P (.bl (PyData.eqv (toPy x) (toPy y))) μ) : RO K (rEqD K) x y μ P := fun G0 H0 G H ρ σ v u A h1 h2 Q q =>
  ⟨_, _, h1.dp A.gh o1, h2.dp A.gh o2, s1, s2, q _ _ μ G H p (Ex.refl _) A rfl⟩
theorem ev_eqD {b : Bool} (ha : Ev K ta ρ μ x) (hb : Ev K tb ρ μ y) (hd : PyData.eqv (toPy x) (toPy y) = b) (o1 : okD x = true := by rfl) (o2 : okD y = true := by rfl) (s1 : SeqAt.shaped (toPy x) = true := by rfl) (s2 : SeqAt.shaped (toPy y) = true := by rfl) : Ev K (tOp (rEqD K) ta tb) ρ μ (.bl b) := ev_op ha hb (ro_eqD o1 o2 s1 s2 ⟨by rw [hd], rfl⟩)
end
theorem eqv_cell (c d : Cell) : PyData.eqv (toPy (cellD c)) (toPy (cellD d)) = decide (c = d) := by
  obtain ⟨a, b⟩ := c
  obtain ⟨a', b'⟩ := d
  show (((a : Int) == (a' : Int)) && (((b : Int) == (b' : Int)) && true)) = decide ((a, b) = (a', b'))
  rw [Bool.eq_iff_iff]
  simp
  constructor <;> (rintro ⟨h1, h2⟩; constructor <;> omega)
theorem eqv_optCell (o : Option Cell) (d : Cell) : PyData.eqv (toPy (optD cellD o)) (toPy (cellD d)) = decide (o = some d) := by
  cases o with
  | none => rfl
  | some c =>
    show PyData.eqv (toPy (cellD c)) (toPy (cellD d)) = _
    rw [eqv_cell]; simp
theorem ok_optCell (o : Option Cell) : okD (optD cellD o) = true := by cases o <;> rfl
theorem sh_optCell (o : Option Cell) : SeqAt.shaped (toPy (optD cellD o)) = true := by cases o <;> rfl
end Hw
set_option Elab.async false
set_option linter.all false
set_option maxRecDepth 100000
set_option maxHeartbeats 4000000
/-! The layer's rules with the fragment told. -/
namespace Hw
open PySem PySem.Spec L2
section
variable {X : Cx} {K : PySem.W.Frag} {P : Program} {w : World} {mg : Str → Option Value} {base : Heap} {k j : Nat} {C : Addr} {x m f : Str} {S : Spec} {p pos apos : Pos} {e o a : Expr} {es : List Expr} {ta : TE} {t : TA} {g : TGs} {n kk : Nat} {tg : Expr}
theorem k_ix (h : X.K = K := by rfl) : IxR X (rIx K) := by subst h; exact ix_seq
theorem k_eqD (hu : X.A.units + 64 < cLine) (h : X.K = K := by rfl) : OpR X (compareOp .Eq) (rEqD K) := by subst h; exact op_eqD hu
theorem k_sl (h : X.K = K := by rfl) : SlR X (rSlA K) := by subst h; exact sl_tupA
theorem k_catA (h : X.K = K := by rfl) : OpR X (binaryOp .Add) (rCatA K) := by subst h; exact op_catA
theorem k_repT (h : X.K = K := by rfl) : OpR X (binaryOp .Mult) (rRepT K) := by subst h; exact op_repT
theorem k_len (h : X.K = K := by rfl) : CallR X (.builtin "len") (rLen K) := by subst h; exact call_len1
theorem k_tuple (h : X.K = K := by rfl) : CallR X (.type "tuple") (rTupleOf K) := by subst h; exact call_tupleA
theorem k_list (h : X.K = K := by rfl) : CallR X (.type "list") (rListOf K) := by subst h; exact call_listA
theorem k_sum (hc : X.calm = true) (h : X.K = K := by rfl) : CallR X (.builtin "sum") (rSum K) := by subst h; exact cr_sum hc
theorem k_sorted (h : X.K = K := by rfl) : CallR X (.builtin "sorted") (rSortedPO K) := by subst h; exact cr_sortedPO
theorem k_index (h : X.K = K := by rfl) : MtR X "list.index" (rIndex K) := by subst h; exact mt_index
theorem k_fld (he : PE X e ta) (hb : attributeBase e f X.env (eval e X.env) = eval e X.env) (h : X.K = K := by rfl) : PE X (.Attribute e f pos) (tFld K ta f) := by subst h; exact pe_fld he hb
theorem k_list_ (hl : PE X e ta) (h : X.K = K := by rfl) : PI X tg e (iList K ta) := by subst h; exact pi_list hl
theorem k_tup_ (hl : PE X e ta) (h : X.K = K := by rfl) : PI X tg e (iTup K ta) := by subst h; exact pi_tup hl
theorem k_enum {ta : TA} {p pos tpos : Pos} {elts : List Expr} {kk : Nat} (hg : Gl X "enumerate") (hm : X.mg "enumerate" = none) (ha : PA X [e] ta) (h : X.K = K := by rfl) (hs : starEach [e] X.env = [(false, eval e X.env)] := by rfl) : PI X (.Tuple elts kk tpos) (.Call (.Name "enumerate" p) [e] [] pos) (iEnumT K ta) := by subst h; exact pi_enumT hg hm ha hs
theorem k_tru (ha : PE X a ta) (he : ∀ whole, isTrue a X.env whole = (do let v ← whole; standAt a.pos; holding [v] (truthy v)) := by intro _; rfl) (h : X.K = K := by rfl) : PT X a (tTru K ta) := by subst h; exact pt_tru ha he
theorem k_cal {P : Program} {w : World} {mg : Str → Option Value} {base : Heap} (c : Cal P w K mg base k x S) (hr : Room j X.A) (hk : k ≤ j) (hg : Gl X x) (ha : PA X (e :: es) t) (h1 : X.prog = P := by rfl) (h2 : X.w = w := by rfl) (h3 : X.K = K := by rfl) (h4 : X.mg = mg := by rfl) (h5 : X.base = base := by rfl)
    (hdb : (x == ("__debug__" : Str)) = false := by decide) (he : starEach (e :: es) X.env = (false, eval e X.env) :: starEach es X.env := by rfl) (hpl : (backTo pos (starEach es X.env)).any (·.1) = false := by rfl) :
    PE X (.Call (.Name x p) (e :: es) [] pos) (tCall (lift K S) [] E0 t) := by subst h1 h2 h3 h4 h5; exact pe_cal c hr hk hg ha hdb he hpl
theorem k_mak (c : Mak P w K mg base k x C S) (hr : Room j X.A) (hk : k + 1 ≤ j) (hg : Gl X x) (ha : PA X (e :: es) t) (h1 : X.prog = P := by rfl) (h2 : X.w = w := by rfl) (h3 : X.K = K := by rfl) (h4 : X.mg = mg := by rfl) (h5 : X.base = base := by rfl)
    (hdb : (x == ("__debug__" : Str)) = false := by decide) (he : starEach (e :: es) X.env = (false, eval e X.env) :: starEach es X.env := by rfl) (hpl : (backTo pos (starEach es X.env)).any (·.1) = false := by rfl) :
    PE X (.Call (.Name x p) (e :: es) [] pos) (tMake C (lift K S) [] E0 t) := by subst h1 h2 h3 h4 h5; exact pe_mak c hr hk hg ha hdb he hpl
theorem k_met {pl : Sem Bool} (c : Met P w K mg base k C m S) (hr : Room j X.A) (hk : k ≤ j) (he : PE X o ta) (ha : PA X (e :: es) t) (h1 : X.prog = P := by rfl) (h2 : X.w = w := by rfl) (h3 : X.K = K := by rfl) (h4 : X.mg = mg := by rfl) (h5 : X.base = base := by rfl)
    (hst : starEach (e :: es) X.env = (false, eval e X.env) :: starEach es X.env := by rfl) (hpl : (backTo pos (starEach es X.env)).any (·.1) = false := by rfl)
    (ht : eval (.Call (.Attribute o m apos) (e :: es) [] pos) X.env = (do let ov ← eval o X.env; standAt apos.atName; let (f, first) ← holding [ov] (getMethod ov m pl); callWith pos f first (backTo pos (starEach (e :: es) X.env)) (backToKw pos (keywordEach [] X.env))) := by rfl) :
    PE X (.Call (.Attribute o m apos) (e :: es) [] pos) (tMeth C m (lift K S) [] E0 ta t) := by subst h1 h2 h3 h4 h5; exact pe_met c hr hk he ha hst hpl ht
theorem k_met0 {pl : Sem Bool} (c : Met P w K mg base k C m S) (hr : Room j X.A) (hk : k ≤ j) (he : PE X o ta) (h1 : X.prog = P := by rfl) (h2 : X.w = w := by rfl) (h3 : X.K = K := by rfl) (h4 : X.mg = mg := by rfl) (h5 : X.base = base := by rfl)
    (ht : eval (.Call (.Attribute o m apos) [] [] pos) X.env = (do let ov ← eval o X.env; standAt apos.atName; let (f, first) ← holding [ov] (getMethod ov m pl); callWith pos f first (backTo pos (starEach [] X.env)) (backToKw pos (keywordEach [] X.env))) := by rfl) :
    PE X (.Call (.Attribute o m apos) [] [] pos) (tMeth C m (lift K S) [] E0 ta tNil) := by subst h1 h2 h3 h4 h5; exact pe_met0 c hr hk he ht
theorem k_gI {i : Int} (h : ∃ t, mg x = some (.int i t)) (hg : Gl X x) (h4 : X.mg = mg := by rfl) (hd : (x == ("__debug__" : Str)) = false := by decide) : PE X (.Name x pos) (tC (.int i)) := by subst h4; exact pe_gI h hg hd
theorem k_gS {i : Str} (h : ∃ t, mg x = some (.str i t)) (hg : Gl X x) (h4 : X.mg = mg := by rfl) (hd : (x == ("__debug__" : Str)) = false := by decide) : PE X (.Name x pos) (tC (.str i)) := by subst h4; exact pe_gS h hg hd
end
end Hw
set_option Elab.async false
set_option linter.all false
set_option maxRecDepth 100000
set_option maxHeartbeats 4000000
namespace Hw
open PySem PySem.Spec L2
section
variable {P : Program} {w : World} {K : PySem.W.Frag} {mg : Str → Option Value} {base : Heap}
theorem sc_site_number : FnScope ["basin", "name", "number", "site"] ["basin", "name"] (defScope s_site_number) := ⟨rfl, rfl, rfl, by decide +kernel, rfl, by decide +kernel, by decide +kernel⟩
-- site_number: 0 basin, 1 name, 2 number, 3 site
def S_site_number : Spec := fun ds μ Q => ∃ (B : Basin) (j : Nat), ds = [basinD B, .str (nm j)] ∧ j < B.sites.length ∧ Q (.int (j : Int)) μ
theorem len_site_number : S_site_number.len 2 := fun ds μ Q h => by obtain ⟨_, _, rfl, _⟩ := h; rfl
theorem mono_site_number : Mono S_site_number := fun ds μ P P' f h => by obtain ⟨B, j, e, h, p⟩ := h; exact ⟨B, j, e, h, f _ _ p⟩
theorem c_site_number (Fx : Fx K mg) : Cal P w K mg base 1 "site_number" S_site_number := by
  have hlen : Spec.len S_site_number 2 := len_site_number
  obtain ⟨fd, F⟩ := Fx.c.def_ 0 (d := d_site_number) rfl
  refine ⟨_, fd, ["basin", "name"], fnok F sc_site_number hlen (fun cdv A outer s H E hr => ?_), Fx.glo 0, F.kp, FunD.bindsN F fun _ _ _ _ _ _ us hl => match us, hl with | [_, _], _ => rfl⟩
  have hu := hu_of hr
  have nd := sc_site_number.nd
  refine ⟨_, (pss_cons (ps_for PassesOwn.never rfl (pi_enumT rfl (Fx.free 99) (pa_cons (pe_ix (k_ix (K := K)) (pv 0) pe_int (fun _ _ => rfl)) pa_nil)) (pg_tup rfl (pgs_cons (pg_name (i := 2) nd rfl (by first | exact Or.inl rfl | exact Or.inr rfl)) (pgs_cons (pg_name (i := 3) nd rfl (by first | exact Or.inl rfl | exact Or.inr rfl)) pgs_nil))) (pss_one (ps_if (pt_cmpR op_eq (pe_ix (k_ix (K := K)) (pv 3) (k_gI (Fx.int 41) rfl) (fun _ _ => rfl)) (pv 1) (nomark _)) (pss_one (ps_ret (pv 2))) pss_nil)))
      (pss_one (ps_ret pe_non))), fun ds μ Pq hS => ?_⟩
  obtain ⟨B, j, rfl, hj, q⟩ := hS
  refine pw_seq (pw_for (fun i ρ μ' => μ' = μ ∧ i ≤ j ∧ ∃ a b, ρ = [some (basinD B), some (.str (nm j)), a, b]) ?_)
  refine wi_enumT (ds := B.sites.mapIdx siteD) (ea_cons (ev_ix (V' 0) ev_int) ea_nil) ⟨⟨rfl, Nat.zero_le _, none, none, rfl⟩, fun _ _ _ _ => trivial, ?_, ?_⟩
  · rintro i d ρ μ' hd ⟨rfl, hi, a, b, rfl⟩
    obtain ⟨e, he, rfl⟩ := enumD_get hd
    have hlt : i < B.sites.length := by omega
    rw [siteAt hlt] at he
    cases he
    refine wg_tup rfl (wgs_cons (wg_name (wgs_cons (wg_name (wgs_nil ?_)))))
    refine s_when (et_test (ev_eqS (ev_ix (V' 3) ev_int) (V' 1))) (fun h => ?_) (fun h => ?_)
    · have h1 := nm_inj (of_decide_eq_true h)
      subst h1
      exact s_retΦ (V' 2) ⟨_, Mu.sub.refl _, q⟩
    · refine ⟨rfl, ?_, _, _, rfl⟩
      have h1 : ¬ i = j := fun z => by rw [z] at h; simp at h
      omega
  · rintro ρ μ' ⟨rfl, hi, _⟩
    simp [enumD] at hi
    omega
theorem sc_claims : FnScope ["basin", "rights", "months", "sites", "found", "number", "month"] ["basin", "rights"] (defScope s_claims) := ⟨rfl, rfl, rfl, by decide +kernel, rfl, by decide +kernel, by decide +kernel⟩
-- claims: 0 basin, 1 rights, 2 months, 3 sites, 4 found, 5 number, 6 month
def S_claims : Spec := fun ds μ Q => ∃ (B : Basin) (R : List Right), ds = [basinD B, rightsD R] ∧ B.Ok ∧ R.length ≤ 3 ∧ Q (.tup ((claimsOf B R).map claimD)) μ
theorem len_claims : S_claims.len 2 := fun ds μ Q h => by obtain ⟨_, _, rfl, _⟩ := h; rfl
theorem mono_claims : Mono S_claims := fun ds μ P P' f h => by obtain ⟨B, j, e, h, h2, p⟩ := h; exact ⟨B, j, e, h, h2, f _ _ p⟩
theorem c_claims (Fx : Fx K mg) : Cal P w K mg base 1 "claims" S_claims := by
  have hlen : Spec.len S_claims 2 := len_claims
  obtain ⟨fd, F⟩ := Fx.c.def_ 1 (d := d_claims) rfl
  refine ⟨_, fd, ["basin", "rights"], fnok F sc_claims hlen (fun cdv A outer s H E hr => ?_), Fx.glo 1, F.kp, FunD.bindsN F fun _ _ _ _ _ _ us hl => match us, hl with | [_, _], _ => rfl⟩
  have hu := hu_of hr
  have nd := sc_claims.nd
  refine ⟨_, (pss_cons (ps_asg (pv 0) (pg_tup rfl (pgs_cons (pg_name (i := 2) nd rfl (by first | exact Or.inl rfl | exact Or.inr rfl)) (pgs_cons (pg_name (i := 3) nd rfl (by first | exact Or.inl rfl | exact Or.inr rfl)) pgs_nil))))
      (pss_cons (ps_setLc2 (own := [("number", 5), ("month", 6)]) (vs1 := [6]) (g := (gName 5)) (tt := tYes) (g1 := (gName 6)) (tt1 := tYes) (i := 4) rfl nd rfl rfl (sw_true rfl rfl rfl (by decide +kernel)) (pi_range1 rfl (Fx.free 98) (pa_cons (pe_callB (k_len (K := K)) (by rfl) (Fx.free 97) PySem.boot_len (pa_cons (pv 1) pa_nil)) pa_nil)) (blkOk_by (by kernel_rfl)) (by decide) (fun _ _ _ _ _ => by exact (pg_name (i := 5) nd rfl (by first | exact Or.inl rfl | exact Or.inr rfl))) (fun _ _ _ _ _ => by exact pts_nil) (fun _ _ _ _ _ => by exact (pi_range1 rfl (Fx.free 98) (pa_cons (pv 2) pa_nil))) (fun _ _ _ _ _ => by exact (pg_name (i := 6) nd rfl (by first | exact Or.inl rfl | exact Or.inr rfl))) (fun _ _ _ _ _ => by exact pts_nil) (fun _ _ _ _ _ => by exact (pe_tup (pa_cons pe_str (pa_cons (pv 5) (pa_cons (pv 6) pa_nil))))))
      (pss_one (ps_ret (pe_callTy (k_tuple (K := K)) (by rfl) (Fx.free 101) (by decide +kernel) (pa_cons (pe_op op_cat (pv 4) (pe_lc (own := [("number", 5)]) (g := (gName 5)) (tt := tYes) rfl nd (pi_range1 rfl (Fx.free 98) (pa_cons (pe_callB (k_len (K := K)) (by rfl) (Fx.free 97) PySem.boot_len (pa_cons (pv 3) pa_nil)) pa_nil)) (blkOk_by (by kernel_rfl)) (fun _ _ _ _ _ => by exact (pg_name (i := 5) nd rfl (by first | exact Or.inl rfl | exact Or.inr rfl))) (fun _ _ _ _ _ => by exact pts_nil) (fun _ _ _ _ _ => by exact (pe_tup (pa_cons pe_str (pa_cons (pv 5) pa_nil)))))) pa_nil)))))), fun ds μ Pq hS => ?_⟩
  obtain ⟨B, R, rfl, ok, hR, q⟩ := hS
  have hm := ok.m4
  have hn := ok.n3
  refine q_two (V' 0) rfl ?_
  refine q_set (ev_lcRR (n := R.length) (m := B.months) (fun r m => claimD (.right r m)) (ea_cons (ev_len (V' 1) (.inl rfl)) ea_nil) ?_ (by omega) (by omega) (fun i _ => ea_cons (V' 2) ea_nil) (fun i k _ _ => ev_tup (ea_cons ev_str (ea_cons (V' 5) (ea_cons (V' 6) ea_nil))))) ?_
  · have : R.length * B.months ≤ 3 * 4 := Nat.mul_le_mul hR hm
    omega
  refine s_ret (ev_tupleOf (ev_cat (V' 4) (ev_lcR (n := B.sites.length) (fun s => claimD (.room s)) (ea_cons (ev_len (V' 3) (.inl rfl)) ea_nil) (by omega) (fun i _ => ev_tup (ea_cons ev_str (ea_cons (V' 5) ea_nil)))) (.inl rfl) (.inl rfl) ?_) (.inl rfl)) ?_
  · refine sz_of ?_
    have h1 : (((List.range R.length).map fun i => (List.range B.months).map fun k => claimD (.right i k)).flatten).length ≤ 12 := by
      rw [List.length_flatten, List.map_map]
      have h2 : ∀ n : Nat, ((List.range n).map (List.length ∘ fun i => (List.range B.months).map fun k => claimD (.right i k))).sum = n * B.months := fun n => by
        induction n with
        | zero => simp
        | succ n ih => rw [List.range_succ, List.map_append, List.sum_append, ih, Nat.succ_mul]; simp
      rw [h2]
      have : R.length * B.months ≤ 3 * 4 := Nat.mul_le_mul hR hm
      omega
    rw [List.length_map, List.length_range]
    omega
  · unfold claimsOf at q
    rw [List.map_append, List.map_flatten, List.map_map, List.map_map] at q
    have e : (List.range R.length).map (List.map claimD ∘ fun r => (List.range B.months).map fun m => Claim.right r m) = (List.range R.length).map fun i => (List.range B.months).map fun k => claimD (.right i k) := List.map_congr_left fun i _ => by
      simp [Function.comp_def]
    rw [e] at q
    exact q
theorem sc_claim_cell : FnScope ["basin", "rights", "claim"] ["basin", "rights", "claim"] (defScope s_claim_cell) := ⟨rfl, rfl, rfl, by decide +kernel, rfl, by decide +kernel, by decide +kernel⟩
-- claim_cell: 0 basin, 1 rights, 2 claim
def S_claim_cell : Spec := fun ds μ Q => ∃ (B : Basin) (R : List Right) (c : Claim), ds = [basinD B, rightsD R, claimD c] ∧ B.Ok ∧ RightsOk B R ∧ claimOk B R c ∧ Q (cellD (claimCell B R c)) μ
theorem len_claim_cell : S_claim_cell.len 3 := fun ds μ Q h => by obtain ⟨_, _, _, rfl, _⟩ := h; rfl
theorem mono_claim_cell : Mono S_claim_cell := fun ds μ P P' f h => by obtain ⟨B, R, c, e, h, h2, h3, p⟩ := h; exact ⟨B, R, c, e, h, h2, h3, f _ _ p⟩
theorem c_claim_cell (Fx : Fx K mg) : Cal P w K mg base 2 "claim_cell" S_claim_cell := by
  have hlen : Spec.len S_claim_cell 3 := len_claim_cell
  obtain ⟨fd, F⟩ := Fx.c.def_ 2 (d := d_claim_cell) rfl
  refine ⟨_, fd, ["basin", "rights", "claim"], fnok F sc_claim_cell hlen (fun cdv A outer s H E hr => ?_), Fx.glo 2, F.kp, FunD.bindsN F fun _ _ _ _ _ _ us hl => match us, hl with | [_, _, _], _ => rfl⟩
  have hu := hu_of hr
  have nd := sc_claim_cell.nd
  refine ⟨_, (pss_cons (ps_if (pt_cmpR op_eq (pe_ix (k_ix (K := K)) (pv 2) pe_int (fun _ _ => rfl)) pe_str (nomark _)) (pss_one (ps_ret (pe_tup (pa_cons (pe_ix (k_ix (K := K)) (pv 2) pe_int (fun _ _ => rfl)) (pa_cons (pe_op op_sub (pe_ix (k_ix (K := K)) (pv 0) pe_int (fun _ _ => rfl)) pe_int) pa_nil))))) pss_nil)
      (pss_one (ps_ret (pe_tup (pa_cons (k_cal (c_site_number Fx) hr (by decide) rfl (pa_cons (pv 0) (pa_cons (pe_ix (k_ix (K := K)) (pe_ix (k_ix (K := K)) (pv 1) (pe_ix (k_ix (K := K)) (pv 2) pe_int (fun _ _ => rfl)) (fun _ _ => rfl)) pe_int (fun _ _ => rfl)) pa_nil))) (pa_cons (pe_ix (k_ix (K := K)) (pv 2) pe_int (fun _ _ => rfl)) pa_nil)))))), fun ds μ Pq hS => ?_⟩
  obtain ⟨B, R, c, rfl, ok, rok, cok, q⟩ := hS
  have hm := ok.m1
  cases c with
  | room s =>
    refine q_when (et_test (ev_eqS (ev_ix (V' 2) ev_int) ev_str)) (fun _ => ?_) (fun h => ?_)
    · refine pw_ret (Ev.go (d := cellD (claimCell B R (.room s))) (ev_tup (ea_cons (ev_ix (V' 2) ev_int) (ea_cons ?_ ea_nil))) ⟨_, Mu.sub.refl _, q⟩)
      have e : ((B.months - 1 : Nat) : Int) = (B.months : Int) - 1 := by omega
      show Ev K _ _ _ (.int ((B.months - 1 : Nat) : Int))
      rw [e]
      exact ev_sub (ev_ix (V' 0) ev_int) ev_int
    · exact absurd h (by decide +kernel)
  | right r m =>
    obtain ⟨h1, h2⟩ := cok
    refine q_when (et_test (ev_eqS (ev_ix (V' 2) ev_int) ev_str)) (fun h => ?_) (fun _ => ?_)
    · exact absurd h (by decide +kernel)
    · refine s_ret (ev_tup (ea_cons (ev_call (ea_cons (V' 0) (ea_cons (ev_ix (ev_ixN (V' 1) (ev_ix (V' 2) ev_int) (rightAt h1)) ev_int) ea_nil)) ⟨B, (rAt R r).site, rfl, (rok.at h1).site, rfl, rfl⟩ mono_site_number) (ea_cons (ev_ix (V' 2) ev_int) ea_nil))) q
theorem sc_claim_size : FnScope ["basin", "rights", "claim"] ["basin", "rights", "claim"] (defScope s_claim_size) := ⟨rfl, rfl, rfl, by decide +kernel, rfl, by decide +kernel, by decide +kernel⟩
-- claim_size: 0 basin, 1 rights, 2 claim
def S_claim_size : Spec := fun ds μ Q => ∃ (B : Basin) (R : List Right) (c : Claim), ds = [basinD B, rightsD R, claimD c] ∧ B.Ok ∧ RightsOk B R ∧ claimOk B R c ∧ Q (.int (claimSize B R c)) μ
theorem len_claim_size : S_claim_size.len 3 := fun ds μ Q h => by obtain ⟨_, _, _, rfl, _⟩ := h; rfl
theorem mono_claim_size : Mono S_claim_size := fun ds μ P P' f h => by obtain ⟨B, R, c, e, h, h2, h3, p⟩ := h; exact ⟨B, R, c, e, h, h2, h3, f _ _ p⟩
theorem demAt {B : Basin} {r : Right} (o : r.Ok B) {m : Nat} (h : m < B.months) : (r.demands.map D.int)[m]? = some (.int ((r.demands[m]?).getD 0)) := by
  rw [List.getElem?_map, List.getElem?_eq_getElem (by rw [o.len]; exact h)]; rfl
theorem c_claim_size (Fx : Fx K mg) : Cal P w K mg base 1 "claim_size" S_claim_size := by
  have hlen : Spec.len S_claim_size 3 := len_claim_size
  obtain ⟨fd, F⟩ := Fx.c.def_ 3 (d := d_claim_size) rfl
  refine ⟨_, fd, ["basin", "rights", "claim"], fnok F sc_claim_size hlen (fun cdv A outer s H E hr => ?_), Fx.glo 3, F.kp, FunD.bindsN F fun _ _ _ _ _ _ us hl => match us, hl with | [_, _, _], _ => rfl⟩
  have hu := hu_of hr
  have nd := sc_claim_size.nd
  refine ⟨_, (pss_cons (ps_if (pt_cmpR op_eq (pe_ix (k_ix (K := K)) (pv 2) pe_int (fun _ _ => rfl)) pe_str (nomark _)) (pss_one (ps_ret (pe_ix (k_ix (K := K)) (pe_ix (k_ix (K := K)) (pe_ix (k_ix (K := K)) (pv 0) pe_int (fun _ _ => rfl)) (pe_ix (k_ix (K := K)) (pv 2) pe_int (fun _ _ => rfl)) (fun _ _ => rfl)) (k_gI (Fx.int 45) rfl) (fun _ _ => rfl)))) pss_nil)
      (pss_one (ps_ret (pe_ix (k_ix (K := K)) (pe_ix (k_ix (K := K)) (pe_ix (k_ix (K := K)) (pv 1) (pe_ix (k_ix (K := K)) (pv 2) pe_int (fun _ _ => rfl)) (fun _ _ => rfl)) pe_int (fun _ _ => rfl)) (pe_ix (k_ix (K := K)) (pv 2) pe_int (fun _ _ => rfl)) (fun _ _ => rfl))))), fun ds μ Pq hS => ?_⟩
  obtain ⟨B, R, c, rfl, ok, rok, cok, q⟩ := hS
  cases c with
  | room s =>
    refine q_when (et_test (ev_eqS (ev_ix (V' 2) ev_int) ev_str)) (fun _ => ?_) (fun h => ?_)
    · exact pw_ret (Ev.go (d := .int (claimSize B R (.room s))) (ev_ix (ev_ixN (ev_ix (V' 0) ev_int) (ev_ix (V' 2) ev_int) (siteAt cok)) ev_int) ⟨_, Mu.sub.refl _, q⟩)
    · exact absurd h (by decide +kernel)
  | right r m =>
    obtain ⟨h1, h2⟩ := cok
    refine q_when (et_test (ev_eqS (ev_ix (V' 2) ev_int) ev_str)) (fun h => ?_) (fun _ => ?_)
    · exact absurd h (by decide +kernel)
    · exact s_ret (ev_ixN (ev_ix (ev_ixN (V' 1) (ev_ix (V' 2) ev_int) (rightAt h1)) ev_int) (ev_ix (V' 2) ev_int) (demAt (rok.at h1) h2)) q
theorem sc_cells : FnScope ["basin", "months", "sites", "month", "number"] ["basin"] (defScope s_cells) := ⟨rfl, rfl, rfl, by decide +kernel, rfl, by decide +kernel, by decide +kernel⟩
-- cells: 0 basin, 1 months, 2 sites, 3 month, 4 number
def S_cells : Spec := fun ds μ Q => ∃ (B : Basin), ds = [basinD B] ∧ B.Ok ∧ Q (cellsD B.cells) μ
theorem len_cells : S_cells.len 1 := fun ds μ Q h => by obtain ⟨_, rfl, _⟩ := h; rfl
theorem mono_cells : Mono S_cells := fun ds μ P P' f h => by obtain ⟨B, e, h, p⟩ := h; exact ⟨B, e, h, f _ _ p⟩
theorem cellsD_eq (B : Basin) : B.cells.map cellD = ((List.range B.months).map fun m => (List.range B.sites.length).map fun k => cellD (k, m)).flatten := by
  unfold Basin.cells
  rw [List.map_flatten, List.map_map]
  congr 1
  exact List.map_congr_left fun i _ => by simp [Function.comp_def]
theorem c_cells (Fx : Fx K mg) : Cal P w K mg base 1 "cells" S_cells := by
  have hlen : Spec.len S_cells 1 := len_cells
  obtain ⟨fd, F⟩ := Fx.c.def_ 4 (d := d_cells) rfl
  refine ⟨_, fd, ["basin"], fnok F sc_cells hlen (fun cdv A outer s H E hr => ?_), Fx.glo 4, F.kp, FunD.bindsN F fun _ _ _ _ _ _ us hl => match us, hl with | [_], _ => rfl⟩
  have hu := hu_of hr
  have nd := sc_cells.nd
  refine ⟨_, (pss_cons (ps_asg (pv 0) (pg_tup rfl (pgs_cons (pg_name (i := 1) nd rfl (by first | exact Or.inl rfl | exact Or.inr rfl)) (pgs_cons (pg_name (i := 2) nd rfl (by first | exact Or.inl rfl | exact Or.inr rfl)) pgs_nil))))
      (pss_one (ps_ret (pe_lc2 (own := [("month", 3), ("number", 4)]) (vs1 := [4]) (g := (gName 3)) (tt := tYes) (g1 := (gName 4)) (tt1 := tYes) rfl nd (pi_range1 rfl (Fx.free 98) (pa_cons (pv 1) pa_nil)) (blkOk_by (by kernel_rfl)) (by decide) (fun _ _ _ _ _ => by exact (pg_name (i := 3) nd rfl (by first | exact Or.inl rfl | exact Or.inr rfl))) (fun _ _ _ _ _ => by exact pts_nil) (fun _ _ _ _ _ => by exact (pi_range1 rfl (Fx.free 98) (pa_cons (pe_callB (k_len (K := K)) (by rfl) (Fx.free 97) PySem.boot_len (pa_cons (pv 2) pa_nil)) pa_nil))) (fun _ _ _ _ _ => by exact (pg_name (i := 4) nd rfl (by first | exact Or.inl rfl | exact Or.inr rfl))) (fun _ _ _ _ _ => by exact pts_nil) (fun _ _ _ _ _ => by exact (pe_tup (pa_cons (pv 4) (pa_cons (pv 3) pa_nil)))))))), fun ds μ Pq hS => ?_⟩
  obtain ⟨B, rfl, ok, q⟩ := hS
  have hm := ok.m4
  have hn := ok.n3
  refine q_two (V' 0) rfl ?_
  refine s_ret (ev_lcRR (n := B.months) (m := B.sites.length) (fun m k => cellD (k, m)) (ea_cons (V' 1) ea_nil) ?_ (by omega) (by omega) (fun i _ => ea_cons (ev_len (V' 2) (.inl rfl)) ea_nil) (fun i k _ _ => ev_tup (ea_cons (V' 4) (ea_cons (V' 3) ea_nil)))) ?_
  · have := ok.six
    omega
  · unfold cellsD at q
    rw [cellsD_eq] at q
    exact q
theorem sc_cell_supply : FnScope ["basin", "cell", "number", "month", "site"] ["basin", "cell"] (defScope s_cell_supply) := ⟨rfl, rfl, rfl, by decide +kernel, rfl, by decide +kernel, by decide +kernel⟩
-- cell_supply: 0 basin, 1 cell, 2 number, 3 month, 4 site
def S_cell_supply : Spec := fun ds μ Q => ∃ (B : Basin) (c : Cell), ds = [basinD B, cellD c] ∧ B.Ok ∧ B.In c ∧ Q (.int (B.supply c)) μ
theorem len_cell_supply : S_cell_supply.len 2 := fun ds μ Q h => by obtain ⟨_, _, rfl, _⟩ := h; rfl
theorem mono_cell_supply : Mono S_cell_supply := fun ds μ P P' f h => by obtain ⟨B, c, e, h, h2, p⟩ := h; exact ⟨B, c, e, h, h2, f _ _ p⟩
theorem c_cell_supply (Fx : Fx K mg) : Cal P w K mg base 1 "cell_supply" S_cell_supply := by
  have hlen : Spec.len S_cell_supply 2 := len_cell_supply
  obtain ⟨fd, F⟩ := Fx.c.def_ 5 (d := d_cell_supply) rfl
  refine ⟨_, fd, ["basin", "cell"], fnok F sc_cell_supply hlen (fun cdv A outer s H E hr => ?_), Fx.glo 5, F.kp, FunD.bindsN F fun _ _ _ _ _ _ us hl => match us, hl with | [_, _], _ => rfl⟩
  have hu := hu_of hr
  have nd := sc_cell_supply.nd
  refine ⟨_, (pss_cons (ps_asg (pv 1) (pg_tup rfl (pgs_cons (pg_name (i := 2) nd rfl (by first | exact Or.inl rfl | exact Or.inr rfl)) (pgs_cons (pg_name (i := 3) nd rfl (by first | exact Or.inl rfl | exact Or.inr rfl)) pgs_nil))))
      (pss_cons (ps_set (i := 4) nd rfl (by first | exact Or.inl rfl | exact Or.inr rfl) (pe_ix (k_ix (K := K)) (pe_ix (k_ix (K := K)) (pv 0) pe_int (fun _ _ => rfl)) (pv 2) (fun _ _ => rfl)))
      (pss_one (ps_ret (pe_op op_add (pe_ix (k_ix (K := K)) (pe_ix (k_ix (K := K)) (pv 4) (k_gI (Fx.int 47) rfl) (fun _ _ => rfl)) (pv 3) (fun _ _ => rfl)) (pe_ifExp (pt_cmpR op_eq (pv 3) pe_int (nomark _)) (pe_ix (k_ix (K := K)) (pv 4) (k_gI (Fx.int 46) rfl) (fun _ _ => rfl)) pe_int)))))), fun ds μ Pq hS => ?_⟩
  obtain ⟨B, c, rfl, ok, hc, q⟩ := hS
  refine q_two (V' 1) rfl ?_
  refine q_set (ev_ixN (ev_ix (V' 0) ev_int) (V' 2) (siteAt hc.1)) ?_
  refine s_ret (ev_add (ev_ixN (ev_ix (V' 4) ev_int) (V' 3) (infAt ok hc)) (ev_ite (b := decide (c.2 = 0)) (d := .int (if c.2 = 0 then (B.at c.1).held else 0)) ?_ (fun h => ?_) (fun h => ?_))) q
  · have e : decide (c.2 = 0) = decide ((c.2 : Int) = 0) := by rw [Bool.eq_iff_iff]; simp
    rw [e]
    exact et_test (ev_eqI (V' 3) ev_int)
  · rw [if_pos (of_decide_eq_true h)]
    exact ev_ix (V' 4) ev_int
  · rw [if_neg (of_decide_eq_false h)]
    exact ev_int
theorem sc_let_to : FnScope ["basin", "cell", "number", "month", "site"] ["basin", "cell"] (defScope s_let_to) := ⟨rfl, rfl, rfl, by decide +kernel, rfl, by decide +kernel, by decide +kernel⟩
-- let_to: 0 basin, 1 cell, 2 number, 3 month, 4 site
def S_let_to : Spec := fun ds μ Q => ∃ (B : Basin) (c : Cell), ds = [basinD B, cellD c] ∧ B.Ok ∧ B.In c ∧ Q (optD cellD (B.letTo c)) μ
theorem len_let_to : S_let_to.len 2 := fun ds μ Q h => by obtain ⟨_, _, rfl, _⟩ := h; rfl
theorem mono_let_to : Mono S_let_to := fun ds μ P P' f h => by obtain ⟨B, c, e, h, h2, p⟩ := h; exact ⟨B, c, e, h, h2, f _ _ p⟩
theorem c_let_to (Fx : Fx K mg) : Cal P w K mg base 2 "let_to" S_let_to := by
  have hlen : Spec.len S_let_to 2 := len_let_to
  obtain ⟨fd, F⟩ := Fx.c.def_ 6 (d := d_let_to) rfl
  refine ⟨_, fd, ["basin", "cell"], fnok F sc_let_to hlen (fun cdv A outer s H E hr => ?_), Fx.glo 6, F.kp, FunD.bindsN F fun _ _ _ _ _ _ us hl => match us, hl with | [_, _], _ => rfl⟩
  have hu := hu_of hr
  have nd := sc_let_to.nd
  refine ⟨_, (pss_cons (ps_asg (pv 1) (pg_tup rfl (pgs_cons (pg_name (i := 2) nd rfl (by first | exact Or.inl rfl | exact Or.inr rfl)) (pgs_cons (pg_name (i := 3) nd rfl (by first | exact Or.inl rfl | exact Or.inr rfl)) pgs_nil))))
      (pss_cons (ps_set (i := 4) nd rfl (by first | exact Or.inl rfl | exact Or.inr rfl) (pe_ix (k_ix (K := K)) (pe_ix (k_ix (K := K)) (pv 0) pe_int (fun _ _ => rfl)) (pv 2) (fun _ _ => rfl)))
      (pss_cons (ps_if (PW.pt (pw_or (pt_cmp (pc_isN (pe_ix (k_ix (K := K)) (pv 4) (k_gI (Fx.int 42) rfl) (fun _ _ => rfl)))) (pw_or1 (pt_cmpR op_ge (pe_op op_add (pv 3) (pe_ix (k_ix (K := K)) (pv 4) (k_gI (Fx.int 43) rfl) (fun _ _ => rfl))) (pe_ix (k_ix (K := K)) (pv 0) pe_int (fun _ _ => rfl)) (nomark _))))) (pss_one (ps_ret pe_non)) pss_nil)
      (pss_one (ps_ret (pe_tup (pa_cons (k_cal (c_site_number Fx) hr (by decide) rfl (pa_cons (pv 0) (pa_cons (pe_ix (k_ix (K := K)) (pv 4) (k_gI (Fx.int 42) rfl) (fun _ _ => rfl)) pa_nil))) (pa_cons (pe_op op_add (pv 3) (pe_ix (k_ix (K := K)) (pv 4) (k_gI (Fx.int 43) rfl) (fun _ _ => rfl))) pa_nil)))))))), fun ds μ Pq hS => ?_⟩
  obtain ⟨B, c, rfl, ok, hc, q⟩ := hS
  have so := ok.s hc.1
  refine q_two (V' 1) rfl ?_
  refine q_set (ev_ixN (ev_ix (V' 0) ev_int) (V' 2) (siteAt hc.1)) ?_
  unfold Basin.letTo at q
  cases hx : (B.at c.1).next with
  | none =>
    rw [hx] at q
    have e1 : siteD c.1 (B.at c.1) = .tup [.str (nm c.1), .non, .int ((B.at c.1).travel : Int), optD .int (B.at c.1).reach, .int (B.at c.1).room, .int (B.at c.1).held, intsD (B.at c.1).inflows] := by unfold siteD; rw [hx]; rfl
    refine q_when (b := true) (et_or (a := true) (b := true) (et_B ?_) (fun h => by cases h)) (fun _ => ?_) (fun h => by cases h)
    · exact ev_isN (x := .non) (ev_ix (ds := [.str (nm c.1), .non, .int ((B.at c.1).travel : Int), optD .int (B.at c.1).reach, .int (B.at c.1).room, .int (B.at c.1).held, intsD (B.at c.1).inflows]) (V' 4 (by rw [e1]; rfl)) ev_int)
    · exact s_retT ev_non q
  | some j =>
    rw [hx] at q
    have e1 : siteD c.1 (B.at c.1) = .tup [.str (nm c.1), .str (nm j), .int ((B.at c.1).travel : Int), optD .int (B.at c.1).reach, .int (B.at c.1).room, .int (B.at c.1).held, intsD (B.at c.1).inflows] := by unfold siteD; rw [hx]; rfl
    rw [e1]
    have eb : decide ((B.months : Int) ≤ (c.2 : Int) + ((B.at c.1).travel : Int)) = decide (B.months ≤ c.2 + (B.at c.1).travel) := by
      rw [decide_eq_decide]; omega
    refine q_when (b := decide (B.months ≤ c.2 + (B.at c.1).travel)) ?_ (fun h => ?_) (fun h => ?_)
    · rw [← eb, ← Bool.false_or (decide ((B.months : Int) ≤ _))]
      exact et_or (a := false) (et_B (ev_isN (x := .str (nm j)) (ev_ix (V' 4) ev_int))) (fun _ => et_test (ev_ge (ev_add (V' 3) (ev_ix (V' 4) ev_int)) (ev_ix (V' 0) ev_int)))
    · have h := of_decide_eq_true h
      simp only [if_pos h] at q
      exact s_retT ev_non q
    · have h := of_decide_eq_false h
      simp only [if_neg h] at q
      have q : Pq (.tup [.int (j : Int), .int ((c.2 : Int) + ((B.at c.1).travel : Int))]) μ := q
      exact s_ret (ev_tup (ea_cons (ev_call (ea_cons (V' 0) (ea_cons (ev_ix (V' 4) ev_int) ea_nil)) ⟨B, j, rfl, (so.next j hx).2, rfl, rfl⟩ mono_site_number) (ea_cons (ev_add (V' 3) (ev_ix (V' 4) ev_int)) ea_nil))) q
theorem sc_let_from : FnScope ["basin", "cell", "other"] ["basin", "cell"] (defScope s_let_from) := ⟨rfl, rfl, rfl, by decide +kernel, rfl, by decide +kernel, by decide +kernel⟩
-- let_from: 0 basin, 1 cell, 2 other
def S_let_from : Spec := fun ds μ Q => ∃ (B : Basin) (c : Cell), ds = [basinD B, cellD c] ∧ B.Ok ∧ Q (cellsD (B.letFrom c)) μ
theorem len_let_from : S_let_from.len 2 := fun ds μ Q h => by obtain ⟨_, _, rfl, _⟩ := h; rfl
theorem mono_let_from : Mono S_let_from := fun ds μ P P' f h => by obtain ⟨B, c, e, h, p⟩ := h; exact ⟨B, c, e, h, f _ _ p⟩
theorem cells_len (B : Basin) : B.cells.length = B.months * B.sites.length := by
  unfold Basin.cells
  rw [List.length_flatten, List.map_map]
  have h2 : ∀ n : Nat, ((List.range n).map (List.length ∘ fun m => (List.range B.sites.length).map fun k => (k, m))).sum = n * B.sites.length := fun n => by
    induction n with
    | zero => simp
    | succ n ih => rw [List.range_succ, List.map_append, List.sum_append, ih, Nat.succ_mul]; simp
  exact h2 _
theorem filter_range (l : List Cell) (p : Cell → Bool) (f : Cell → D) : ((List.range l.length).filter fun i => p (l[i]?.getD (0, 0))).map (fun i => f (l[i]?.getD (0, 0))) = (l.filter p).map f := by
  have e : l = (List.range l.length).map fun i => l[i]?.getD (0, 0) := by
    refine List.ext_getElem? fun i => ?_
    rw [List.getElem?_map]
    by_cases h : i < l.length
    · rw [List.getElem?_range h, List.getElem?_eq_getElem h]; simp [h]
    · rw [List.getElem?_eq_none (by omega), List.getElem?_eq_none (by simp; omega)]; rfl
  conv => rhs; rw [e]
  rw [List.filter_map, List.map_map]
  rfl
theorem c_let_from (Fx : Fx K mg) : Cal P w K mg base 3 "let_from" S_let_from := by
  have hlen : Spec.len S_let_from 2 := len_let_from
  obtain ⟨fd, F⟩ := Fx.c.def_ 7 (d := d_let_from) rfl
  refine ⟨_, fd, ["basin", "cell"], fnok F sc_let_from hlen (fun cdv A outer s H E hr => ?_), Fx.glo 7, F.kp, FunD.bindsN F fun _ _ _ _ _ _ us hl => match us, hl with | [_, _], _ => rfl⟩
  have hu := hu_of hr
  have nd := sc_let_from.nd
  refine ⟨_, (pss_one (ps_ret (pe_lc (own := [("other", 2)]) (g := (gName 2)) (tt := _) rfl nd (k_list_ (K := K) (k_cal (c_cells Fx) hr (by decide) rfl (pa_cons (pv 0) pa_nil))) (blkOk_by (by kernel_rfl)) (fun _ _ _ _ _ => by exact (pg_name (i := 2) nd rfl (by first | exact Or.inl rfl | exact Or.inr rfl))) (fun _ _ _ _ _ => by exact (pts_one (pt_cmpR (k_eqD (K := K) hr.units) (k_cal (c_let_to Fx) hr (by decide) rfl (pa_cons (pv 0) (pa_cons (pv 2) pa_nil))) (pv 1) (nomark _)))) (fun _ _ _ _ _ => by exact (pv 2))))), fun ds μ Pq hS => ?_⟩
  obtain ⟨B, c, rfl, ok, q⟩ := hS
  have h6 := ok.six
  refine s_ret (ev_lcIf (es := B.cells.map cellD) (fun i => decide (B.letTo (B.cells[i]?.getD (0, 0)) = some c)) (fun i => cellD (B.cells[i]?.getD (0, 0))) gok_name (sz_of (by rw [List.length_map, cells_len]; omega)) (wi_lstP (ev_call (ea_cons (V' 0) ea_nil) ⟨B, rfl, ok, rfl, rfl⟩ mono_cells)) (fun i d hd => ?_)) ?_
  · rw [List.getElem?_map] at hd
    cases hc : B.cells[i]? with
    | none => rw [hc] at hd; cases hd
    | some o =>
      rw [hc] at hd; cases hd
      have ho : B.In o := mem_cells.mp (List.mem_of_getElem? hc)
      refine wg_name ⟨rfl, ?_, fun _ => V' 2⟩
      refine et_test (ev_eqD (ev_call (ea_cons (V' 0) (ea_cons (V' 2) ea_nil)) ⟨B, o, rfl, ok, ho, rfl, rfl⟩ mono_let_to) (V' 1) (eqv_optCell _ _) (ok_optCell _) rfl (sh_optCell _) rfl)
  · rw [List.length_map]
    rw [filter_range B.cells (fun o => decide (B.letTo o = some c)) cellD]
    exact q
end
end Hw
set_option Elab.async false
set_option linter.all false
set_option maxRecDepth 100000
set_option maxHeartbeats 4000000
/-! Plans: the plain functions and the walks. -/
namespace Hw
open PySem PySem.Spec L2
def recv (B : Basin) (p : Plan) (c : Cell) : Int := (B.supply c + if 0 < c.2 then get2 p.sto c.1 (c.2 - 1) else 0) + ((B.letFrom c).map fun o => get2 p.rel o.1 o.2).sum
def taken (R : List Right) (p : Plan) (c : Cell) (i : Nat) : Int := ((List.range i).map fun r => if (rAt R r).site = c.1 then get2 p.del r c.2 else 0).sum
def spillOf (B : Basin) (R : List Right) (p : Plan) (c : Cell) : Int := recv B p c - get2 p.rel c.1 c.2 - get2 p.sto c.1 c.2 - taken R p c R.length
def badRel (B : Basin) (p : Plan) (c : Cell) : Bool := ((B.at c.1).next.isNone && decide (0 < get2 p.rel c.1 c.2)) || match (B.at c.1).reach with
  | none => false
  | some r => decide (r < get2 p.rel c.1 c.2)
abbrev Fault := Str × Nat × Nat
def faultD (x : Fault) : D := .tup [.str x.1, .int (x.2.1 : Int), .int (x.2.2 : Int)]
def cellFault (B : Basin) (R : List Right) (p : Plan) (c : Cell) : Option Fault :=
  if badRel B p c = true then some ("release", c.1, c.2) else if (B.at c.1).room < get2 p.sto c.1 c.2 then some ("storage", c.1, c.2) else if spillOf B R p c < 0 then some ("balance", c.1, c.2) else none
def rightFault (R : List Right) (p : Plan) (m r : Nat) : Option Fault := if ((rAt R r).demands[m]?).getD 0 < get2 p.del r m then some ("too much", r, m) else none
def monthFault (B : Basin) (R : List Right) (p : Plan) (m : Nat) : Option Fault := match (List.range R.length).findSome? (rightFault R p m) with
  | some x => some x
  | none => (List.range B.sites.length).findSome? fun k => cellFault B R p (k, m)
def planFault (B : Basin) (R : List Right) (p : Plan) : Option Fault := (List.range B.months).findSome? (monthFault B R p)
theorem fs_some {α : Type} {f : Nat → Option α} {n i : Nat} {x : α} (hi : i < n) (h : ∀ j, j < i → f j = none) (e : f i = some x) : (List.range n).findSome? f = some x := by
  induction n with
  | zero => omega
  | succ n ih =>
    rw [List.range_succ, List.findSome?_append]
    by_cases c : i < n
    · rw [ih c]; rfl
    · have : i = n := by omega
      subst this
      have h0 : (List.range i).findSome? f = none := List.findSome?_eq_none_iff.mpr fun j hj => h j (List.mem_range.mp hj)
      rw [h0]
      simp [e]
theorem fs_none {α : Type} {f : Nat → Option α} {n : Nat} (h : ∀ j, j < n → f j = none) : (List.range n).findSome? f = none := List.findSome?_eq_none_iff.mpr fun j hj => h j (List.mem_range.mp hj)
theorem letFrom_In {B : Basin} {c o : Cell} (h : o ∈ B.letFrom c) : B.In o := mem_cells.mp (List.mem_filter.mp h).1
theorem letFrom_len (B : Basin) (ok : B.Ok) (c : Cell) : (B.letFrom c).length ≤ 6 := by
  have h1 := List.length_filter_le (fun o => decide (B.letTo o = some c)) B.cells
  rw [cells_len] at h1
  have := ok.six
  unfold Basin.letFrom
  omega
section
variable {K : PySem.W.Frag} {ρ : List (Option D)} {μ : Mu} {ta tb te : TE} {x y d : D} {t : TA}
theorem ev_sumI {is : List Int} (ha : Ev K ta ρ μ x) (h : LstIn μ x (is.map .int)) : Ev K (tCB (rSum K) (tCons ta tNil)) ρ μ (.int is.sum) := ev_cb (ea_cons ha ea_nil) (rb_sum h ⟨rfl, rfl⟩)
theorem ev_min2 {i j : Int} (ha : Ev K ta ρ μ (.int i)) (hb : Ev K tb ρ μ (.int j)) : Ev K (tCB rMin2 (tCons ta (tCons tb tNil))) ρ μ (.int (min i j)) := ev_cb (ea_cons ha (ea_cons hb ea_nil)) (rb_min2 ⟨rfl, rfl⟩)
theorem isN_opt {α : Type} {f : α → D} (hf : ∀ x, (f x).isN = false) (o : Option α) : (optD f o).isN = o.isNone := by cases o <;> first | rfl | exact hf _
/-- t[i][j] of a table -/
theorem ev_get2 {ti tj : TE} {tab : List (List Int)} {a b i j : Nat} (ha : Ev K ta ρ μ (tabD tab)) (hi : Ev K ti ρ μ (.int (i : Int))) (hj : Ev K tj ρ μ (.int (j : Int))) (T : Tab a b tab) (h1 : i < a) (h2 : j < b) : Ev K (tOp (rIx K) (tOp (rIx K) ta ti) tj) ρ μ (.int (get2 tab i j)) :=
  ev_ixN (ev_ixN ha hi (get2_row (j := 0) T h1)) hj (get2_at T h1 h2)
end
section
variable {P : Program} {w : World} {K : PySem.W.Frag} {mg : Str → Option Value} {base : Heap}
theorem sc_received : FnScope ["basin", "plan", "cell", "number", "month", "_", "releases", "storages", "found", "other", "when"] ["basin", "plan", "cell"] (defScope s_received) := ⟨rfl, rfl, rfl, by decide +kernel, rfl, by decide +kernel, by decide +kernel⟩
-- received: 0 basin, 1 plan, 2 cell, 3 number, 4 month, 5 _, 6 releases, 7 storages, 8 found, 9 other, 10 when
def S_received : Spec := fun ds μ Q => ∃ (B : Basin) (R : List Right) (p : Plan) (c : Cell), ds = [basinD B, planD p, cellD c] ∧ B.Ok ∧ p.Shape B R ∧ B.In c ∧ Q (.int (recv B p c)) μ
theorem len_received : S_received.len 3 := fun ds μ Q h => by obtain ⟨_, _, _, _, rfl, _⟩ := h; rfl
theorem mono_received : Mono S_received := fun ds μ P P' f h => by obtain ⟨B, R, p, c, e, h1, h2, h3, q⟩ := h; exact ⟨B, R, p, c, e, h1, h2, h3, f _ _ q⟩
theorem c_received (Fx : Fx K mg) : Cal P w K mg base 4 "received" S_received := by
  have hlen : Spec.len S_received 3 := len_received
  obtain ⟨fd, F⟩ := Fx.c.def_ 8 (d := d_received) rfl
  refine ⟨_, fd, ["basin", "plan", "cell"], fnok F sc_received hlen (fun cdv A outer s H E hr => ?_), Fx.glo 8, F.kp, FunD.bindsN F fun _ _ _ _ _ _ us hl => match us, hl with | [_, _, _], _ => rfl⟩
  have hu := hu_of hr
  have nd := sc_received.nd
  refine ⟨_, (pss_cons (ps_asg (pv 2) (pg_tup rfl (pgs_cons (pg_name (i := 3) nd rfl (by first | exact Or.inl rfl | exact Or.inr rfl)) (pgs_cons (pg_name (i := 4) nd rfl (by first | exact Or.inl rfl | exact Or.inr rfl)) pgs_nil))))
      (pss_cons (ps_asg (pv 1) (pg_tup rfl (pgs_cons (pg_name (i := 5) nd rfl (by first | exact Or.inl rfl | exact Or.inr rfl)) (pgs_cons (pg_name (i := 6) nd rfl (by first | exact Or.inl rfl | exact Or.inr rfl)) (pgs_cons (pg_name (i := 7) nd rfl (by first | exact Or.inl rfl | exact Or.inr rfl)) pgs_nil)))))
      (pss_cons (ps_set (i := 8) nd rfl (by first | exact Or.inl rfl | exact Or.inr rfl) (k_cal (c_cell_supply Fx) hr (by decide) rfl (pa_cons (pv 0) (pa_cons (pv 2) pa_nil))))
      (pss_cons (ps_if (pt_cmpR op_gt (pv 4) pe_int (nomark _)) (pss_one (ps_aug (i := 8) nd rfl (by first | exact Or.inl rfl | exact Or.inr rfl) (pe_ix (k_ix (K := K)) (pe_ix (k_ix (K := K)) (pv 7) (pv 3) (fun _ _ => rfl)) (pe_op op_sub (pv 4) pe_int) (fun _ _ => rfl)) ip_add)) pss_nil)
      (pss_one (ps_ret (pe_op op_add (pv 8) (pe_callB (k_sum (K := K) rfl) (by rfl) (Fx.free 100) (by decide +kernel) (pa_cons (pe_lc (own := [("other", 9), ("when", 10)]) (g := (gTup K 2 (gCons (gName 9) (gCons (gName 10) gNil)))) (tt := tYes) rfl nd (k_list_ (K := K) (k_cal (c_let_from Fx) hr (by decide) rfl (pa_cons (pv 0) (pa_cons (pv 2) pa_nil)))) (blkOk_by (by kernel_rfl)) (fun _ _ _ _ _ => by exact (pg_tup rfl (pgs_cons (pg_name (i := 9) nd rfl (by first | exact Or.inl rfl | exact Or.inr rfl)) (pgs_cons (pg_name (i := 10) nd rfl (by first | exact Or.inl rfl | exact Or.inr rfl)) pgs_nil)))) (fun _ _ _ _ _ => by exact pts_nil) (fun _ _ _ _ _ => by exact (pe_ix (k_ix (K := K)) (pe_ix (k_ix (K := K)) (pv 6) (pv 9) (fun _ _ => rfl)) (pv 10) (fun _ _ => rfl)))) pa_nil))))))))), fun ds μ Pq hS => ?_⟩
  obtain ⟨B, R, p, c, rfl, ok, sh, hc, q⟩ := hS
  refine q_two (V' 2) rfl (q_three (V' 1) rfl ?_)
  refine q_set (ev_call (ea_cons (V' 0) (ea_cons (V' 2) ea_nil)) ⟨B, c, rfl, ok, hc, rfl, rfl⟩ mono_cell_supply) ?_
  refine pw_seq (PW.imp (Φ := fun o => ∃ x, x = B.supply c + (if 0 < c.2 then get2 p.sto c.1 (c.2 - 1) else 0) ∧ o = .nx [some (basinD B), some (planD p), some (cellD c), some (.int (c.1 : Int)), some (.int (c.2 : Int)), some (tabD p.del), some (tabD p.rel), some (tabD p.sto), some (.int x), none, none] μ) ?_ ?_)
  · refine pw_ifE (b := decide (0 < c.2)) ?_ (fun h => ?_) (fun h => pw_next ?_)
    · have e : decide (0 < c.2) = decide ((0 : Int) < (c.2 : Int)) := by rw [decide_eq_decide]; omega
      rw [e]
      exact et_test (ev_gt (V' 4) ev_int)
    · have h := of_decide_eq_true h
      have h2 : ((c.2 - 1 : Nat) : Int) = (c.2 : Int) - 1 := by omega
      refine pw_aug rfl (Ev.go (d := .int (get2 p.sto c.1 (c.2 - 1))) ?_ ⟨_, rfl, _, rfl, ?_⟩)
      · refine ev_get2 (V' 7) (V' 3) ?_ sh.sto hc.1 (by have := hc.2; omega)
        rw [h2]
        exact ev_sub (V' 4) ev_int
      · rw [if_pos h]; rfl
    · have h := of_decide_eq_false h
      exact ⟨_, rfl, by rw [if_neg h, Int.add_zero]; rfl⟩
  · rintro o ⟨x, hx, rfl⟩
    show PW K _ _ _ _
    have h6 := letFrom_len B ok c
    refine s_ret (ev_add (V' 8) (ev_sumI (is := (B.letFrom c).map fun o => get2 p.rel o.1 o.2) (ev_lc (es := (B.letFrom c).map cellD) (gok_tup (gsok_name (by simp) (gsok_name (by simp) gsok_nil))) (sz_of (by rw [List.length_map]; omega)) (by simp) (wi_lstP (ev_call (ea_cons (V' 0) (ea_cons (V' 2) ea_nil)) ⟨B, c, rfl, ok, rfl, rfl⟩ mono_let_from)) (fun i d e hd he => ?_)) (.inl rfl))) ?_
    · rw [List.getElem?_map] at hd
      rw [List.map_map, List.getElem?_map] at he
      cases ho : (B.letFrom c)[i]? with
      | none => rw [ho] at hd; cases hd
      | some o =>
        rw [ho] at hd he; cases hd; cases he
        have hin := letFrom_In (List.mem_of_getElem? ho)
        exact wg_tup rfl (wgs_cons (wg_name (wgs_cons (wg_name (wgs_nil ⟨rfl, ev_get2 (V' 6) (V' 9) (V' 10) sh.rel hin.1 hin.2⟩)))))
    · rw [hx]; exact q
theorem sc_spill : FnScope ["basin", "rights", "plan", "cell", "number", "month", "deliveries", "releases", "storages", "found", "at", "right"] ["basin", "rights", "plan", "cell"] (defScope s_spill) := ⟨rfl, rfl, rfl, by decide +kernel, rfl, by decide +kernel, by decide +kernel⟩
-- spill: 0 basin, 1 rights, 2 plan, 3 cell, 4 number, 5 month, 6 deliveries, 7 releases, 8 storages, 9 found, 10 at, 11 right
def S_spill : Spec := fun ds μ Q => ∃ (B : Basin) (R : List Right) (p : Plan) (c : Cell), ds = [basinD B, rightsD R, planD p, cellD c] ∧ B.Ok ∧ RightsOk B R ∧ p.Shape B R ∧ B.In c ∧ Q (.int (spillOf B R p c)) μ
theorem len_spill : S_spill.len 4 := fun ds μ Q h => by obtain ⟨_, _, _, _, rfl, _⟩ := h; rfl
theorem mono_spill : Mono S_spill := fun ds μ P P' f h => by obtain ⟨B, R, p, c, e, h1, h2, h3, h4, q⟩ := h; exact ⟨B, R, p, c, e, h1, h2, h3, h4, f _ _ q⟩
theorem c_spill (Fx : Fx K mg) : Cal P w K mg base 5 "spill" S_spill := by
  have hlen : Spec.len S_spill 4 := len_spill
  obtain ⟨fd, F⟩ := Fx.c.def_ 9 (d := d_spill) rfl
  refine ⟨_, fd, ["basin", "rights", "plan", "cell"], fnok F sc_spill hlen (fun cdv A outer s H E hr => ?_), Fx.glo 9, F.kp, FunD.bindsN F fun _ _ _ _ _ _ us hl => match us, hl with | [_, _, _, _], _ => rfl⟩
  have hu := hu_of hr
  have nd := sc_spill.nd
  refine ⟨_, (pss_cons (ps_asg (pv 3) (pg_tup rfl (pgs_cons (pg_name (i := 4) nd rfl (by first | exact Or.inl rfl | exact Or.inr rfl)) (pgs_cons (pg_name (i := 5) nd rfl (by first | exact Or.inl rfl | exact Or.inr rfl)) pgs_nil))))
      (pss_cons (ps_asg (pv 2) (pg_tup rfl (pgs_cons (pg_name (i := 6) nd rfl (by first | exact Or.inl rfl | exact Or.inr rfl)) (pgs_cons (pg_name (i := 7) nd rfl (by first | exact Or.inl rfl | exact Or.inr rfl)) (pgs_cons (pg_name (i := 8) nd rfl (by first | exact Or.inl rfl | exact Or.inr rfl)) pgs_nil)))))
      (pss_cons (ps_set (i := 9) nd rfl (by first | exact Or.inl rfl | exact Or.inr rfl) (pe_op op_sub (pe_op op_sub (k_cal (c_received Fx) hr (by decide) rfl (pa_cons (pv 0) (pa_cons (pv 2) (pa_cons (pv 3) pa_nil)))) (pe_ix (k_ix (K := K)) (pe_ix (k_ix (K := K)) (pv 7) (pv 4) (fun _ _ => rfl)) (pv 5) (fun _ _ => rfl))) (pe_ix (k_ix (K := K)) (pe_ix (k_ix (K := K)) (pv 8) (pv 4) (fun _ _ => rfl)) (pv 5) (fun _ _ => rfl))))
      (pss_cons (ps_for PassesOwn.never rfl (pi_enumT rfl (Fx.free 99) (pa_cons (pv 1) pa_nil)) (pg_tup rfl (pgs_cons (pg_name (i := 10) nd rfl (by first | exact Or.inl rfl | exact Or.inr rfl)) (pgs_cons (pg_name (i := 11) nd rfl (by first | exact Or.inl rfl | exact Or.inr rfl)) pgs_nil))) (pss_one (ps_if (pt_cmpR op_eq (k_cal (c_site_number Fx) hr (by decide) rfl (pa_cons (pv 0) (pa_cons (pe_ix (k_ix (K := K)) (pv 11) pe_int (fun _ _ => rfl)) pa_nil))) (pv 4) (nomark _)) (pss_one (ps_aug (i := 9) nd rfl (by first | exact Or.inl rfl | exact Or.inr rfl) (pe_ix (k_ix (K := K)) (pe_ix (k_ix (K := K)) (pv 6) (pv 10) (fun _ _ => rfl)) (pv 5) (fun _ _ => rfl)) ip_sub)) pss_nil)))
      (pss_one (ps_ret (pv 9))))))), fun ds μ Pq hS => ?_⟩
  obtain ⟨B, R, p, c, rfl, ok, rok, sh, hc, q⟩ := hS
  refine q_two (V' 3) rfl (q_three (V' 2) rfl ?_)
  refine q_set (ev_sub (ev_sub (ev_call (ea_cons (V' 0) (ea_cons (V' 2) (ea_cons (V' 3) ea_nil))) ⟨B, R, p, c, rfl, ok, sh, hc, rfl, rfl⟩ mono_received) (ev_get2 (V' 7) (V' 4) (V' 5) sh.rel hc.1 hc.2)) (ev_get2 (V' 8) (V' 4) (V' 5) sh.sto hc.1 hc.2)) ?_
  refine pw_seq (pw_for (fun i ρ μ' => μ' = μ ∧ ∃ a b, ρ = [some (basinD B), some (rightsD R), some (planD p), some (cellD c), some (.int (c.1 : Int)), some (.int (c.2 : Int)), some (tabD p.del), some (tabD p.rel), some (tabD p.sto), some (.int (recv B p c - get2 p.rel c.1 c.2 - get2 p.sto c.1 c.2 - taken R p c i)), a, b]) ?_)
  refine wi_enumT (ds := R.map rightD) (ea_cons (V' 1) ea_nil) ⟨⟨rfl, none, none, ?_⟩, fun _ _ _ _ => trivial, ?_, ?_⟩
  · have : taken R p c 0 = 0 := rfl
    rw [this, Int.sub_zero]; rfl
  · rintro i d ρ μ' hd ⟨rfl, a, b, rfl⟩
    obtain ⟨e, he, rfl⟩ := enumD_get hd
    have hlt : i < R.length := by
      have h1 := (List.getElem?_eq_some_iff.mp he).1
      rw [List.length_map] at h1; exact h1
    rw [rightAt hlt] at he
    cases he
    have hr := rok.at hlt
    have ht : taken R p c (i + 1) = taken R p c i + if (rAt R i).site = c.1 then get2 p.del i c.2 else 0 := by
      unfold taken
      rw [List.range_succ, List.map_append, List.sum_append]; simp
    refine wg_tup rfl (wgs_cons (wg_name (wgs_cons (wg_name (wgs_nil ?_)))))
    refine s_when (b := decide ((rAt R i).site = c.1)) ?_ (fun h => ?_) (fun h => ?_)
    · have e : decide ((rAt R i).site = c.1) = decide (((rAt R i).site : Int) = (c.1 : Int)) := by rw [decide_eq_decide]; omega
      rw [e]
      exact et_test (ev_eqI (ev_call (ea_cons (V' 0) (ea_cons (ev_ix (V' 11) ev_int) ea_nil)) ⟨B, (rAt R i).site, rfl, hr.site, rfl, rfl⟩ mono_site_number) (V' 4))
    · have h := of_decide_eq_true h
      rw [if_pos h] at ht
      refine pw_aug rfl (Ev.go (ev_get2 (V' 6) (V' 10) (V' 5) sh.del hlt hc.2) ⟨_, rfl, rfl, some (.int (i : Int)), some (rightD (rAt R i)), ?_⟩)
      rw [ht]
      have : ∀ a b c : Int, a - (b + c) = a - b - c := fun a b c => by omega
      rw [this]; rfl
    · have h := of_decide_eq_false h
      rw [if_neg h, Int.add_zero] at ht
      exact ⟨rfl, some (.int (i : Int)), some (rightD (rAt R i)), by rw [ht]; rfl⟩
  · rintro ρ μ' ⟨rfl, a, b, rfl⟩
    have hl : (enumD (R.map rightD)).length = R.length := by simp [enumD]
    rw [hl]
    exact s_ret (V' 9) q
theorem sc_cell_fault : FnScope ["basin", "rights", "plan", "cell", "number", "month", "_", "releases", "storages", "site", "release"] ["basin", "rights", "plan", "cell"] (defScope s_cell_fault) := ⟨rfl, rfl, rfl, by decide +kernel, rfl, by decide +kernel, by decide +kernel⟩
-- cell_fault: 0 basin, 1 rights, 2 plan, 3 cell, 4 number, 5 month, 6 _, 7 releases, 8 storages, 9 site, 10 release
def S_cell_fault : Spec := fun ds μ Q => ∃ (B : Basin) (R : List Right) (p : Plan) (c : Cell), ds = [basinD B, rightsD R, planD p, cellD c] ∧ B.Ok ∧ RightsOk B R ∧ p.Shape B R ∧ B.In c ∧ Q (optD faultD (cellFault B R p c)) μ
theorem len_cell_fault : S_cell_fault.len 4 := fun ds μ Q h => by obtain ⟨_, _, _, _, rfl, _⟩ := h; rfl
theorem mono_cell_fault : Mono S_cell_fault := fun ds μ P P' f h => by obtain ⟨B, R, p, c, e, h1, h2, h3, h4, q⟩ := h; exact ⟨B, R, p, c, e, h1, h2, h3, h4, f _ _ q⟩
theorem c_cell_fault (Fx : Fx K mg) : Cal P w K mg base 6 "cell_fault" S_cell_fault := by
  have hlen : Spec.len S_cell_fault 4 := len_cell_fault
  obtain ⟨fd, F⟩ := Fx.c.def_ 10 (d := d_cell_fault) rfl
  refine ⟨_, fd, ["basin", "rights", "plan", "cell"], fnok F sc_cell_fault hlen (fun cdv A outer s H E hr => ?_), Fx.glo 10, F.kp, FunD.bindsN F fun _ _ _ _ _ _ us hl => match us, hl with | [_, _, _, _], _ => rfl⟩
  have hu := hu_of hr
  have nd := sc_cell_fault.nd
  refine ⟨_, (pss_cons (ps_asg (pv 3) (pg_tup rfl (pgs_cons (pg_name (i := 4) nd rfl (by first | exact Or.inl rfl | exact Or.inr rfl)) (pgs_cons (pg_name (i := 5) nd rfl (by first | exact Or.inl rfl | exact Or.inr rfl)) pgs_nil))))
      (pss_cons (ps_asg (pv 2) (pg_tup rfl (pgs_cons (pg_name (i := 6) nd rfl (by first | exact Or.inl rfl | exact Or.inr rfl)) (pgs_cons (pg_name (i := 7) nd rfl (by first | exact Or.inl rfl | exact Or.inr rfl)) (pgs_cons (pg_name (i := 8) nd rfl (by first | exact Or.inl rfl | exact Or.inr rfl)) pgs_nil)))))
      (pss_cons (ps_set (i := 9) nd rfl (by first | exact Or.inl rfl | exact Or.inr rfl) (pe_ix (k_ix (K := K)) (pe_ix (k_ix (K := K)) (pv 0) pe_int (fun _ _ => rfl)) (pv 4) (fun _ _ => rfl)))
      (pss_cons (ps_set (i := 10) nd rfl (by first | exact Or.inl rfl | exact Or.inr rfl) (pe_ix (k_ix (K := K)) (pe_ix (k_ix (K := K)) (pv 7) (pv 4) (fun _ _ => rfl)) (pv 5) (fun _ _ => rfl)))
      (pss_cons (ps_if (PW.pt (pw_or (PW.pt (pw_and (pt_cmp (pc_isN (pe_ix (k_ix (K := K)) (pv 9) (k_gI (Fx.int 42) rfl) (fun _ _ => rfl)))) (pw_and1 (pt_cmpR op_gt (pv 10) pe_int (nomark _))))) (pw_or1 (PW.pt (pw_and (pt_cmp (pc_notN (pe_ix (k_ix (K := K)) (pv 9) (k_gI (Fx.int 44) rfl) (fun _ _ => rfl)))) (pw_and1 (pt_cmpR op_gt (pv 10) (pe_ix (k_ix (K := K)) (pv 9) (k_gI (Fx.int 44) rfl) (fun _ _ => rfl)) (nomark _)))))))) (pss_one (ps_ret (pe_tup (pa_cons pe_str (pa_cons (pv 4) (pa_cons (pv 5) pa_nil)))))) pss_nil)
      (pss_cons (ps_if (pt_cmpR op_gt (pe_ix (k_ix (K := K)) (pe_ix (k_ix (K := K)) (pv 8) (pv 4) (fun _ _ => rfl)) (pv 5) (fun _ _ => rfl)) (pe_ix (k_ix (K := K)) (pv 9) (k_gI (Fx.int 45) rfl) (fun _ _ => rfl)) (nomark _)) (pss_one (ps_ret (pe_tup (pa_cons pe_str (pa_cons (pv 4) (pa_cons (pv 5) pa_nil)))))) pss_nil)
      (pss_one (ps_ret (pe_ifExp (pt_cmpR op_lt (k_cal (c_spill Fx) hr (by decide) rfl (pa_cons (pv 0) (pa_cons (pv 1) (pa_cons (pv 2) (pa_cons (pv 3) pa_nil))))) pe_int (nomark _)) (pe_tup (pa_cons pe_str (pa_cons (pv 4) (pa_cons (pv 5) pa_nil)))) pe_non))))))))), fun ds μ Pq hS => ?_⟩
  obtain ⟨B, R, p, c, rfl, ok, rok, sh, hc, q⟩ := hS
  refine q_two (V' 3) rfl (q_three (V' 2) rfl ?_)
  refine q_set (ev_ixN (ev_ix (V' 0) ev_int) (V' 4) (siteAt hc.1)) ?_
  refine q_set (ev_get2 (V' 7) (V' 4) (V' 5) sh.rel hc.1 hc.2) ?_
  unfold cellFault at q
  refine q_when (b := badRel B p c) ?_ (fun h => ?_) (fun h => ?_)
  · have e : badRel B p c = (((B.at c.1).next.isNone && decide (0 < get2 p.rel c.1 c.2)) || ((!(optD D.int (B.at c.1).reach).isN) && match (B.at c.1).reach with
      | none => false
      | some r => decide (r < get2 p.rel c.1 c.2))) := by
      unfold badRel
      cases (B.at c.1).reach <;> rfl
    rw [e]
    refine et_or (et_and (et_B ?_) (fun _ => et_test (ev_gt (V' 10) ev_int))) (fun _ => et_and (et_B (ev_notN (ev_ix (V' 9) ev_int))) (fun h => ?_))
    · rw [← isN_opt (f := fun j => D.str (nm j)) (fun _ => rfl)]
      exact ev_isN (ev_ix (V' 9) ev_int)
    · cases hr : (B.at c.1).reach with
      | none => rw [hr] at h; cases h
      | some r =>
        refine et_test (ev_gt (V' 10) (ev_ix (ds := [.str (nm c.1), optD (fun j => .str (nm j)) (B.at c.1).next, .int ((B.at c.1).travel : Int), optD .int (B.at c.1).reach, .int (B.at c.1).room, .int (B.at c.1).held, intsD (B.at c.1).inflows]) (V' 9) ev_int ?_))
        rw [hr]; rfl
  · rw [if_pos h] at q
    exact s_retT (ev_tup (ea_cons ev_str (ea_cons (V' 4) (ea_cons (V' 5) ea_nil)))) q
  · rw [if_neg (by rw [h]; simp)] at q
    refine q_when (et_test (ev_gt (ev_get2 (V' 8) (V' 4) (V' 5) sh.sto hc.1 hc.2) (ev_ix (V' 9) ev_int))) (fun h => ?_) (fun h => ?_)
    · rw [if_pos (of_decide_eq_true h)] at q
      exact s_retT (ev_tup (ea_cons ev_str (ea_cons (V' 4) (ea_cons (V' 5) ea_nil)))) q
    · rw [if_neg (of_decide_eq_false h)] at q
      refine s_ret (d := optD faultD (if spillOf B R p c < 0 then some ("balance", c.1, c.2) else none)) (ev_ite (et_test (ev_lt (ev_call (ea_cons (V' 0) (ea_cons (V' 1) (ea_cons (V' 2) (ea_cons (V' 3) ea_nil)))) ⟨B, R, p, c, rfl, ok, rok, sh, hc, rfl, rfl⟩ mono_spill) ev_int)) (fun h => ?_) (fun h => ?_)) q
      · rw [if_pos (of_decide_eq_true h)]
        exact ev_tup (ea_cons ev_str (ea_cons (V' 4) (ea_cons (V' 5) ea_nil)))
      · rw [if_neg (of_decide_eq_false h)]
        exact ev_non
theorem sc_month_fault : FnScope ["basin", "rights", "plan", "month", "number", "right", "fault"] ["basin", "rights", "plan", "month"] (defScope s_month_fault) := ⟨rfl, rfl, rfl, by decide +kernel, rfl, by decide +kernel, by decide +kernel⟩
-- month_fault: 0 basin, 1 rights, 2 plan, 3 month, 4 number, 5 right, 6 fault
def S_month_fault : Spec := fun ds μ Q => ∃ (B : Basin) (R : List Right) (p : Plan) (m : Nat), ds = [basinD B, rightsD R, planD p, .int (m : Int)] ∧ B.Ok ∧ RightsOk B R ∧ p.Shape B R ∧ m < B.months ∧ Q (optD faultD (monthFault B R p m)) μ
theorem len_month_fault : S_month_fault.len 4 := fun ds μ Q h => by obtain ⟨_, _, _, _, rfl, _⟩ := h; rfl
theorem mono_month_fault : Mono S_month_fault := fun ds μ P P' f h => by obtain ⟨B, R, p, c, e, h1, h2, h3, h4, q⟩ := h; exact ⟨B, R, p, c, e, h1, h2, h3, h4, f _ _ q⟩
theorem c_month_fault (Fx : Fx K mg) : Cal P w K mg base 7 "month_fault" S_month_fault := by
  have hlen : Spec.len S_month_fault 4 := len_month_fault
  obtain ⟨fd, F⟩ := Fx.c.def_ 11 (d := d_month_fault) rfl
  refine ⟨_, fd, ["basin", "rights", "plan", "month"], fnok F sc_month_fault hlen (fun cdv A outer s H E hr => ?_), Fx.glo 11, F.kp, FunD.bindsN F fun _ _ _ _ _ _ us hl => match us, hl with | [_, _, _, _], _ => rfl⟩
  have hu := hu_of hr
  have nd := sc_month_fault.nd
  refine ⟨_, (pss_cons (ps_for PassesOwn.never rfl (pi_enumT rfl (Fx.free 99) (pa_cons (pv 1) pa_nil)) (pg_tup rfl (pgs_cons (pg_name (i := 4) nd rfl (by first | exact Or.inl rfl | exact Or.inr rfl)) (pgs_cons (pg_name (i := 5) nd rfl (by first | exact Or.inl rfl | exact Or.inr rfl)) pgs_nil))) (pss_one (ps_if (pt_cmpR op_gt (pe_ix (k_ix (K := K)) (pe_ix (k_ix (K := K)) (pe_ix (k_ix (K := K)) (pv 2) pe_int (fun _ _ => rfl)) (pv 4) (fun _ _ => rfl)) (pv 3) (fun _ _ => rfl)) (pe_ix (k_ix (K := K)) (pe_ix (k_ix (K := K)) (pv 5) pe_int (fun _ _ => rfl)) (pv 3) (fun _ _ => rfl)) (nomark _)) (pss_one (ps_ret (pe_tup (pa_cons pe_str (pa_cons (pv 4) (pa_cons (pv 3) pa_nil)))))) pss_nil)))
      (pss_cons (ps_for PassesOwn.never rfl (pi_range1 rfl (Fx.free 98) (pa_cons (pe_callB (k_len (K := K)) (by rfl) (Fx.free 97) PySem.boot_len (pa_cons (pe_ix (k_ix (K := K)) (pv 0) pe_int (fun _ _ => rfl)) pa_nil)) pa_nil)) (pg_name (i := 4) nd rfl (by first | exact Or.inl rfl | exact Or.inr rfl)) (pss_cons (ps_set (i := 6) nd rfl (by first | exact Or.inl rfl | exact Or.inr rfl) (k_cal (c_cell_fault Fx) hr (by decide) rfl (pa_cons (pv 0) (pa_cons (pv 1) (pa_cons (pv 2) (pa_cons (pe_tup (pa_cons (pv 4) (pa_cons (pv 3) pa_nil))) pa_nil))))))
      (pss_one (ps_if (pt_cmp (pc_notN (pv 6))) (pss_one (ps_ret (pv 6))) pss_nil))))
      (pss_one (ps_ret pe_non)))), fun ds μ Pq hS => ?_⟩
  obtain ⟨B, R, p, m, rfl, ok, rok, sh, hm, q⟩ := hS
  unfold monthFault at q
  have hn := ok.n3
  refine pw_seq (pw_for (fun i ρ μ' => μ' = μ ∧ (∀ j, j < i → rightFault R p m j = none) ∧ ∃ a b, ρ = [some (basinD B), some (rightsD R), some (planD p), some (.int (m : Int)), a, b, none]) ?_)
  refine wi_enumT (ds := R.map rightD) (ea_cons (V' 1) ea_nil) ⟨⟨rfl, fun j hj => absurd hj (Nat.not_lt_zero _), none, none, rfl⟩, fun _ _ _ _ => trivial, ?_, ?_⟩
  · rintro i d ρ μ' hd ⟨rfl, hno, a, b, rfl⟩
    obtain ⟨e, he, rfl⟩ := enumD_get hd
    have hlt : i < R.length := by
      have h1 := (List.getElem?_eq_some_iff.mp he).1
      rw [List.length_map] at h1; exact h1
    rw [rightAt hlt] at he
    cases he
    have hr := rok.at hlt
    refine wg_tup rfl (wgs_cons (wg_name (wgs_cons (wg_name (wgs_nil ?_)))))
    refine s_when (et_test (ev_gt (ev_get2 (ev_ix (V' 2) ev_int) (V' 4) (V' 3) sh.del hlt hm) (ev_ixN (ev_ix (V' 5) ev_int) (V' 3) (demAt hr hm)))) (fun h => ?_) (fun h => ?_)
    · have hf : rightFault R p m i = some (("too much" : Str), i, m) := if_pos (of_decide_eq_true h)
      rw [fs_some hlt hno hf] at q
      exact s_retΦ (ev_tup (ea_cons ev_str (ea_cons (V' 4) (ea_cons (V' 3) ea_nil)))) ⟨_, Mu.sub.refl _, q⟩
    · have hf : rightFault R p m i = none := if_neg (of_decide_eq_false h)
      refine ⟨rfl, fun j hj => ?_, _, _, rfl⟩
      rcases Nat.lt_succ_iff_lt_or_eq.mp hj with c | c
      · exact hno j c
      · rw [c]; exact hf
  · rintro ρ μ' ⟨rfl, hno, a, b, rfl⟩
    have hl : (enumD (R.map rightD)).length = R.length := by simp [enumD]
    rw [hl] at hno
    rw [fs_none hno] at q
    simp only at q
    refine pw_seq (pw_for (fun i ρ μ'' => μ'' = μ' ∧ (∀ j, j < i → cellFault B R p (j, m) = none) ∧ ∃ a b c, ρ = [some (basinD B), some (rightsD R), some (planD p), some (.int (m : Int)), a, b, c]) ?_)
    refine fun G0 H0 G H σ A R' q' => wi_rngP (n := B.sites.length) (ea_cons (ev_len (ev_ix (V' 0) ev_int) (.inl rfl)) ea_nil) (by omega) G0 H0 G H σ A R' fun J ds inv μ' G' H' p' => q' J ds inv μ' G' H' ?_
    obtain ⟨rfl, rfl, iv⟩ := p'
    refine ⟨⟨rfl, fun j hj => absurd hj (Nat.not_lt_zero _), _, _, _, rfl⟩, fun _ _ _ e => by rw [e.1]; exact iv, ?_, ?_⟩
    · rintro i d ρ μ3 hd ⟨rfl, hno2, a, b, c, rfl⟩
      obtain ⟨hi, rfl⟩ := rngD0 hd
      refine wg_name ?_
      refine q_set (ev_call (ea_cons (V' 0) (ea_cons (V' 1) (ea_cons (V' 2) (ea_cons (ev_tup (ea_cons (V' 4) (ea_cons (V' 3) ea_nil))) ea_nil)))) ⟨B, R, p, (i, m), rfl, ok, rok, sh, ⟨hi, hm⟩, rfl, rfl⟩ mono_cell_fault) ?_
      refine s_when (et_B (ev_notN (V' 6))) (fun h => ?_) (fun h => ?_)
      · rw [isN_opt (fun _ => rfl)] at h
        cases hf : cellFault B R p (i, m) with
        | none => rw [hf] at h; cases h
        | some x =>
          rw [fs_some hi hno2 hf] at q
          exact s_retΦ (V' 6) ⟨_, Mu.sub.refl _, q⟩
      · rw [isN_opt (fun _ => rfl)] at h
        refine ⟨rfl, fun j hj => ?_, _, _, _, rfl⟩
        rcases Nat.lt_succ_iff_lt_or_eq.mp hj with c | c
        · exact hno2 j c
        · rw [c]
          cases hf : cellFault B R p (i, m) with
          | none => rfl
          | some x => rw [hf] at h; cases h
    · rintro ρ μ3 ⟨rfl, hno2, a, b, c, rfl⟩
      rw [rngD_len] at hno2
      rw [fs_none hno2] at q
      exact s_ret ev_non q
theorem sc_plan_fault : FnScope ["basin", "rights", "plan", "month", "fault"] ["basin", "rights", "plan"] (defScope s_plan_fault) := ⟨rfl, rfl, rfl, by decide +kernel, rfl, by decide +kernel, by decide +kernel⟩
-- plan_fault: 0 basin, 1 rights, 2 plan, 3 month, 4 fault
def S_plan_fault : Spec := fun ds μ Q => ∃ (B : Basin) (R : List Right) (p : Plan), ds = [basinD B, rightsD R, planD p] ∧ B.Ok ∧ RightsOk B R ∧ p.Shape B R ∧ Q (optD faultD (planFault B R p)) μ
theorem len_plan_fault : S_plan_fault.len 3 := fun ds μ Q h => by obtain ⟨_, _, _, rfl, _⟩ := h; rfl
theorem mono_plan_fault : Mono S_plan_fault := fun ds μ P P' f h => by obtain ⟨B, R, p, e, h1, h2, h3, q⟩ := h; exact ⟨B, R, p, e, h1, h2, h3, f _ _ q⟩
theorem c_plan_fault (Fx : Fx K mg) : Cal P w K mg base 8 "plan_fault" S_plan_fault := by
  have hlen : Spec.len S_plan_fault 3 := len_plan_fault
  obtain ⟨fd, F⟩ := Fx.c.def_ 12 (d := d_plan_fault) rfl
  refine ⟨_, fd, ["basin", "rights", "plan"], fnok F sc_plan_fault hlen (fun cdv A outer s H E hr => ?_), Fx.glo 12, F.kp, FunD.bindsN F fun _ _ _ _ _ _ us hl => match us, hl with | [_, _, _], _ => rfl⟩
  have hu := hu_of hr
  have nd := sc_plan_fault.nd
  refine ⟨_, (pss_cons (ps_for PassesOwn.never rfl (pi_range1 rfl (Fx.free 98) (pa_cons (pe_ix (k_ix (K := K)) (pv 0) pe_int (fun _ _ => rfl)) pa_nil)) (pg_name (i := 3) nd rfl (by first | exact Or.inl rfl | exact Or.inr rfl)) (pss_cons (ps_set (i := 4) nd rfl (by first | exact Or.inl rfl | exact Or.inr rfl) (k_cal (c_month_fault Fx) hr (by decide) rfl (pa_cons (pv 0) (pa_cons (pv 1) (pa_cons (pv 2) (pa_cons (pv 3) pa_nil))))))
      (pss_one (ps_if (pt_cmp (pc_notN (pv 4))) (pss_one (ps_ret (pv 4))) pss_nil))))
      (pss_one (ps_ret pe_non))), fun ds μ Pq hS => ?_⟩
  obtain ⟨B, R, p, rfl, ok, rok, sh, q⟩ := hS
  unfold planFault at q
  have hm4 := ok.m4
  refine pw_seq (pw_for (fun i ρ μ' => μ' = μ ∧ (∀ j, j < i → monthFault B R p j = none) ∧ ∃ a b, ρ = [some (basinD B), some (rightsD R), some (planD p), a, b]) ?_)
  refine fun G0 H0 G H σ A R' q' => wi_rngP (n := B.months) (ea_cons (ev_ix (V' 0) ev_int) ea_nil) (by omega) G0 H0 G H σ A R' fun J ds inv μ' G' H' p' => q' J ds inv μ' G' H' ?_
  obtain ⟨rfl, rfl, iv⟩ := p'
  refine ⟨⟨rfl, fun j hj => absurd hj (Nat.not_lt_zero _), _, _, rfl⟩, fun _ _ _ e => by rw [e.1]; exact iv, ?_, ?_⟩
  · rintro i d ρ μ3 hd ⟨rfl, hno2, a, b, rfl⟩
    obtain ⟨hi, rfl⟩ := rngD0 hd
    refine wg_name ?_
    refine q_set (ev_call (ea_cons (V' 0) (ea_cons (V' 1) (ea_cons (V' 2) (ea_cons (V' 3) ea_nil)))) ⟨B, R, p, i, rfl, ok, rok, sh, hi, rfl, rfl⟩ mono_month_fault) ?_
    refine s_when (et_B (ev_notN (V' 4))) (fun h => ?_) (fun h => ?_)
    · rw [isN_opt (fun _ => rfl)] at h
      cases hf : monthFault B R p i with
      | none => rw [hf] at h; cases h
      | some x =>
        rw [fs_some hi hno2 hf] at q
        exact s_retΦ (V' 4) ⟨_, Mu.sub.refl _, q⟩
    · rw [isN_opt (fun _ => rfl)] at h
      refine ⟨rfl, fun j hj => ?_, _, _, rfl⟩
      rcases Nat.lt_succ_iff_lt_or_eq.mp hj with c | c
      · exact hno2 j c
      · rw [c]
        cases hf : monthFault B R p i with
        | none => rfl
        | some x => rw [hf] at h; cases h
  · rintro ρ μ3 ⟨rfl, hno2, a, b, rfl⟩
    rw [rngD_len] at hno2
    rw [fs_none hno2] at q
    exact s_ret ev_non q
end
end Hw
set_option Elab.async false
set_option linter.all false
set_option maxRecDepth 100000
set_option maxHeartbeats 4000000
/-! More rules of the calculus: negation, slices, repetition, three-way min, pop, index, sorted. -/
namespace Hw
open PySem PySem.Spec L2
section
variable (K : PySem.W.Frag)
abbrev EvO (tl : TO) (ρ : List (Option D)) (μ : Mu) (o : Option Int) : Prop := ∀ (G0 H0 G H : Hp) (σ : L2.St), At K G0 H0 ρ μ G H σ → ∀ Q : Option Int → Hp → Prop,
  (∀ G' H', Ex G G' → At K G0 H0 ρ μ G' H' σ → Q o H') → tl σ H Q
end
def cutD (ds : List D) (lo hi : Option Int) : List D := (ds.drop (HT.sIx ds.length 0 lo)).take (HT.sIx ds.length ds.length hi - HT.sIx ds.length 0 lo)
section
variable {K : PySem.W.Frag} {G G' H H' G0 H0 : Hp} {σ : L2.St} {ρ : List (Option D)} {μ : Mu} {a : Addr} {te ta tb tc : TE} {P : D → Mu → Prop} {x y z d e : D} {t : TA} {ds es : List D} {tl th : TO}
theorem ev_neg {i : Int} (ha : Ev K ta ρ μ (.int i)) : Ev K (tUn (rU fun i => .int (-i)) ta) ρ μ (.int (-i)) := fun G0 H0 G H σ A Q q =>
  ha G0 H0 G H σ A _ fun v d μ1 G1 H1 p e A1 i1 => by
    obtain ⟨rfl, rfl⟩ := p
    exact ⟨i, i1, q _ (.int (-i)) _ G1 H1 ⟨rfl, rfl⟩ e A1 rfl⟩
theorem eo_none : EvO K tNoPart ρ μ none := fun G0 H0 G H σ A Q q => q G H (Ex.refl _) A
theorem eo_some {i : Int} (h : Ev K te ρ μ (.int i)) : EvO K (tPart te) ρ μ (some i) := fun G0 H0 G H σ A Q q =>
  h G0 H0 G H σ A _ fun v d μ1 G1 H1 p e A1 i1 => by
    obtain ⟨rfl, rfl⟩ := p
    exact ⟨i, i1, q G1 H1 e A1⟩
theorem ev_sl {lo hi : Option Int} (h : Ev K te ρ μ (.tup ds)) (hl : EvO K tl ρ μ lo) (hh : EvO K th ρ μ hi) : Ev K (tSl (rSlA K) te tl th) ρ μ (.tup (cutD ds lo hi)) := fun G0 H0 G H σ A Q q =>
  h G0 H0 G H σ A _ fun v d μ1 G1 H1 p e1 A1 i1 => by
    obtain ⟨rfl, rfl⟩ := p
    refine hl G0 H0 G1 H1 σ A1 _ fun G2 H2 e2 A2 => hh G0 H0 G2 H2 σ A2 _ fun G3 H3 e3 A3 => ?_
    obtain ⟨a, xs, rfl, s, l⟩ := i1
    have l3 : IsL K G3 ds xs := l.mono (e2.trans e3)
    have s3 : G3 a = some (.tup xs) := (e2.trans e3) _ _ s
    have hn := l.len
    refine ⟨a, xs, rfl, SqT.of (A3.gh _ _ s3), fun w => ?_, fun _ c hc => ?_⟩
    · have : cutD ds lo hi = ds := by
        unfold cutD
        rw [← hn, w.1, w.2, hn]; simp
      exact q _ _ _ G3 H3 ⟨rfl, rfl⟩ (e1.trans (e2.trans e3)) A3 (by rw [this]; exact ⟨a, xs, rfl, s3, l3⟩)
    · have eg : Ex G3 (L2.upd G3 c (.tup (cutV xs lo hi))) := Ex.new (A3.gh.off hc)
      refine q _ _ _ _ _ ⟨rfl, rfl⟩ (e1.trans (e2.trans (e3.trans eg))) (A3.laid hc) ⟨c, _, rfl, L2.upd_same, ?_⟩
      have := ((l3.drop (HT.sIx xs.length 0 lo)).take (HT.sIx xs.length xs.length hi - HT.sIx xs.length 0 lo)).mono eg
      unfold cutD
      rw [← hn]; exact this
theorem repL : ∀ (n : Nat) {ds : List D} {xs : List V}, IsL K G ds xs → IsL K G (List.replicate n ds).flatten (List.replicate n xs).flatten
  | 0, _, _, _ => rfl
  | n + 1, _, _, h => by
    rw [List.replicate_succ, List.replicate_succ, List.flatten_cons, List.flatten_cons]
    exact h.app (repL n h)
/-- a new list cell -/
theorem ro_rep {n : Nat} (h : LstIn μ x ds) (hn : n ≤ 100000) (hz : ds.length * n ≤ 100000) (p : ∀ c, μ c = none → P (.raw (.ref c)) (μ.upd c (.lst (List.replicate n ds).flatten))) : RO K rRep x (.int (n : Int)) μ P := fun G0 H0 G H ρ σ v u A h1 h2 Q q => by
  cases h2
  obtain ⟨a, xs, rfl, s, l⟩ := A.lst h h1
  refine ⟨a, (n : Int), xs, rfl, rfl, s, by omega, by omega, by rw [l.len, Int.toNat_natCast]; exact sz_of hz, fun c hc => ?_⟩
  rw [Int.toNat_natCast]
  exact q _ _ _ G _ (p c (A.muNone hc)) (Ex.refl _) (A.fresh hc ⟨_, L2.upd_same, repL n l⟩) rfl
/-- as data -/
theorem ro_repD {n : Nat} (h : LstIn μ x ds) (hn : n ≤ 100000) (hz : ds.length * n ≤ 100000) (p : P (.lst (List.replicate n ds).flatten) μ) : RO K rRep x (.int (n : Int)) μ P := fun G0 H0 G H ρ σ v u A h1 h2 Q q => by
  cases h2
  obtain ⟨a, xs, rfl, s, l⟩ := A.lst h h1
  refine ⟨a, (n : Int), xs, rfl, rfl, s, by omega, by omega, by rw [l.len, Int.toNat_natCast]; exact sz_of hz, fun c hc => ?_⟩
  rw [Int.toNat_natCast]
  have eg : Ex G (L2.upd G c (.lst (List.replicate n xs).flatten)) := Ex.new (A.gh.off hc)
  exact q _ _ _ _ _ p eg (A.laid hc) ⟨c, _, rfl, L2.upd_same, (repL n l).mono eg⟩
theorem rb_min3 {i j k : Int} (p : P (.int (min (min i j) k)) μ) : RB K (rNuC3 nuMin3) [.int i, .int j, .int k] μ P := fun G0 H0 G H ρ σ vs A l Q q => by
  obtain ⟨v1, r1, rfl, e1, v2, r2, rfl, e2, v3, r3, rfl, e3, e4⟩ := l
  cases e1; cases e2; cases e3; cases e4
  refine ⟨.int i, .int j, .int k, .int (min (min i j) k), rfl, ?_, q _ _ μ G H p (Ex.refl _) A rfl⟩
  have h2 : ∀ a b : Int, nuMin2 (.int a) (.int b) = some (.int (min a b)) := fun a b => by
    have e : min a b = if b < a then b else a := by rw [Int.min_def]; split <;> split <;> omega
    rw [e]
    show ((some (decide (b < a))).map fun c => if c = true then V.int b else V.int a) = _
    by_cases c : b < a
    · rw [if_pos c, decide_eq_true c]; rfl
    · rw [if_neg c, decide_eq_false c]; rfl
  unfold nuMin3
  rw [h2, Option.bind_some, h2]
/-- xs.pop(0) of a cell -/
theorem we_pop0 {to : TE} (h : Ev K to ρ μ (.raw (.ref a))) (hm : μ a = some (.lst (d :: ds))) (p : P d (μ.upd a (.lst ds))) : WE K (tBM K "list" rPopAt to (tCons (tC (.int 0)) tNil)) ρ μ P := fun G0 H0 G H σ A Q q =>
  h G0 H0 G H σ A _ fun v o μ1 G1 H1 p1 e1 A1 i1 => by
    obtain ⟨rfl, rfl⟩ := p1
    cases i1
    obtain ⟨_, _, xs, hx, lx⟩ := A1.rep a _ hm
    obtain ⟨v, r, rfl, iv, lr⟩ := lx
    refine ⟨.inl ⟨rfl, _, SqL.of hx⟩, a, v :: r, 0, 0, v, rfl, rfl, hx, by omega, by omega, ?_, rfl, ?_⟩
    · unfold seqIndex?
      simp
    exact q _ d _ G1 _ p e1 (A1.write hm ⟨_, L2.upd_same, lr⟩) iv
end
end Hw
set_option Elab.async false
set_option linter.all false
set_option maxRecDepth 100000
set_option maxHeartbeats 4000000
/-! Rows of parcels: joined, parted. -/
namespace Hw
open PySem PySem.Spec L2
inductive Org where
  | held (k : Nat)
  | inn (k m : Nat)
deriving DecidableEq
abbrev Row := List (Org × Int)
def orgD : Org → D
  | .held k => .tup [.str "held", .int (k : Int)]
  | .inn k m => .tup [.str "in", .int (k : Int), .int (m : Int)]
def parD (p : Org × Int) : D := .tup [orgD p.1, .int p.2]
def rowD (r : Row) : D := .lst (r.map parD)
def joinStep (acc : Row) (p : Org × Int) : Row := if 0 < p.2 then (match acc.getLast? with
  | some l => if l.1 = p.1 then acc.dropLast ++ [(p.1, l.2 + p.2)] else acc ++ [p]
  | none => acc ++ [p]) else acc
def joinRow (r : Row) : Row := r.foldl joinStep []
structure Parts where
  front : Row
  rest : Row
  left : Int
def partStep (s : Parts) (p : Org × Int) : Parts := ⟨s.front ++ [(p.1, min p.2 s.left)], s.rest ++ [(p.1, p.2 - min p.2 s.left)], s.left - min p.2 s.left⟩
def partRow (r : Row) (a : Int) : Parts := r.foldl partStep ⟨[], [], a⟩
theorem foldl_take {α β : Type} (f : β → α → β) (b : β) (l : List α) (i : Nat) (x : α) (h : l[i]? = some x) : (l.take (i + 1)).foldl f b = f ((l.take i).foldl f b) x := by
  rw [List.take_succ, h, List.foldl_append]; rfl
theorem joinStep_len (acc : Row) (p : Org × Int) : (joinStep acc p).length ≤ acc.length + 1 := by
  unfold joinStep
  split
  · cases h : acc.getLast? with
    | none => simp
    | some l =>
      simp only
      split
      · have : acc ≠ [] := fun e => by rw [e] at h; cases h
        have : 0 < acc.length := List.length_pos_iff.mpr this
        rw [List.length_append, List.length_dropLast]
        simp only [List.length_cons, List.length_nil]; omega
      · simp
  · omega
theorem joinRow_len (r : Row) : (joinRow r).length ≤ r.length := by
  have : ∀ (r acc : Row), (r.foldl joinStep acc).length ≤ acc.length + r.length := fun r => by
    induction r with
    | nil => intro acc; simp
    | cons p r ih =>
      intro acc
      have h1 := ih (joinStep acc p)
      have h2 := joinStep_len acc p
      rw [List.foldl_cons, List.length_cons]; omega
  have h := this r []
  unfold joinRow
  simpa using h
theorem partRow_len (r : Row) (a : Int) : (partRow r a).front.length = r.length ∧ (partRow r a).rest.length = r.length := by
  have : ∀ (r : Row) (s : Parts), (r.foldl partStep s).front.length = s.front.length + r.length ∧ (r.foldl partStep s).rest.length = s.rest.length + r.length := fun r => by
    induction r with
    | nil => intro s; simp
    | cons p r ih =>
      intro s
      have h1 := ih (partStep s p)
      have e1 : (partStep s p).front.length = s.front.length + 1 := by simp [partStep]
      have e2 : (partStep s p).rest.length = s.rest.length + 1 := by simp [partStep]
      rw [List.foldl_cons, List.length_cons]
      omega
  have h := this r ⟨[], [], a⟩
  unfold partRow
  simpa using h
theorem atI_last {α : Type} (ds : List α) (d : α) : atI (ds ++ [d]) (-1) = some d := by
  have h : ixN (ds ++ [d]).length (-1) = some ds.length := by
    unfold ixN
    rw [List.length_append, if_neg (by omega), if_pos (by rw [List.length_cons, List.length_nil]; omega)]
    congr 1
    rw [List.length_cons, List.length_nil]; omega
  unfold atI
  rw [h]
  simp
theorem ixN_last {α : Type} (ds : List α) (d : α) : ixN (ds ++ [d]).length (-1) = some ds.length := by
  unfold ixN
  rw [List.length_append, if_neg (by omega), if_pos (by rw [List.length_cons, List.length_nil]; omega)]
  congr 1
  rw [List.length_cons, List.length_nil]; omega
theorem set_last {α : Type} (ds : List α) (d e : α) : (ds ++ [d]).set ds.length e = ds ++ [e] := by
  rw [List.set_append]; simp
theorem nil_or_snoc {α : Type} : ∀ l : List α, l = [] ∨ ∃ i x, l = i ++ [x]
  | [] => .inl rfl
  | a :: l => .inr (match nil_or_snoc l with
    | .inl h => ⟨[], a, by rw [h]; rfl⟩
    | .inr ⟨i, x, h⟩ => ⟨a :: i, x, by rw [h]; rfl⟩)
theorem eqv_org (a b : Org) : PyData.eqv (toPy (orgD a)) (toPy (orgD b)) = decide (a = b) := by
  rw [Bool.eq_iff_iff]
  cases a <;> cases b <;> simp [orgD, toPy, toPyL, PyData.eqv, PyData.eqvAll] <;> omega
theorem ok_org (a : Org) : okD (orgD a) = true := by cases a <;> rfl
theorem sh_org (a : Org) : SeqAt.shaped (toPy (orgD a)) = true := by
  have h1 : PyData.strOk "held" = true := by decide +kernel
  have h2 : PyData.strOk "in" = true := by decide +kernel
  cases a <;> simp [SeqAt.shaped, orgD, toPy, toPyL, PyData.canLay0, PyData.canLayAll0, PyData.depth, PyData.depthAll, h1, h2]
section
variable {K : PySem.W.Frag} {ρ : List (Option D)} {μ : Mu} {ta tb te : TE} {x y d : D} {t : TA} {ds : List D} {a : Addr} {ts : TS} {Φ : Out → Prop}
theorem wi_lstE {PI : List D → (Mu → Prop) → Mu → Prop} (h : Ev K te ρ μ (.lst ds)) (p : PI ds (fun _ => True) μ) : WI K (iList K te) ρ μ PI := wi_lst (h.go ⟨ds, rfl, p⟩)
theorem wi_tupE {PI : List D → (Mu → Prop) → Mu → Prop} (h : Ev K te ρ μ (.tup ds)) (p : PI ds (fun _ => True) μ) : WI K (iTup K te) ρ μ PI := wi_tup (ds := ds) (h.go ⟨ds, rfl, p⟩)
theorem wi_rngE {PI : List D → (Mu → Prop) → Mu → Prop} {n : Nat} (h : EvA K t ρ μ [.int (n : Int)]) (hn : n ≤ 100000) (p : PI (rngD 0 n) (fun _ => True) μ) : WI K (iRng1 t) ρ μ PI := wi_rng1 h ⟨by omega, by omega⟩ (by simpa using p)
theorem PW.to {Φ : Out → Prop} {ρ' : List (Option D)} {μ' : Mu} (h : PW K ts ρ μ (fun o => o = .nx ρ' μ')) (p : Φ (.nx ρ' μ')) : PW K ts ρ μ Φ := PW.imp h fun o e => by rw [e]; exact p
theorem et_truL (ha : Ev K ta ρ μ x) (h : LstIn μ x ds) : EvT K (tTru K ta) ρ μ (!ds.isEmpty) := wt_truL (ha.go ⟨ds, h, rfl, rfl⟩)
theorem s_retS {P : D → Mu → Prop} {μ0 : Mu} (h : Ev K te ρ μ d) (sb : μ0.sub μ) (k : P d μ0) : PW K (tRet te) ρ μ (retO P) := pw_ret (h.go ⟨μ0, sb, k⟩)
theorem Mu.sub_off {μ : Mu} {o : MO} (h : μ a = none) : μ.sub (fun b => if b = a then none else (μ.upd a o) b) := fun b u e => by
  have : b ≠ a := fun z => by rw [z, h] at e; cases e
  show (if b = a then none else (μ.upd a o) b) = some u
  rw [if_neg this, Mu.upd_ne this]; exact e
/-- t[i] of a list cell, any i -/
theorem ev_ixC {i : Int} (ha : Ev K ta ρ μ (.raw (.ref a))) (hb : Ev K tb ρ μ (.int i)) (hm : μ a = some (.lst ds)) (h : atI ds i = some d) : Ev K (tOp (rIx K) ta tb) ρ μ d := ev_op ha hb (ro_ix (.inr (.inr (.inr ⟨a, rfl, hm⟩))) h ⟨rfl, rfl⟩)
/-- xs.append(e) of a cell -/
theorem s_app {to : TE} (h : Ev K to ρ μ (.raw (.ref a))) (hm : μ a = some (.lst ds)) (he : Ev K te ρ μ d) (hz : ds.length < sizeLine) (k : Φ (.nx ρ (μ.upd a (.lst (ds ++ [d]))))) : PW K (tDrop (tBM K "list" rAppend to (tCons te tNil))) ρ μ Φ :=
  pw_drop (we_append (h.go ⟨a, ds, rfl, hm, he.go ⟨ds, hm, hz, k⟩⟩))
theorem q_app {to : TE} {tz : TS} (h : Ev K to ρ μ (.raw (.ref a))) (hm : μ a = some (.lst ds)) (he : Ev K te ρ μ d) (hz : ds.length < sizeLine) (k : PW K tz ρ (μ.upd a (.lst (ds ++ [d]))) Φ) : PW K (tSeq (tDrop (tBM K "list" rAppend to (tCons te tNil))) tz) ρ μ Φ :=
  pw_seq (s_app h hm he hz k)
/-- name = [] -/
theorem q_new {i : Nat} {tz : TS} (k : ∀ a, μ a = none → PW K tz (ρ.set i (some (.raw (.ref a)))) (μ.upd a (.lst [])) Φ) : PW K (tSeq (tAsg (tLst tNil) (gName i)) tz) ρ μ Φ := pw_seq (pw_set (we_lstN (wa_nil ⟨sz_of (by decide), k⟩)))
theorem s_new {i : Nat} (k : ∀ a, μ a = none → Φ (.nx (ρ.set i (some (.raw (.ref a)))) (μ.upd a (.lst [])))) : PW K (tAsg (tLst tNil) (gName i)) ρ μ Φ := pw_set (we_lstN (wa_nil ⟨sz_of (by decide), k⟩))
/-- name = {} -/
theorem q_newD {i : Nat} {tz : TS} (k : ∀ a, μ a = none → PW K tz (ρ.set i (some (.raw (.ref a)))) (μ.upd a (.dct [])) Φ) : PW K (tSeq (tAsg tDNewT (gName i)) tz) ρ μ Φ := pw_seq (pw_set (we_dctN k))
end
section
variable {P : Program} {w : World} {K : PySem.W.Frag} {mg : Str → Option Value} {base : Heap}
theorem sc_joined : FnScope ["row", "found", "origin", "amount"] ["row"] (defScope s_joined) := ⟨rfl, rfl, rfl, by decide +kernel, rfl, by decide +kernel, by decide +kernel⟩
-- joined: 0 row, 1 found, 2 origin, 3 amount
def S_joined : Spec := fun ds μ Q => ∃ (r : Row), ds = [rowD r] ∧ r.length ≤ 10000 ∧ Q (rowD (joinRow r)) μ
theorem len_joined : S_joined.len 1 := fun ds μ Q h => by obtain ⟨_, rfl, _⟩ := h; rfl
theorem mono_joined : Mono S_joined := fun ds μ P P' f h => by obtain ⟨r, e, h, q⟩ := h; exact ⟨r, e, h, f _ _ q⟩
theorem c_joined (Fx : Fx K mg) : Cal P w K mg base 1 "joined" S_joined := by
  have hlen : Spec.len S_joined 1 := len_joined
  obtain ⟨fd, F⟩ := Fx.c.def_ 13 (d := d_joined) rfl
  refine ⟨_, fd, ["row"], fnok F sc_joined hlen (fun cdv A outer s H E hr => ?_), Fx.glo 13, F.kp, FunD.bindsN F fun _ _ _ _ _ _ us hl => match us, hl with | [_], _ => rfl⟩
  have hu := hu_of hr
  have nd := sc_joined.nd
  refine ⟨_, (pss_cons (ps_set (i := 1) nd rfl (by first | exact Or.inl rfl | exact Or.inr rfl) (pe_lst pa_nil))
      (pss_cons (ps_for PassesOwn.never rfl (k_list_ (K := K) (pv 0)) (pg_tup rfl (pgs_cons (pg_name (i := 2) nd rfl (by first | exact Or.inl rfl | exact Or.inr rfl)) (pgs_cons (pg_name (i := 3) nd rfl (by first | exact Or.inl rfl | exact Or.inr rfl)) pgs_nil))) (pss_one (ps_if (PW.pt (pw_and (pt_cmpR op_gt (pv 3) pe_int (nomark _)) (pw_and (k_tru (K := K) (pv 1)) (pw_and1 (pt_cmpR (k_eqD (K := K) hr.units) (pe_ix (k_ix (K := K)) (pe_ix (k_ix (K := K)) (pv 1) (pe_un un_neg pe_int) (fun _ _ => rfl)) pe_int (fun _ _ => rfl)) (pv 2) (nomark _)))))) (pss_one (ps_asg (pe_tup (pa_cons (pv 2) (pa_cons (pe_op op_add (pe_ix (k_ix (K := K)) (pe_ix (k_ix (K := K)) (pv 1) (pe_un un_neg pe_int) (fun _ _ => rfl)) pe_int (fun _ _ => rfl)) (pv 3)) pa_nil))) (pg_sub (pv 1) (pe_un un_neg pe_int) set_list))) (pss_one (ps_if (pt_cmpR op_gt (pv 3) pe_int (nomark _)) (pss_one (ps_expr (pe_bm PySem.F.plainAttrs_list PySem.F.slot_list_append PySem.F.type_list_append mt_append (pv 1) (pa_cons (pe_tup (pa_cons (pv 2) (pa_cons (pv 3) pa_nil))) pa_nil)))) pss_nil)))))
      (pss_one (ps_ret (pv 1))))), fun ds μ Pq hS => ?_⟩
  obtain ⟨r, rfl, hr, q⟩ := hS
  refine q_new fun a ha => ?_
  refine pw_seq (pw_for (fun i ρ μ' => μ' = μ.upd a (.lst ((joinRow (r.take i)).map parD)) ∧ ∃ b c, ρ = [some (rowD r), some (.raw (.ref a)), b, c]) ?_)
  refine wi_lstE (V' (d := rowD r) 0) ⟨⟨rfl, _, _, rfl⟩, fun _ _ _ _ => trivial, ?_, ?_⟩
  · rintro i d ρ μ3 hd ⟨rfl, b, c, rfl⟩
    rw [List.getElem?_map] at hd
    cases hp : r[i]? with
    | none => rw [hp] at hd; cases hd
    | some p =>
      rw [hp] at hd; cases hd
      obtain ⟨o, am⟩ := p
      have hj : joinRow (r.take (i + 1)) = joinStep (joinRow (r.take i)) (o, am) := foldl_take _ _ _ _ _ hp
      have hlen : (joinRow (r.take i)).length < 100000 := by
        have h1 := joinRow_len (r.take i)
        rw [List.length_take] at h1
        omega
      generalize joinRow (r.take i) = acc at hj hlen
      rw [hj]
      refine wg_tup rfl (wgs_cons (wg_name (wgs_cons (wg_name (wgs_nil ?_)))))
      refine PW.to (ρ' := [some (rowD r), some (.raw (.ref a)), some (orgD o), some (.int am)]) (μ' := μ.upd a (.lst ((joinStep acc (o, am)).map parD))) ?_ ⟨rfl, _, _, rfl⟩
      by_cases h0 : 0 < am
      · have app : joinStep acc (o, am) = acc ++ [(o, am)] → PW K (tIfS (tTest (tOp (rI0 fun i j => .bl (decide (j < i))) (tVar 3) (tC (.int 0)))) (tDrop (tBM K "list" rAppend (tVar 1) (tCons (tTup (tCons (tVar 2) (tCons (tVar 3) tNil))) tNil))) tNext) [some (rowD r), some (.raw (.ref a)), some (orgD o), some (.int am)] (μ.upd a (.lst (acc.map parD))) (fun o' => o' = .nx [some (rowD r), some (.raw (.ref a)), some (orgD o), some (.int am)] (μ.upd a (.lst ((joinStep acc (o, am)).map parD)))) := fun e => by
          refine pw_ifE (et_test (ev_gt (V' 3) ev_int)) (fun h => ?_) (fun h => absurd h0 (of_decide_eq_false h))
          refine s_app (ds := acc.map parD) (V' 1) Mu.upd_same (ev_tup (ea_cons (V' 2) (ea_cons (V' 3) ea_nil))) (sz_lt (by rw [List.length_map]; exact hlen)) ?_
          rw [Mu.upd_upd, e, List.map_append]; rfl
        rcases nil_or_snoc acc with e | ⟨ini, l, e⟩
        · subst e
          refine pw_ifE (b := true && (false && false)) (et_and (by rw [← decide_eq_true h0]; exact et_test (ev_gt (V' 3) ev_int)) (fun _ => et_and (et_truL (ds := []) (V' 1) (.inr ⟨a, rfl, Mu.upd_same⟩)) (fun h => by cases h))) (fun h => by cases h) (fun _ => app ?_)
          unfold joinStep
          rw [if_pos h0]; rfl
        · subst e
          have hm : (μ.upd a (.lst ((ini ++ [l]).map parD))) a = some (.lst (ini.map parD ++ [parD l])) := by rw [Mu.upd_same, List.map_append]; rfl
          have last : Ev K (tOp (rIx K) (tVar 1) (tUn (rU fun i => .int (-i)) (tC (.int 1)))) [some (rowD r), some (.raw (.ref a)), some (orgD o), some (.int am)] (μ.upd a (.lst ((ini ++ [l]).map parD))) (parD l) := ev_ixC (V' 1) (ev_neg ev_int) hm (atI_last _ _)
          refine pw_ifE (b := true && (true && decide (l.1 = o))) (et_and (by rw [← decide_eq_true h0]; exact et_test (ev_gt (V' 3) ev_int)) (fun _ => et_and ?_ (fun _ => et_test (ev_eqD (ev_ix last ev_int) (V' 2) (eqv_org _ _) (ok_org _) (ok_org _) (sh_org _) (sh_org _))))) (fun h => ?_) (fun h => app ?_)
          · have h1 := et_truL (V' (ρ := [some (rowD r), some (.raw (.ref a)), some (orgD o), some (.int am)]) 1) (.inr ⟨a, rfl, hm⟩) (K := K)
            have h2 : (!(ini.map parD ++ [parD l]).isEmpty) = true := by simp
            rw [h2] at h1; exact h1
          · have h1 : l.1 = o := by simpa using h
            have es : joinStep (ini ++ [l]) (o, am) = ini ++ [(o, l.2 + am)] := by
              unfold joinStep
              rw [if_pos h0, List.getLast?_concat]
              simp [h1]
            rw [es]
            refine pw_asg (Ev.go (ev_tup (ea_cons (V' 2) (ea_cons (ev_add (ev_ix last ev_int) (V' 3)) ea_nil))) (wg_subL (Ev.go (V' 1) (Ev.go (ev_neg ev_int) ⟨a, _, _, _, rfl, rfl, hm, ixN_last _ _, ?_⟩))))
            rw [Mu.upd_upd, List.length_map, ← List.length_map (f := parD), set_last, List.map_append]; rfl
          · have h1 : ¬ l.1 = o := by simpa using h
            unfold joinStep
            rw [if_pos h0, List.getLast?_concat]
            simp [h1]
      · have es : joinStep acc (o, am) = acc := by unfold joinStep; rw [if_neg h0]
        rw [es]
        have t1 : EvT K (tTest (tOp (rI0 fun i j => .bl (decide (j < i))) (tVar 3) (tC (.int 0)))) [some (rowD r), some (.raw (.ref a)), some (orgD o), some (.int am)] (μ.upd a (.lst (acc.map parD))) false := by
          rw [← decide_eq_false h0]; exact et_test (ev_gt (V' 3) ev_int)
        exact pw_ifE (b := false && false) (et_and t1 (fun h => by cases h)) (fun h => by cases h) (fun _ => pw_ifE t1 (fun h => by cases h) (fun _ => pw_next rfl))
  · rintro ρ μ3 ⟨rfl, b, c, rfl⟩
    rw [List.length_map, List.take_length]
    exact pw_freezeL (i := 1) rfl Mu.upd_same (s_retS (V' 1) (Mu.sub_off ha) q)
theorem sc_parted : FnScope ["row", "amount", "front", "rest", "origin", "size", "part"] ["row", "amount"] (defScope s_parted) := ⟨rfl, rfl, rfl, by decide +kernel, rfl, by decide +kernel, by decide +kernel⟩
-- parted: 0 row, 1 amount, 2 front, 3 rest, 4 origin, 5 size, 6 part
def S_parted : Spec := fun ds μ Q => ∃ (r : Row) (am : Int), ds = [rowD r, .int am] ∧ r.length ≤ 10000 ∧ Q (.tup [rowD (joinRow (partRow r am).front), rowD (joinRow (partRow r am).rest)]) μ
theorem len_parted : S_parted.len 2 := fun ds μ Q h => by obtain ⟨_, _, rfl, _⟩ := h; rfl
theorem mono_parted : Mono S_parted := fun ds μ P P' f h => by obtain ⟨r, a, e, h, q⟩ := h; exact ⟨r, a, e, h, f _ _ q⟩
theorem c_parted (Fx : Fx K mg) : Cal P w K mg base 2 "parted" S_parted := by
  have hlen : Spec.len S_parted 2 := len_parted
  obtain ⟨fd, F⟩ := Fx.c.def_ 14 (d := d_parted) rfl
  refine ⟨_, fd, ["row", "amount"], fnok F sc_parted hlen (fun cdv A outer s H E hr => ?_), Fx.glo 14, F.kp, FunD.bindsN F fun _ _ _ _ _ _ us hl => match us, hl with | [_, _], _ => rfl⟩
  have hu := hu_of hr
  have nd := sc_parted.nd
  refine ⟨_, (pss_cons (ps_set (i := 2) nd rfl (by first | exact Or.inl rfl | exact Or.inr rfl) (pe_lst pa_nil))
      (pss_cons (ps_set (i := 3) nd rfl (by first | exact Or.inl rfl | exact Or.inr rfl) (pe_lst pa_nil))
      (pss_cons (ps_for PassesOwn.never rfl (k_list_ (K := K) (pv 0)) (pg_tup rfl (pgs_cons (pg_name (i := 4) nd rfl (by first | exact Or.inl rfl | exact Or.inr rfl)) (pgs_cons (pg_name (i := 5) nd rfl (by first | exact Or.inl rfl | exact Or.inr rfl)) pgs_nil))) (pss_cons (ps_set (i := 6) nd rfl (by first | exact Or.inl rfl | exact Or.inr rfl) (pe_callB (call_minA rfl) (by rfl) (Fx.free 103) (by decide +kernel) (pa_cons (pv 5) (pa_cons (pv 1) pa_nil))))
      (pss_cons (ps_aug (i := 1) nd rfl (by first | exact Or.inl rfl | exact Or.inr rfl) (pv 6) ip_sub)
      (pss_cons (ps_expr (pe_bm PySem.F.plainAttrs_list PySem.F.slot_list_append PySem.F.type_list_append mt_append (pv 2) (pa_cons (pe_tup (pa_cons (pv 4) (pa_cons (pv 6) pa_nil))) pa_nil)))
      (pss_one (ps_expr (pe_bm PySem.F.plainAttrs_list PySem.F.slot_list_append PySem.F.type_list_append mt_append (pv 3) (pa_cons (pe_tup (pa_cons (pv 4) (pa_cons (pe_op op_sub (pv 5) (pv 6)) pa_nil))) pa_nil))))))))
      (pss_one (ps_ret (pe_tup (pa_cons (k_cal (c_joined Fx) hr (by decide) rfl (pa_cons (pv 2) pa_nil)) (pa_cons (k_cal (c_joined Fx) hr (by decide) rfl (pa_cons (pv 3) pa_nil)) pa_nil)))))))), fun ds μ Pq hS => ?_⟩
  obtain ⟨r, am, rfl, hr, q⟩ := hS
  refine q_new fun a ha => q_new fun b hb => ?_
  have hab : a ≠ b := fun e => by rw [← e, Mu.upd_same] at hb; cases hb
  have hb0 : μ b = none := by rw [Mu.upd_ne (Ne.symm hab)] at hb; exact hb
  refine pw_seq (pw_for (fun i ρ μ' => μ' = (μ.upd a (.lst ((partRow (r.take i) am).front.map parD))).upd b (.lst ((partRow (r.take i) am).rest.map parD)) ∧ ∃ u v x, ρ = [some (rowD r), some (.int (partRow (r.take i) am).left), some (.raw (.ref a)), some (.raw (.ref b)), u, v, x]) ?_)
  refine wi_lstE (V' (d := rowD r) 0) ⟨⟨rfl, _, _, _, rfl⟩, fun _ _ _ _ => trivial, ?_, ?_⟩
  · rintro i d ρ μ3 hd ⟨rfl, u, v, x, rfl⟩
    rw [List.getElem?_map] at hd
    cases hp : r[i]? with
    | none => rw [hp] at hd; cases hd
    | some p =>
      rw [hp] at hd; cases hd
      obtain ⟨o, z⟩ := p
      have hj : partRow (r.take (i + 1)) am = partStep (partRow (r.take i) am) (o, z) := foldl_take _ _ _ _ _ hp
      have hlen := partRow_len (r.take i) am
      rw [List.length_take] at hlen
      generalize partRow (r.take i) am = s at hj hlen
      rw [hj]
      refine wg_tup rfl (wgs_cons (wg_name (wgs_cons (wg_name (wgs_nil ?_)))))
      refine q_set (ev_min2 (V' 5) (V' 1)) (pw_seq (pw_aug rfl ((V' 6).go ⟨_, rfl, ?_⟩)))
      refine q_app (ds := s.front.map parD) (V' 2) (by rw [Mu.upd_ne hab, Mu.upd_same]) (ev_tup (ea_cons (V' 4) (ea_cons (V' 6) ea_nil))) (sz_lt (by rw [List.length_map]; omega)) ?_
      refine s_app (ds := s.rest.map parD) (V' 3) (by rw [Mu.upd_ne (Ne.symm hab), Mu.upd_same]) (ev_tup (ea_cons (V' 4) (ea_cons (ev_sub (V' 5) (V' 6)) ea_nil))) (sz_lt (by rw [List.length_map]; omega)) ?_
      refine ⟨?_, _, _, _, rfl⟩
      rw [Mu.upd_comm (Ne.symm hab), Mu.upd_upd, Mu.upd_upd]
      show _ = (μ.upd a (.lst ((s.front ++ [(o, min z s.left)]).map parD))).upd b (.lst ((s.rest ++ [(o, z - min z s.left)]).map parD))
      rw [List.map_append, List.map_append]; rfl
  · rintro ρ μ3 ⟨rfl, u, v, x, rfl⟩
    rw [List.length_map, List.take_length]
    have hlen := partRow_len r am
    refine pw_freezeL (i := 3) rfl Mu.upd_same (pw_freezeL (i := 2) (a := a) (ds := (partRow r am).front.map parD) rfl ?_ ?_)
    · rw [if_neg hab, Mu.upd_ne hab, Mu.upd_same]
    refine s_retS (ev_tup (ea_cons (ev_call (ea_cons (V' (d := rowD (partRow r am).front) 2) ea_nil) ⟨_, rfl, by omega, rfl, rfl⟩ mono_joined) (ea_cons (ev_call (ea_cons (V' (d := rowD (partRow r am).rest) 3) ea_nil) ⟨_, rfl, by omega, rfl, rfl⟩ mono_joined) ea_nil))) ?_ q
    intro c o e
    have h1 : c ≠ a := fun z => by rw [z, ha] at e; cases e
    have h2 : c ≠ b := fun z => by rw [z, hb0] at e; cases e
    show (if c = a then none else if c = b then none else _) = some o
    rw [if_neg h1, if_neg h2, Mu.upd_ne h2, Mu.upd_ne h1]; exact e
end
end Hw
set_option Elab.async false
set_option linter.all false
set_option maxRecDepth 100000
set_option maxHeartbeats 4000000
/-! Tables by cells; cells sorted. -/
namespace Hw
open PySem PySem.Spec L2
def cellK (c : Cell) : List Key := [.inl (c.1 : Int), .inl (c.2 : Int)]
theorem cellK_inj {a b : Cell} (h : cellK a = cellK b) : a = b := by
  obtain ⟨a1, a2⟩ := a
  obtain ⟨b1, b2⟩ := b
  unfold cellK at h
  simp at h
  obtain ⟨h1, h2⟩ := h
  have e1 : a1 = b1 := by omega
  have e2 : a2 = b2 := by omega
  rw [e1, e2]
theorem cellK_of (c : Cell) : keysOf (cellD c) = some (cellK c) := rfl
theorem keys2 (i j : Nat) : keysOf (.tup [.int (i : Int), .int (j : Int)]) = some (cellK (i, j)) := rfl
/-- a dict by cells: what stands in it -/
def Tbl {α : Type} (g : α → D) (μ : Mu) (a : Addr) (dom : Cell → Prop) (f : Cell → α) (n : Nat) : Prop := ∃ m, μ a = some (.dct m) ∧ m.length ≤ n ∧ ∀ c, (dom c → look m (cellK c) = some (g (f c))) ∧ (¬ dom c → look m (cellK c) = none)
section
variable {α : Type} {g : α → D} {μ : Mu} {a b : Addr} {dom : Cell → Prop} {f : Cell → α} {n : Nat}
theorem Tbl.fr {μ' : Mu} (h : Tbl g μ a dom f n) (e : μ' a = μ a) : Tbl g μ' a dom f n := by
  obtain ⟨m, h1, h2⟩ := h
  exact ⟨m, by rw [e]; exact h1, h2⟩
theorem Tbl.new : Tbl g (μ.upd a (.dct [])) a (fun _ => False) f 0 := ⟨[], Mu.upd_same, Nat.le_refl _, fun c => ⟨fun h => h.elim, fun _ => rfl⟩⟩
theorem Tbl.cong {dom' : Cell → Prop} {f' : Cell → α} {n' : Nat} (h : Tbl g μ a dom f n) (hd : ∀ c, dom' c ↔ dom c) (hf : ∀ c, dom c → f' c = f c) (hn : n ≤ n') : Tbl g μ a dom' f' n' := by
  obtain ⟨m, h1, h2, h3⟩ := h
  exact ⟨m, h1, Nat.le_trans h2 hn, fun c => ⟨fun z => by rw [hf c ((hd c).mp z)]; exact (h3 c).1 ((hd c).mp z), fun z => (h3 c).2 fun y => z ((hd c).mpr y)⟩⟩
theorem Tbl.put {m : List (List Key × D)} {c : Cell} {y : α} (hm : m.length ≤ n) (h : ∀ c, (dom c → look m (cellK c) = some (g (f c))) ∧ (¬ dom c → look m (cellK c) = none)) :
    Tbl g (μ.upd a (.dct (put m (cellK c) (g y)))) a (fun x => x = c ∨ dom x) (fun x => if x = c then y else f x) (n + 1) := by
  refine ⟨_, Mu.upd_same, Nat.le_trans (put_len _ _ _) (by omega), fun x => ?_⟩
  rw [look_put]
  by_cases e : x = c
  · rw [if_pos (by rw [e])]
    exact ⟨fun _ => by show _ = some (g (if x = c then y else f x)); rw [if_pos e], fun z => absurd (.inl e) z⟩
  · rw [if_neg (fun z => e (cellK_inj z))]
    show (_ → _ = some (g (if x = c then y else f x))) ∧ _
    rw [if_neg e]
    exact ⟨fun z => (h x).1 (z.elim (fun w => absurd w e) id), fun z => (h x).2 fun w => z (.inr w)⟩
end
section
variable {K : PySem.W.Frag} {G G' H H' G0 H0 : Hp} {σ : L2.St} {ρ : List (Option D)} {μ : Mu} {a : Addr} {te ta tb tc : TE} {P : D → Mu → Prop} {x y z d e : D} {t : TA} {ds es : List D} {Φ : Out → Prop}
/-- o[k] = v of a dict cell, as a target -/
theorem wg_subD {Ψ : List (Option D) → Mu → Prop} {to ti : TE} (h : WE K to ρ μ fun o μ1 => WE K ti ρ μ1 fun ix μ2 => ∃ a m k, o = .raw (.ref a) ∧ keysOf ix = some k ∧ μ2 a = some (.dct m) ∧ m.length < sizeLine ∧ Ψ ρ (μ2.upd a (.dct (put m k d)))) : WG K (gSub to ti rSetD) d ρ μ Ψ := fun G0 H0 G H σ v A iv Q q =>
  h G0 H0 G H σ A _ fun u o μ1 G1 H1 w e1 A1 i1 => w G0 H0 G1 H1 σ A1 _ fun u2 ix μ2 G2 H2 p e2 A2 i2 => by
    obtain ⟨a, m, k, rfl, hk, hm, hz, p⟩ := p
    cases i1
    obtain ⟨_, _, kvs, h1, h2⟩ := A2.rep a _ hm
    obtain ⟨b, rfl, hb⟩ := keysOf_ok hk i2
    exact ⟨a, _, rfl, DPut.t h1 (A2.gh _ _ hb) (by rw [h2.len]; exact hz), q _ _ _ _ _ p (e1.trans e2) (A2.write hm ⟨_, L2.upd_same, h2.put (iv.mono (e1.trans e2))⟩)⟩
theorem wg_subDE {Ψ : List (Option D) → Mu → Prop} {to ti : TE} {m : List (List Key × D)} {k : List Key} (h1 : Ev K to ρ μ (.raw (.ref a))) (h2 : Ev K ti ρ μ x) (hk : keysOf x = some k) (hm : μ a = some (.dct m)) (hz : m.length < sizeLine) (p : Ψ ρ (μ.upd a (.dct (put m k d)))) : WG K (gSub to ti rSetD) d ρ μ Ψ :=
  wg_subD (h1.go (h2.go ⟨a, m, k, rfl, hk, hm, hz, p⟩))
/-- d[k] of a table cell -/
theorem ev_tbl {α : Type} {g : α → D} {dom : Cell → Prop} {f : Cell → α} {n : Nat} {c : Cell} (h1 : Ev K ta ρ μ (.raw (.ref a))) (h2 : Ev K tb ρ μ y) (hk : keysOf y = some (cellK c)) (T : Tbl g μ a dom f n) (hc : dom c) : Ev K (tDGet ta tb) ρ μ (g (f c)) := by
  obtain ⟨m, hm, _, hl⟩ := T
  exact ev_dget h1 h2 (.inr ⟨a, rfl, hm⟩) hk ((hl c).1 hc)
end

/-! ### sorted -/
def cellLt (a b : Cell) : Prop := a.1 < b.1 ∨ (a.1 = b.1 ∧ a.2 < b.2)
section
variable {K : PySem.W.Frag} {G H : Hp}
theorem perm_lift {xs ys : List V} (p : ys.Perm xs) : ∀ {cs : List Cell}, IsL K G (cs.map cellD) xs → ∃ cs' : List Cell, cs'.Perm cs ∧ IsL K G (cs'.map cellD) ys := by
  induction p with
  | nil => intro cs h; exact ⟨cs, List.Perm.refl _, h⟩
  | cons x p ih =>
    intro cs h
    cases cs with
    | nil => cases h
    | cons c cs =>
      obtain ⟨y, r, e, i, l⟩ := h
      cases e
      obtain ⟨cs', p1, l1⟩ := ih l
      exact ⟨c :: cs', p1.cons c, ⟨_, _, rfl, i, l1⟩⟩
  | swap x y l =>
    intro cs h
    cases cs with
    | nil => cases h
    | cons c cs =>
      cases cs with
      | nil =>
        obtain ⟨y, r, e, i, l⟩ := h
        cases e
        cases l
      | cons c2 cs =>
        obtain ⟨_, _, e, i, y2, r2, e2, i2, l⟩ := h
        cases e; cases e2
        exact ⟨c2 :: c :: cs, List.Perm.swap _ _ _, ⟨_, _, rfl, i2, _, _, rfl, i, l⟩⟩
  | trans p1 p2 ih1 ih2 =>
    intro cs h
    obtain ⟨c1, q1, l1⟩ := ih2 h
    obtain ⟨c2, q2, l2⟩ := ih1 l1
    exact ⟨c2, q2.trans q1, l2⟩
def keyAt (H : Hp) : V → Int × Int
  | .ref t => match H t with
    | some (.tup [.int a, .int b]) => (a, b)
    | _ => (0, 0)
  | _ => (0, 0)
theorem keyAt_cell {c : Cell} {v : V} (e : Ex G H) (h : Is K G (cellD c) v) : keyAt H v = ((c.1 : Int), (c.2 : Int)) ∧ ∃ t, v = .ref t ∧ H t = some (.tup [.int (c.1 : Int), .int (c.2 : Int)]) := by
  obtain ⟨t, xs, rfl, s, y1, r1, rfl, i1, y2, r2, rfl, i2, e3⟩ := h
  cases i1; cases i2; cases e3
  have := e _ _ s
  refine ⟨?_, t, rfl, this⟩
  show (match H t with
    | some (.tup [.int a, .int b]) => (a, b)
    | _ => (0, 0)) = _
  rw [this]
theorem srtd_lift (e : Ex G H) : ∀ {cs : List Cell} {ys : List V}, IsL K G (cs.map cellD) ys → SrtO.Srtd (ltP (keyAt H)) ys → cs.Pairwise fun a b => ¬ cellLt b a
  | [], _, _, _ => .nil
  | c :: cs, _, h, s => by
    obtain ⟨x, r, rfl, i, l⟩ := h
    have s2 := List.pairwise_cons.mp s
    refine List.pairwise_cons.mpr ⟨fun b hb => ?_, srtd_lift e l s2.2⟩
    obtain ⟨j, hj⟩ := List.mem_iff_getElem?.mp hb
    obtain ⟨y, hy, iy⟩ := l.get (i := j) (d := cellD b) (by rw [List.getElem?_map, hj]; rfl)
    have h1 := s2.1 y (List.mem_of_getElem? hy)
    have h2 := SrtO.lexB_no.mp h1
    rw [(keyAt_cell e i).1, (keyAt_cell e iy).1] at h2
    unfold cellLt
    simp only at h2
    omega
theorem rb_sorted {ρ0 : List (Option D)} {μ : Mu} {x : D} {P : D → Mu → Prop} {cs : List Cell} (h : LstIn μ x (cs.map cellD)) (p : ∀ ys : List Cell, ys.Perm cs → ys.Pairwise (fun a b => ¬ cellLt b a) → P (cellsD ys) μ) : RB K (rSortedPO K) [x] μ P := fun G0 H0 G H ρ σ vs A l Q q => by
  obtain ⟨v, r, rfl, i, e⟩ := l
  cases e
  obtain ⟨a, xs, rfl, s, l⟩ := A.lst h i
  have hx : ∀ y ∈ xs, ∃ c : Cell, Is K G (cellD c) y := fun y hy => by
    obtain ⟨j, hj⟩ := List.mem_iff_getElem?.mp hy
    obtain ⟨d, hd, iy⟩ := l.getV hj
    rw [List.getElem?_map] at hd
    cases hc : cs[j]? with
    | none => rw [hc] at hd; cases hd
    | some c => rw [hc] at hd; cases hd; exact ⟨c, iy⟩
  refine ⟨a, xs, keyAt H, rfl, SqL.of s, fun y hy => ?_, fun ys c h1 h2 hc => ?_⟩
  · obtain ⟨cc, iy⟩ := hx y hy
    obtain ⟨k1, t, k2, k3⟩ := keyAt_cell A.gh iy
    exact ⟨t, k2, by rw [k1]; exact k3⟩
  · obtain ⟨cs', p1, l1⟩ := perm_lift h2.perm l
    have s1 := srtd_lift A.gh l1 h1
    have eg : Ex G (L2.upd G c (.lst ys)) := Ex.new (A.gh.off hc)
    exact q _ _ μ _ _ (p cs' p1 s1) eg (A.laid hc) ⟨c, _, rfl, L2.upd_same, l1.mono eg⟩
end
/-- a list that rises by the first parts is told by its members -/
theorem rise_uniq : ∀ {l m : List Cell}, l.Pairwise (fun a b => a.1 < b.1) → m.Pairwise (fun a b => a.1 < b.1) → (∀ c, c ∈ l ↔ c ∈ m) → l = m
  | [], [], _, _, _ => rfl
  | [], b :: m, _, _, h => by have := (h b).mpr (List.mem_cons_self ..); cases this
  | a :: l, [], _, _, h => by have := (h a).mp (List.mem_cons_self ..); cases this
  | a :: l, b :: m, hl, hm, h => by
    have l1 := List.pairwise_cons.mp hl
    have m1 := List.pairwise_cons.mp hm
    have e : a = b := by
      rcases List.mem_cons.mp ((h a).mp (List.mem_cons_self ..)) with e | e
      · exact e
      · rcases List.mem_cons.mp ((h b).mpr (List.mem_cons_self ..)) with f | f
        · exact f.symm
        · have x1 := m1.1 a e
          have x2 := l1.1 b f
          omega
    subst e
    congr 1
    refine rise_uniq l1.2 m1.2 fun c => ⟨fun hc => ?_, fun hc => ?_⟩
    · rcases List.mem_cons.mp ((h c).mp (List.mem_cons_of_mem _ hc)) with e | e
      · have := l1.1 c hc; rw [e] at this; omega
      · exact e
    · rcases List.mem_cons.mp ((h c).mpr (List.mem_cons_of_mem _ hc)) with e | e
      · have := m1.1 c hc; rw [e] at this; omega
      · exact e
/-- the cells that let down to c, by sites -/
def Basin.ups (B : Basin) (c : Cell) : List Cell := (List.range c.1).filterMap fun j => if (B.at j).next = some c.1 ∧ (B.at j).travel ≤ c.2 then some (j, c.2 - (B.at j).travel) else none
theorem mem_letFrom {B : Basin} {c o : Cell} : o ∈ B.letFrom c ↔ B.In o ∧ B.letTo o = some c := by
  unfold Basin.letFrom
  rw [List.mem_filter, mem_cells]; simp
theorem letTo_some {B : Basin} {o c : Cell} : B.letTo o = some c ↔ (B.at o.1).next = some c.1 ∧ o.2 + (B.at o.1).travel = c.2 ∧ c.2 < B.months := by
  unfold Basin.letTo
  cases h : (B.at o.1).next with
  | none => simp
  | some j =>
    simp only
    obtain ⟨c1, c2⟩ := c
    by_cases e : B.months ≤ o.2 + (B.at o.1).travel
    · rw [if_pos e]; simp; omega
    · rw [if_neg e]; simp; omega
theorem mem_ups {B : Basin} (ok : B.Ok) {c o : Cell} (hc : B.In c) : o ∈ B.ups c ↔ o ∈ B.letFrom c := by
  rw [mem_letFrom, letTo_some]
  unfold Basin.ups
  rw [List.mem_filterMap]
  constructor
  · rintro ⟨j, hj, e⟩
    rw [List.mem_range] at hj
    by_cases h : (B.at j).next = some c.1 ∧ (B.at j).travel ≤ c.2
    · rw [if_pos h] at e
      cases e
      have h1 := hc.1
      have h2 := hc.2
      refine ⟨⟨?_, ?_⟩, h.1, ?_, hc.2⟩
      · have h3 := List.mem_range.mp (List.mem_range.mpr hj); show j < B.sites.length; omega
      · show c.2 - _ < B.months; omega
      · have h4 := h.2; show c.2 - (B.at j).travel + (B.at j).travel = c.2; omega
    · rw [if_neg h] at e; cases e
  · rintro ⟨h1, h2, h3, h4⟩
    have hn := (ok.s h1.1).next _ h2
    refine ⟨o.1, List.mem_range.mpr hn.1, ?_⟩
    rw [if_pos ⟨h2, by omega⟩]
    obtain ⟨o1, o2⟩ := o
    simp only at h3 ⊢
    congr 2; omega
theorem ups_rise (B : Basin) (c : Cell) : (B.ups c).Pairwise (fun a b => a.1 < b.1) := by
  unfold Basin.ups
  rw [List.pairwise_filterMap]
  refine List.Pairwise.imp ?_ (List.pairwise_lt_range (n := c.1))
  intro a b hab x hx y hy
  split at hx
  · split at hy
    · cases hx; cases hy; exact hab
    · cases hy
  · cases hx
theorem sorted_ups {B : Basin} (ok : B.Ok) {c : Cell} (hc : B.In c) {ys : List Cell} (p : ys.Perm (B.letFrom c)) (s : ys.Pairwise fun a b => ¬ cellLt b a) : ys = B.ups c := by
  have nd : ys.Nodup := by
    refine (p.nodup_iff).mpr ?_
    have hn : B.cells.Nodup := by
      unfold Basin.cells
      have key : ∀ n, ((List.range n).map fun m => (List.range B.sites.length).map fun k => (k, m)).flatten.Nodup := fun n => by
        induction n with
        | zero => exact List.nodup_nil
        | succ n ih =>
          rw [List.range_succ, List.map_append, List.flatten_append]
          refine List.nodup_append.mpr ⟨ih, ?_, ?_⟩
          · simp only [List.map_cons, List.map_nil, List.flatten_cons, List.flatten_nil, List.append_nil]
            refine List.Pairwise.map _ (fun a b h => ?_) (List.nodup_range (n := B.sites.length))
            intro e; cases e; exact h rfl
          · intro a ha b hb e
            simp only [List.map_cons, List.map_nil, List.flatten_cons, List.flatten_nil, List.append_nil, List.mem_map, List.mem_range, List.mem_flatten] at ha hb
            obtain ⟨l, ⟨m, hm, rfl⟩, hl⟩ := ha
            obtain ⟨k, hk, rfl⟩ := List.mem_map.mp hl
            obtain ⟨k2, hk2, rfl⟩ := hb
            cases e; omega
      exact key _
    exact List.Pairwise.filter _ hn
  refine rise_uniq ?_ (ups_rise B c) fun o => by rw [mem_ups ok hc]; exact p.mem_iff
  have both := s.and nd
  refine List.Pairwise.imp_of_mem ?_ both
  intro a b ha hb h
  have ha2 := (mem_letFrom.mp (p.mem_iff.mp ha)).2
  have hb2 := (mem_letFrom.mp (p.mem_iff.mp hb)).2
  rw [letTo_some] at ha2 hb2
  obtain ⟨a1, a2⟩ := a
  obtain ⟨b1, b2⟩ := b
  unfold cellLt at h
  simp only at *
  by_cases e : a1 = b1
  · subst e
    have : a2 = b2 := by omega
    exact absurd (by rw [this]) h.2
  · omega
end Hw
set_option Elab.async false
set_option linter.all false
set_option maxRecDepth 100000
set_option maxHeartbeats 4000000
/-! {k: v for ..}, keys tuples of ints and texts. -/
namespace Hw
open PySem PySem.Spec L2 PyProof.Rows
section
variable {X : Cx}
/-- the store of one turn, the key a tuple -/
theorem hw_dset {pins : List (Addr × Obj)} {σ : L2.St} {H : Hp} {s : Shared} {E : Value → Shared → Prop} {T b : Addr} {kvs : List (List Key × V)} {k : List Key} {v : V} {r : Value} {Q : Unit → Shared → Prop} (hu : X.A.units + 1 < cLine) (I : Inv X pins σ H s)
    (e : H T = some (.dT kvs)) (hz : kvs.length < sizeLine) (eb : H b = some (.tup (k.map kV))) (rv : RelV v r) (h : ∀ s', Inv X pins σ (L2.upd H T (.dT (putK kvs k v))) s' → Q () s') : wpAny (model X.prog X.w) X.A (dictSet T (.ref b) r) Q E s := by
  obtain ⟨z0, sm, zs, kt, ds⟩ := dt_of I.hok e
  have fit : zs.length ≤ sizeLine := Paired.length kt ▸ z0
  refine wpAny_dictSet_heap (hsz := fit) (show X.A.units < cLine by omega) (key_of I.hok eb) ds fun h2 ds2 same => h _ ?_
  obtain ⟨ob, en, pp, g1, g2, g3, g4, _, g5⟩ := ds2
  have lz : (putK kvs k v).length ≤ sizeLine := Nat.le_trans (length_putK kvs k v) (by omega)
  refine d_write I (e ▸ True.intro) same ⟨ob, g1⟩ ⟨lz, sm, _, KT.keeps (kt.put k eb rv) (fun c cs ec => ?_), ob, en, pp, g1, g2, g3, g4, g5⟩
  exact (L2.upd_ne (ne_of ec e nofun)).trans ec
/-- {k: v for target in iter if ..}: T the new dict -/
def tDcT (wi : TI) (g : TG) (tt : TT) (tk tv : TE) (vs : List Nat) : TE := fun σ H Q => wi σ H fun J H1 => ∀ T, H1 T = none → ∃ Wi : Nat → Nat → Hp → Prop, (∃ m, Wi 0 m (L2.upd H1 T (.dT []))) ∧ ∀ i m H, Wi i m H →
  (J.stop i H ∧ Q (.ref T) H) ∨ (J.go i H ∧ ∃ Nx : Hp → Prop, (∀ H', Nx H' → ∃ m', m' < m ∧ Wi (i + 1) m' H') ∧ ∀ x H', J.yld i H x H' → g x (wipe σ vs) H' fun σ2 H2 => wipe σ2 vs = wipe σ vs ∧ tt σ2 H2 fun b H3 =>
    if b = true then tk σ2 H3 fun y H4 => tv σ2 H4 fun z H5 => ∃ kvs k b, y = .ref b ∧ H5 b = some (.tup (k.map kV)) ∧ H5 T = some (.dT kvs) ∧ kvs.length < sizeLine ∧ Nx (L2.upd H5 T (.dT (putK kvs k z))) else Nx H3)
theorem dcT_core {pins : List (Addr × Obj)} {s : Shared} {σ : L2.St} {H : Hp} {Q : VK} {pos' : Pos} {use : Option (Value → Sem Unit)} {Qf : Value → Shared → Prop} {kx vx tg iter : Expr} {ifs : List Expr} {scope : Scope} {own : List (Str × Nat)} {pos : Pos} {wi : TI} {g : TG} {tt : TT} {tk tv : TE} (hu : X.A.units + 1 < cLine) (hc : X.calm = true) (hN : X.N.Nodup) (I : Inv X pins σ H s) (hi : PI X tg iter wi) (ok : BlkOk X.N X.env.scope scope own)
    (hg : ∀ s H C cl fp, PG (X.blk s H scope (compEnvC scope cl C X.env) fp) tg g) (ht : ∀ s H C cl fp, PTs (X.blk s H scope (compEnvC scope cl C X.env) fp) ifs tt)
    (hk : ∀ s H C cl fp, PE (X.blk s H scope (compEnvC scope cl C X.env) fp) kx tk) (he : ∀ s H C cl fp, PE (X.blk s H scope (compEnvC scope cl C X.env) fp) vx tv) (hs : ∀ x, foldedSetIterable iter X.env x = pure x) (h : tDcT wi g tt tk tv (own.map (·.2)) σ H Q)
    (back : ∀ T C s' m H', Inv X pins σ H' s' → Q (.ref T) H' → s'.heap.Ns C m → FpOk X pins H' C → compPost (model X.prog X.w) X.A X.xe use Qf (.ref T) C (.ok .next) s') :
    wpAny (model X.prog X.w) X.A (comprehension (.DictComp kx vx [⟨tg, iter, ifs, 0⟩] scope pos) scope X.env pos' newDict false (eval iter X.env) use) Qf X.xe s := by
  have cells : ∀ y ∈ scope.names, y.2 = .free → ∃ c, X.env.cells.lookup y.1 = some c := fun y hy e => (ok.free y hy e).elim (fun k => I.ok.has _ (.inl k)) fun k => I.ok.has _ (.inr k)
  refine wpAny_comprehension_free rfl hs (closure_ok cells) ok.kind (fun y hy e => (ok.uniq y hy).trans (e ▸ rfl)) ?_
  refine thn (hi.run pins s σ H _ I h) fun xv s1 hx => thn hx fun itv s2 hy => ?_
  obtain ⟨it, fp, tn, J, Hi, rfl, Ii, T, sti, fi, q⟩ := hy
  refine wpAny_newObj_type (newEnv_comp ?_)
  -- the new dict stands at the heap's end
  obtain ⟨dA, hA⟩ : ∃ dA, dA = s2.heap.objs.size := ⟨_, rfl⟩
  rw [← hA]
  have freeA : Hi dA = none := Ii.hok.fresh (Nat.le_of_eq hA.symm)
  obtain ⟨Wi, ⟨m0, w0⟩, turn⟩ := q dA freeA
  obtain ⟨s3, hs3⟩ : ∃ s3 : Shared, s3 = { s2 with heap := s2.heap.push { cls := .type "dict", data := .dict #[] } } := ⟨_, rfl⟩
  have hp3 : s3.heap = s2.heap.push { cls := .type "dict", data := .dict #[] } := hs3 ▸ rfl
  have I3 : Inv X pins σ (L2.upd Hi dA (.dT [])) s3 := by
    rw [hs3, hA]; exact Ii.laid (t' := s2.toks) (fun c o e => Heap.get?_push_of_some _ e) (Nat.le_refl _) (dt_empty s2.heap Ii.big)
  rw [← hp3]
  have low : ∀ c ∈ fp, c < s2.heap.objs.size := fun c hc => let ⟨_, e, _⟩ := T.obj _ _ sti c hc; Heap.lt_size e
  have f3 : ∀ c ∈ fp, FpOk X pins (L2.upd Hi dA (.dT [])) c ∧ c < s3.heap.objs.size := fun c hc => by
    have lt := low c hc
    exact ⟨⟨by rw [L2.upd_ne (by rw [hA]; exact Nat.ne_of_lt lt)]; exact (fi c hc).1, (fi c hc).2⟩, by rw [hp3, Heap.size_push]; exact Nat.lt_succ_of_lt lt⟩
  have st3 : tn 0 s3.heap := T.keep _ _ _ sti fun c _ o e => by rw [hp3]; exact Heap.get?_push_of_some _ e
  have I4 := block_start I3 ok hN f3
  generalize hcl : cellsFrom (s3.heap.objs.size + 1) scope.names (cloFrom X.env.cells scope.names []) = cl at I4
  have pg := hg s3 (L2.upd Hi dA (.dT [])) s3.heap.objs.size cl fp; have pt := ht s3 (L2.upd Hi dA (.dT [])) s3.heap.objs.size cl fp
  have pk := hk s3 (L2.upd Hi dA (.dT [])) s3.heap.objs.size cl fp; have pe := he s3 (L2.upd Hi dA (.dT [])) s3.heap.objs.size cl fp
  show codeAny _ _ (.compStart (.DictComp kx vx [⟨tg, iter, ifs, 0⟩] scope pos) 0 (.ref it) (.ref dA) (compEnvC scope cl s3.heap.objs.size X.env)) (compPost (model X.prog X.w) X.A X.xe use Qf (.ref dA) s3.heap.objs.size) { s2 with heap := pushCells (s3.heap.push { cls := .type "dict", data := .dict #[] }) scope.names }
  have off : ∀ c ∈ fp, (L2.upd Hi dA (.dT [])) c = none := fun c hc => (f3 c hc).1.1
  generalize hce : compEnvC scope cl s3.heap.objs.size X.env = ce at I4 pg pt pk pe ⊢
  have cL : ce.locals = s3.heap.objs.size := hce ▸ rfl
  generalize hH3 : L2.upd Hi dA (.dT []) = H3 at I3 I4 pg pt pk pe w0 off f3
  obtain ⟨s4, hs4⟩ : ∃ s4 : Shared, s4 = { s3 with heap := pushCells (s3.heap.push { cls := .type "dict", data := .dict #[] }) scope.names } := ⟨_, rfl⟩
  have e4 : ({ s2 with heap := pushCells (s3.heap.push { cls := .type "dict", data := .dict #[] }) scope.names } : Shared) = s4 := by rw [hs4, hs3]
  rw [← hs4] at I4; rw [e4]
  have st4 : tn 0 s4.heap := T.keep _ _ _ st3 fun c _ o e => by rw [hs4]; exact pushCells_keeps _ _ _ _ (Heap.get?_push_of_some _ e)
  have stat : ∀ {τ : L2.St} {H' : Hp} {s' : Shared}, Inv (X.blk s3 H3 scope ce fp) [] τ H' s' → (∀ c ∈ fp, H' c = none) → ∀ c ∈ fp, FpOk (X.blk s3 H3 scope ce fp) [] H' c := fun I' hn c hc =>
    ⟨hn c hc, (I'.ok.exf c hc).1, I'.ok.exfs c hc, .inl hc, fun x z e => (I'.ok.exf c hc).2 x z e, fun p hp => absurd (show p ∈ ([] : List (Addr × Obj)) ++ [] from hp) nofun⟩
  have loop : codeAny (model X.prog X.w) X.A (.compLoop (.DictComp kx vx [⟨tg, iter, ifs, 0⟩] scope pos) 0 (.ref it) (.ref dA) ce) (compPost (model X.prog X.w) X.A X.xe use Qf (.ref dA) s3.heap.objs.size) s4 := by
    refine compLoop_anyD (fun n s' => ∃ j H', Inv (X.blk s3 H3 scope ce fp) [] (wipe σ (own.map (·.2))) H' s' ∧ tn j s'.heap ∧ (∀ c ∈ fp, H' c = none) ∧ Wi j n H') ?_ m0 ⟨0, H3, I4, st4, off, w0⟩
    rintro n s5 ⟨j, H5, I5, st5, n5, w5⟩
    rcases turn j n H5 w5 with ⟨stop, qq⟩ | ⟨go, Nx, hNx, step⟩
    · refine thnF (T.done (X.blk s3 H3 scope ce fp) rfl rfl rfl hc j [] s5 _ H5 (fun _ _ => False) I5 (stat I5 n5) st5 stop) fun r s6 ⟨hr, I6⟩ => ?_
      cases hr
      have I7 : Inv X pins σ H5 s6 := I3.call' (ch := fp) I6.os I6.base I6.hok I6.bare fun c hc => let ⟨z, _⟩ := f3 c hc; ⟨z.2.2.2.1, z.2.1, z.2.2.2.2.1, z.2.2.2.2.2⟩
      have nC : H5 s3.heap.objs.size = none := cL ▸ (show H5 ce.locals = none from I6.free)
      obtain ⟨m, hn, _⟩ := I6.loc
      exact back dA s3.heap.objs.size s6 m H5 I7 qq (cL ▸ (show s6.heap.Ns ce.locals m from hn)) (I3.fpOk (Nat.le_refl _) nC)
    · refine thnF (T.item (X.blk s3 H3 scope ce fp) rfl rfl rfl hc j [] s5 _ H5 (fun _ _ => False) I5 (stat I5 n5) st5 go) fun r s6 ⟨u, hr, h6⟩ => ?_
      cases hr
      refine thnF h6 fun _ s7 ⟨x, H7, I7, r7, y7, st7, n7⟩ => ?_
      refine thnF (pg.run _ s7 _ H7 x u _ (I7.pinned (stat I7 n7) (T.obj _ _ st7)) r7 (step x H7 y7)) fun _ s8 ⟨σ8, H8, I8, hw8, q8⟩ => ?_
      refine thnF (pt.run _ s8 σ8 H8 _ I8 q8) fun b s9 ⟨H9, I9, q9⟩ => ?_
      have fin : ∀ {s' : Shared} {H' : Hp}, Inv (X.blk s3 H3 scope ce fp) ([] ++ pinsAt fp s7.heap) σ8 H' s' → Nx H' → ∃ m, m < n ∧ ∃ j H', Inv (X.blk s3 H3 scope ce fp) [] (wipe σ (own.map (·.2))) H' s' ∧ tn j s'.heap ∧ (∀ c ∈ fp, H' c = none) ∧ Wi j m H' := fun {s' H'} I' nx => by
        obtain ⟨m', hm, w'⟩ := hNx H' nx
        have pin' : ∀ c ∈ fp, ∀ o, s7.heap.get? c = some o → s'.heap.get? c = some o ∧ H' c = none := fun c hc o e => let z := I'.pin (c, o) (List.mem_append_right _ (List.mem_append_right _ (mem_pinsAt hc e))); ⟨z.1, z.2.1⟩
        refine ⟨m', hm, j + 1, H', (I'.unpinned (pins := [])).weak (by rw [← hw8, wipe_length]) (fun l v e => (wipe_some (hw8 ▸ e)).1), T.keep _ _ _ st7 fun c hc o e => (pin' c hc o e).1, fun c hc => ?_, w'⟩
        let ⟨o, e, _⟩ := T.obj _ _ st7 c hc; exact (pin' c hc o e).2
      cases b with
      | false => rw [if_neg Bool.false_ne_true] at q9 ⊢; exact fin I9 q9
      | true =>
        rw [if_pos rfl] at q9 ⊢
        refine thnF (pk.run _ s9 σ8 H9 _ I9 q9) fun z s10 ⟨yk, Hk, Ik, rk, qk⟩ => thnF (pe.run _ s10 σ8 Hk _ Ik qk) fun z2 s11 ⟨yv, Hv, Iv, rv, kvs, k, b, ek, eb, eT, hz, nx⟩ => ?_
        subst ek; cases (show z = Value.ref b from rk)
        exact hw_dset (X := X.blk s3 H3 scope ce fp) hu Iv eT hz eb rv fun s12 I12 => fin I12 nx
  exact codeAny_compStart_dict loop (T.self X.A 0 _ _ _ st4 loop)
/-- as a value -/
theorem pe_dcT {kx vx tg iter : Expr} {ifs : List Expr} {scope : Scope} {own : List (Str × Nat)} {pos : Pos} {wi : TI} {g : TG} {tt : TT} {tk tv : TE} (hu : X.A.units + 1 < cLine) (hc : X.calm = true) (hN : X.N.Nodup) (hi : PI X tg iter wi) (ok : BlkOk X.N X.env.scope scope own)
    (hg : ∀ s H C cl fp, PG (X.blk s H scope (compEnvC scope cl C X.env) fp) tg g) (ht : ∀ s H C cl fp, PTs (X.blk s H scope (compEnvC scope cl C X.env) fp) ifs tt)
    (hk : ∀ s H C cl fp, PE (X.blk s H scope (compEnvC scope cl C X.env) fp) kx tk) (he : ∀ s H C cl fp, PE (X.blk s H scope (compEnvC scope cl C X.env) fp) vx tv) (hs : ∀ x, foldedSetIterable iter X.env x = pure x := by intro _; rfl) :
    PE X (.DictComp kx vx [⟨tg, iter, ifs, 0⟩] scope pos) (tDcT wi g tt tk tv (own.map (·.2))) := by
  refine ⟨fun pins s σ H Q I h => ?_⟩; rw [arm_eval_DictComp]
  exact dcT_core hu hc hN I hi ok hg ht hk he hs h fun T C s' m H' I' qq hn fo => ⟨m, hn, fun h'' sb => ⟨.ref T, H', I'.turned (t' := s'.toks) (fun c o hc e => (sb.2 c hc).trans e) fo.1 fo.2.1 fo.2.2.2.1 fo.2.2.2.2.1 fo.2.2.2.2.2, rfl, qq⟩⟩
theorem sw_dict {kx vx : Expr} {gs : List Comprehension} {scope : Scope} {pos py : Pos} {y : Str} {l : Nat} {env : Env} (hk : env.scope.kind = .function) (hy : env.scope.names.lookup y = some .local) (hl : (py.line == pos.line) = true)
    (ha : (scope.names.any fun (n, k) => n == y && (k == .local || k == .cell)) = false) : swapsWith (.DictComp kx vx gs scope pos) (some (.Name y py)) l env = pure true := by
  have k1 : env.kindOf y = some .local := hy
  have k2 : env.blockKind = .function := by
    unfold Env.blockKind
    rw [hk]; rfl
  unfold swapsWith
  simp only [k1, k2, ha, Expr.pos, hl]; rfl
/-- name = {..} on one line, the name a local -/
theorem ps_setDcT {i : Nat} {y : Str} {py spos : Pos} {kx vx tg iter : Expr} {ifs : List Expr} {scope : Scope} {own : List (Str × Nat)} {pos : Pos} {wi : TI} {g : TG} {tt : TT} {tk tv : TE} (hu : X.A.units + 1 < cLine) (hc : X.calm = true) (hN : X.N.Nodup) (hy : X.N[i]? = some y) (hyl : X.env.scope.names.lookup y = some .local)
    (hsw : swapsWith (.DictComp kx vx [⟨tg, iter, ifs, 0⟩] scope pos) (some (.Name y py)) spos.line X.env = pure true) (hi : PI X tg iter wi) (ok : BlkOk X.N X.env.scope scope own)
    (hg : ∀ s H C cl fp, PG (X.blk s H scope (compEnvC scope cl C X.env) fp) tg g) (ht : ∀ s H C cl fp, PTs (X.blk s H scope (compEnvC scope cl C X.env) fp) ifs tt)
    (hk : ∀ s H C cl fp, PE (X.blk s H scope (compEnvC scope cl C X.env) fp) kx tk) (he : ∀ s H C cl fp, PE (X.blk s H scope (compEnvC scope cl C X.env) fp) vx tv) (hs : ∀ x, foldedSetIterable iter X.env x = pure x := by intro _; rfl) :
    PS X (.Assign [.Name y py] (.DictComp kx vx [⟨tg, iter, ifs, 0⟩] scope pos) spos) (tAsg (tDcT wi g tt tk tv (own.map (·.2))) (gName i)) := by
  refine ⟨fun pins s σ H D I h => ?_⟩; rw [exec_Assign_Name_used _ _ _ _ hsw]
  refine wpAny_bind (wpAny_standAt (wpAny_bind ?_))
  show wpAny _ X.A (do let _ ← comprehension (.DictComp kx vx [⟨tg, iter, ifs, 0⟩] scope pos) scope X.env (firstIterPos [⟨tg, iter, ifs, 0⟩] pos) newDict false (eval iter X.env) (some (assign (.Name y py) X.env))) _ _ s
  have h : tDcT wi g tt tk tv (own.map (·.2)) σ H (fun x H1 => gName i x σ H1 D.nx) := h
  refine wpAny_bind (thn (dcT_core (Qf := fun _ s' => SP X pins D .next s') hu hc hN I hi ok hg ht hk he hs h fun T C s' m H' I' q hn fo => ?_) fun _ s' hq => wpAny_pure (wpAny_pure hq))
  show wpAny _ _ (assign (.Name y py) X.env (.ref T)) _ _ _
  refine wpAny_assign_Name (store_ok2 (v := V.ref T) I' hN hy (.inl hyl) rfl (fun s2 I2 ⟨a, sb, ha⟩ => ?_) (.inr hyl))
  have away : C ≠ a := ha.elim (fun z => z ▸ fo.2.1) fun z e => fo.2.2.2.2.1 y a z e.symm
  exact ⟨m, hn.sameBut sb away, fun h3 sb3 => ⟨_, H', I2.turned (t' := s2.toks) (fun b o hb e => (sb3.2 b hb).trans e) fo.1 fo.2.1 fo.2.2.2.1 fo.2.2.2.2.1 fo.2.2.2.2.2, q⟩⟩
end
end Hw
set_option Elab.async false
set_option linter.all false
set_option maxRecDepth 100000
set_option maxHeartbeats 4000000
/-! The calculus' rule for dict comprehensions. -/
namespace Hw
open PySem PySem.Spec L2
section
variable {K : PySem.W.Frag} {G G' H H' G0 H0 : Hp} {σ σ' : L2.St} {ρ ρ' : List (Option D)} {μ μ' : Mu} {a : Addr} {te tk tv : TE} {P : D → Mu → Prop} {d : D} {g : TG}
theorem we_dcT {wi : TI} {tt : TT} {vs : List Nat} (J : Nat → List (List Key × D) → Mu → Prop) (hg : GOk g vs) (hi : WI K wi ρ μ fun ds inv μ' => J 0 [] μ' ∧ (∀ i acc μ, J i acc μ → inv μ ∧ acc.length ≤ i) ∧ ds.length ≤ sizeLine ∧
      (∀ (i : Nat) d acc μ, ds[i]? = some d → J i acc μ → WG K g d (wipeR ρ vs) μ fun ρ1 μ1 => WT K tt ρ1 μ1 fun b μ2 => (b = true → WE K tk ρ1 μ2 fun kd μ3 => WE K tv ρ1 μ3 fun y μ4 => ∃ k, keysOf kd = some k ∧ J (i + 1) (put acc k y) μ4) ∧ (b = false → J (i + 1) acc μ2)) ∧
      ∀ acc μ, J ds.length acc μ → ∀ p, μ p = none → P (.raw (.ref p)) (μ.upd p (.dct acc))) : WE K (tDcT wi g tt tk tv vs) ρ μ P := fun G0 H0 G H σ A Q q =>
  hi G0 H0 G H σ A _ fun I ds inv μ' G' H' p e A' good T hT => by
    obtain ⟨p0, pinv, pz, pt, pend⟩ := p
    have gT : G' T = none := A'.gh.off hT
    have h0T : H0 T = none := A'.h.off hT
    have mT := A'.muNone hT
    refine ⟨fun i m H2 => m = ds.length - i ∧ i ≤ ds.length ∧ ∃ μ2 G2 acc kvs, J i acc μ2 ∧ At K G' H0 ρ μ2 G2 H2 σ ∧ MsIs K G2 acc kvs ∧ H2 T = some (.dT kvs) ∧ G2 T = none ∧ μ2 T = none,
      ⟨_, rfl, Nat.zero_le _, μ', G', [], [], p0, (A'.step (Ex.refl _) (Ex.new hT) (A'.gh.trans (Ex.new hT)) (fun _ x _ => x)).rebase, rfl, L2.upd_same, gT, mT⟩, ?_⟩
    rintro i m H2 ⟨rfl, hle, μ2, G2, acc, kvs, hJ, A2, l2, hT2, gT2, mT2⟩
    obtain ⟨iv, hacc⟩ := pinv _ _ _ hJ
    by_cases hlt : i < ds.length
    · have hd2 : ds[i]? = some ds[i] := List.getElem?_eq_getElem hlt
      have B := A2.guard gT2 hT2 mT2
      obtain ⟨gd, gs⟩ := good G2 _ G2 H2 ρ μ2 σ A2.g B iv
      obtain ⟨go, yl⟩ := gd i _ hd2
      refine .inr ⟨go, fun H3 => i + 1 ≤ ds.length ∧ ∃ μ3 G3 acc kvs, J (i + 1) acc μ3 ∧ At K G' H0 ρ μ3 G3 H3 σ ∧ MsIs K G3 acc kvs ∧ H3 T = some (.dT kvs) ∧ G3 T = none ∧ μ3 T = none, fun H3 n => ⟨ds.length - (i + 1), by omega, rfl, n.1, n.2⟩, fun x H3 y => ?_⟩
      obtain ⟨G3, e3, B3, i3⟩ := yl x H3 y
      refine hg x σ _ H3 _ wipe_wipe (pt i _ acc μ2 hd2 hJ _ _ G3 H3 _ x (B3.wiped vs) i3 _ fun ρ4 μ4 σ4 G4 H4 w e4 B4 => ?_)
      have back : ∀ {ρ5 μ5 G5 H5} {σ5 : L2.St}, At K G2 (L2.upd H0 T (.dT kvs)) ρ5 μ5 G5 H5 σ5 → At K G' H0 ρ μ5 G5 H5 σ ∧ G5 T = none ∧ H5 T = some (.dT kvs) ∧ μ5 T = none ∧ Ex G2 G5 := fun {ρ5 μ5 G5 H5 σ5} C => by
        obtain ⟨C1, C2, C3, C4⟩ := A2.unguard (by exact h0T) gT2 C
        exact ⟨C1.ofSl (A2.sl.mono C.g), C2, C3, C4, C.g⟩
      refine w _ _ G4 H4 σ4 B4 _ fun b μ5 G5 H5 p5 e5 B5 => ?_
      cases b with
      | false =>
        obtain ⟨C1, C2, C3, C4, C5⟩ := back B5
        exact ⟨hlt, μ5, G5, acc, kvs, p5.2 rfl, C1, l2.mono C5, C3, C2, C4⟩
      | true =>
        refine p5.1 rfl _ _ G5 H5 σ4 B5 _ fun v6 kd μ6 G6 H6 w6 e6 B6 i6 => w6 _ _ G6 H6 σ4 B6 _ fun v7 d7 μ7 G7 H7 p7 e7 B7 i7 => ?_
        obtain ⟨k, hk, p7⟩ := p7
        obtain ⟨C1, C2, C3, C4, C5⟩ := back B7
        obtain ⟨b, rfl, hb⟩ := keysOf_ok hk (i6.mono e7)
        exact ⟨kvs, k, b, rfl, B7.gh _ _ hb, C3, by rw [l2.len]; omega, hlt, μ7, G7, put acc k d7, putK kvs k v7, p7, C1.hidden h0T C2 C4, (l2.mono C5).put i7, L2.upd_same, C2, C4⟩
    · have ei : i = ds.length := by omega
      subst ei
      obtain ⟨_, gs⟩ := good G' H0 G2 H2 ρ μ2 σ A2.g A2 iv
      refine .inl ⟨gs, ?_⟩
      have A3 : At K G' H0 ρ (μ2.upd T (.dct acc)) G2 H2 σ := by
        refine ⟨A2.g, A2.gh, A2.h, A2.new, A2.sl, fun b mo z => ?_⟩
        by_cases zb : b = T
        · subst zb
          rw [Mu.upd_same] at z; cases z
          exact ⟨gT2, h0T, kvs, hT2, l2⟩
        · rw [Mu.upd_ne zb] at z; exact A2.rep b mo z
      exact q _ _ _ _ _ (pend _ _ hJ T mT2) (e.trans A2.g) (A'.unbase A3) rfl
end
end Hw
set_option Elab.async false
set_option linter.all false
set_option maxRecDepth 100000
set_option maxHeartbeats 4000000
/-! Tracing. -/
namespace Hw
open PySem PySem.Spec L2
abbrev Rows := Cell → Row
structure TrS where
  giv : Rows
  lts : Rows
  sto : Rows
  spi : Rows
def updC (f : Rows) (c : Cell) (r : Row) : Rows := fun x => if x = c then r else f x
def rowIn (B : Basin) (S : TrS) (c : Cell) : Row := ((if 0 < c.2 then S.sto (c.1, c.2 - 1) else [(.held c.1, (B.at c.1).held)]) ++ ((B.ups c).map S.lts).flatten) ++ [(.inn c.1 c.2, B.inf c)]
def rowAt (B : Basin) (S : TrS) (c : Cell) : Row := joinRow (rowIn B S c)
def giveStep (R : List Right) (p : Plan) (c : Cell) (s : Rows × Row) (r : Nat) : Rows × Row := if (rAt R r).site = c.1 then (updC s.1 (r, c.2) (joinRow (partRow s.2 (get2 p.del r c.2)).front), joinRow (partRow s.2 (get2 p.del r c.2)).rest) else s
def giveAll (R : List Right) (p : Plan) (c : Cell) (s : Rows × Row) (i : Nat) : Rows × Row := (List.range i).foldl (giveStep R p c) s
def traceStep (B : Basin) (R : List Right) (p : Plan) (S : TrS) (c : Cell) : TrS :=
  let g := giveAll R p c (S.giv, rowAt B S c) R.length
  let l := partRow g.2 (get2 p.rel c.1 c.2)
  let s := partRow (joinRow l.rest) (get2 p.sto c.1 c.2)
  ⟨g.1, updC S.lts c (joinRow l.front), updC S.sto c (joinRow s.front), updC S.spi c (joinRow s.rest)⟩
theorem giveStep_len {R : List Right} {p : Plan} {c : Cell} {s : Rows × Row} {r : Nat} : (giveStep R p c s r).2.length ≤ s.2.length := by
  unfold giveStep
  split
  · have h1 := joinRow_len (partRow s.2 (get2 p.del r c.2)).rest
    have h2 := (partRow_len s.2 (get2 p.del r c.2)).2
    show (joinRow _).length ≤ _
    omega
  · exact Nat.le_refl _
theorem giveAll_succ {R : List Right} {p : Plan} {c : Cell} {s : Rows × Row} {i : Nat} : giveAll R p c s (i + 1) = giveStep R p c (giveAll R p c s i) i := by
  unfold giveAll
  rw [List.range_succ, List.foldl_append]; rfl
theorem giveAll_len {R : List Right} {p : Plan} {c : Cell} {s : Rows × Row} : ∀ i, (giveAll R p c s i).2.length ≤ s.2.length
  | 0 => Nat.le_refl _
  | i + 1 => by rw [giveAll_succ]; exact Nat.le_trans giveStep_len (giveAll_len i)
structure Ads where
  x : Addr
  g : Addr
  l : Addr
  s : Addr
  sp : Addr
structure TrIn (K : PySem.W.Frag) (μ : Mu) (d : Ads) (B : Basin) (R : List Right) (p : Plan) : Prop where
  ins : μ d.x = some (.ins (He.ga K "Tracing") [("basin", basinD B), ("rights", rightsD R), ("plan", planD p), ("given", .raw (.ref d.g)), ("let", .raw (.ref d.l)), ("stored", .raw (.ref d.s)), ("spilled", .raw (.ref d.sp))])
  nd : [d.x, d.g, d.l, d.s, d.sp].Nodup
structure TrSt (μ : Mu) (d : Ads) (dg dc : Cell → Prop) (S : TrS) (n : Nat) : Prop where
  g : Tbl rowD μ d.g dg S.giv n
  l : Tbl rowD μ d.l dc S.lts n
  s : Tbl rowD μ d.s dc S.sto n
  sp : Tbl rowD μ d.sp dc S.spi n
section
variable {K : PySem.W.Frag} {ρ : List (Option D)} {μ : Mu} {ta tb te : TE} {d : D} {x : Addr} {ts tz : TS} {Φ : Out → Prop} {C : Addr} {fs fs' : List (Str × D)} {f : Str}
theorem s_fld (h : Ev K te ρ μ d) (ho : Ev K ta ρ μ (.raw (.ref x))) (hm : μ x = some (.ins C fs)) (cl : Cls K C) (na : NoAttr K C f) (k : Φ (.nx ρ (μ.upd x (.ins C fs')))) (e : putD f d fs = fs' := by rfl) (hl : fs.length < 1000 := by exact of_decide_eq_true rfl) : PW K (sFld K ta te f) ρ μ Φ :=
  pw_fld (h.go (ho.go ⟨x, C, fs, rfl, hm, cl, na, hl, by rw [e]; exact k⟩))
theorem q_fld (h : Ev K te ρ μ d) (ho : Ev K ta ρ μ (.raw (.ref x))) (hm : μ x = some (.ins C fs)) (cl : Cls K C) (na : NoAttr K C f) (k : PW K tz ρ (μ.upd x (.ins C fs')) Φ) (e : putD f d fs = fs' := by rfl) (hl : fs.length < 1000 := by exact of_decide_eq_true rfl) : PW K (tSeq (sFld K ta te f) tz) ρ μ Φ :=
  pw_seq (s_fld h ho hm cl na k e hl)
/-- o.f = {} -/
theorem s_fldD (ho : ∀ μ, Ev K ta ρ μ (.raw (.ref x))) (hm : μ x = some (.ins C fs)) (cl : Cls K C) (na : NoAttr K C f) {fs' : Addr → List (Str × D)} (k : ∀ g, μ g = none → g ≠ x → Φ (.nx ρ ((μ.upd g (.dct [])).upd x (.ins C (fs' g))))) (e : ∀ g, putD f (.raw (.ref g)) fs = fs' g := by exact fun _ => rfl) (hl : fs.length < 1000 := by exact of_decide_eq_true rfl) : PW K (sFld K ta tDNewT f) ρ μ Φ :=
  pw_fld (we_dctN fun g hg => have hn : x ≠ g := fun z => by rw [z, hg] at hm; cases hm
    (ho _).go ⟨x, C, fs, rfl, (Mu.upd_ne hn).trans hm, cl, na, hl, by rw [e]; exact k g hg (Ne.symm hn)⟩)
theorem q_fldD (ho : ∀ μ, Ev K ta ρ μ (.raw (.ref x))) (hm : μ x = some (.ins C fs)) (cl : Cls K C) (na : NoAttr K C f) {fs' : Addr → List (Str × D)} (k : ∀ g, μ g = none → g ≠ x → PW K tz ρ ((μ.upd g (.dct [])).upd x (.ins C (fs' g))) Φ) (e : ∀ g, putD f (.raw (.ref g)) fs = fs' g := by exact fun _ => rfl) (hl : fs.length < 1000 := by exact of_decide_eq_true rfl) : PW K (tSeq (sFld K ta tDNewT f) tz) ρ μ Φ :=
  pw_seq (s_fldD ho hm cl na k e hl)
end
def Ads.new (d : Ads) (b : Addr) : Prop := b = d.g ∨ b = d.l ∨ b = d.s ∨ b = d.sp
section
variable {P : Program} {w : World} {K : PySem.W.Frag} {mg : Str → Option Value} {base : Heap}
theorem sc_Tracing_init : FnScope ["self", "basin", "rights", "plan"] ["self", "basin", "rights", "plan"] (defScope s_Tracing_init) := ⟨rfl, rfl, rfl, by decide +kernel, rfl, by decide +kernel, by decide +kernel⟩
-- Tracing___init__: 0 self, 1 basin, 2 rights, 3 plan
def S_Tracing_init (K : PySem.W.Frag) : Spec := fun ds μ Q => ∃ (x : Addr) (B : Basin) (R : List Right) (p : Plan), ds = [.raw (.ref x), basinD B, rightsD R, planD p] ∧ μ x = some (.ins (He.ga K "Tracing") []) ∧
  ∀ (d : Ads) (μ' : Mu), d.x = x → (∀ b, d.new b → μ b = none) → (∀ b, b ≠ x → ¬ d.new b → μ' b = μ b) → TrIn K μ' d B R p → TrSt μ' d (fun _ => False) (fun _ => False) ⟨fun _ => [], fun _ => [], fun _ => [], fun _ => []⟩ 0 → Q .non μ'
theorem len_Tracing_init : (S_Tracing_init K).len 4 := fun ds μ Q h => by obtain ⟨_, _, _, _, rfl, _⟩ := h; rfl
theorem mono_Tracing_init : Mono (S_Tracing_init K) := fun ds μ P P' f h => by obtain ⟨x, B, R, p, e, h, q⟩ := h; exact ⟨x, B, R, p, e, h, fun d μ' h1 h2 h3 h4 h5 => f _ _ (q d μ' h1 h2 h3 h4 h5)⟩
theorem m_Tracing (Fx : Fx K mg) : Mak P w K mg base 1 "Tracing" (He.ga K "Tracing") (S_Tracing_init K) := by
  have hlen : (S_Tracing_init K).len 4 := len_Tracing_init
  obtain ⟨fd, F⟩ := Fx.c.def_ 15 (d := d_Tracing_init) rfl
  refine ⟨_, fd, ["self", "basin", "rights", "plan"], Fx.mkr 51, fnok F sc_Tracing_init hlen (fun cdv A outer s H E hr => ?_), Fx.glo 49, FunD.bindsN F fun _ _ _ _ _ _ us hl => match us, hl with | [_, _, _, _], _ => rfl⟩
  have hu := hu_of hr
  have nd := sc_Tracing_init.nd
  refine ⟨_, (pss_cons (ps_fld (pv 0) (pv 1) rfl)
      (pss_cons (ps_fld (pv 0) (pv 2) rfl)
      (pss_cons (ps_fld (pv 0) (pv 3) rfl)
      (pss_cons (ps_fld (pv 0) pe_dnewT rfl)
      (pss_cons (ps_fld (pv 0) pe_dnewT rfl)
      (pss_cons (ps_fld (pv 0) pe_dnewT rfl)
      (pss_one (ps_fld (pv 0) pe_dnewT rfl)))))))), fun ds μ Pq hS => ?_⟩
  obtain ⟨x, B, R, p, rfl, hx, q⟩ := hS
  have cl := (Fx.cls 50)
  refine q_fld (V' 1) (V' 0) hx cl (Fx.noat 52) ?_
  refine q_fld (V' 2) (V' 0) Mu.upd_same cl (Fx.noat 53) ?_
  refine q_fld (V' 3) (V' 0) Mu.upd_same cl (Fx.noat 54) ?_
  rw [Mu.upd_upd, Mu.upd_upd]
  refine q_fldD (fun _ => V' 0) Mu.upd_same cl (Fx.noat 55) fun g hg ng => ?_
  refine q_fldD (fun _ => V' 0) Mu.upd_same cl (Fx.noat 56) fun l hl nl => ?_
  refine q_fldD (fun _ => V' 0) Mu.upd_same cl (Fx.noat 57) fun s hs ns => ?_
  refine s_fldD (fun _ => V' 0) Mu.upd_same cl (Fx.noat 58) fun sp hsp nsp => ?_
  rw [Mu.upd_ne ng] at hg
  rw [Mu.upd_ne nl] at hl
  rw [Mu.upd_ne ns] at hs
  rw [Mu.upd_ne nsp] at hsp
  have lg : l ≠ g := fun z => by rw [z, Mu.upd_same] at hl; cases hl
  rw [Mu.upd_ne lg, Mu.upd_ne nl] at hl
  have sl : s ≠ l := fun z => by rw [z, Mu.upd_same] at hs; cases hs
  rw [Mu.upd_ne sl, Mu.upd_ne ns] at hs
  have sg : s ≠ g := fun z => by rw [z, Mu.upd_same] at hs; cases hs
  rw [Mu.upd_ne sg, Mu.upd_ne ns] at hs
  have es : sp ≠ s := fun z => by rw [z, Mu.upd_same] at hsp; cases hsp
  rw [Mu.upd_ne es, Mu.upd_ne nsp] at hsp
  have el : sp ≠ l := fun z => by rw [z, Mu.upd_same] at hsp; cases hsp
  rw [Mu.upd_ne el, Mu.upd_ne nsp] at hsp
  have eg : sp ≠ g := fun z => by rw [z, Mu.upd_same] at hsp; cases hsp
  rw [Mu.upd_ne eg, Mu.upd_ne nsp] at hsp
  refine ⟨_, Mu.sub.refl _, q ⟨x, g, l, s, sp⟩ _ rfl ?_ ?_ ⟨Mu.upd_same, ?_⟩ ⟨⟨[], ?_, Nat.le_refl _, fun c => ⟨fun h => h.elim, fun _ => rfl⟩⟩, ⟨[], ?_, Nat.le_refl _, fun c => ⟨fun h => h.elim, fun _ => rfl⟩⟩, ⟨[], ?_, Nat.le_refl _, fun c => ⟨fun h => h.elim, fun _ => rfl⟩⟩, ⟨[], ?_, Nat.le_refl _, fun c => ⟨fun h => h.elim, fun _ => rfl⟩⟩⟩⟩
  · rintro b (e | e | e | e) <;> (subst e; assumption)
  · intro b hb hn
    have h1 : b ≠ g := fun z => hn (.inl z)
    have h2 : b ≠ l := fun z => hn (.inr (.inl z))
    have h3 : b ≠ s := fun z => hn (.inr (.inr (.inl z)))
    have h4 : b ≠ sp := fun z => hn (.inr (.inr (.inr z)))
    rw [Mu.upd_ne hb, Mu.upd_ne h4, Mu.upd_ne hb, Mu.upd_ne h3, Mu.upd_ne hb, Mu.upd_ne h2, Mu.upd_ne hb, Mu.upd_ne h1, Mu.upd_ne hb]
  · simp [Ne.symm ng, Ne.symm nl, Ne.symm ns, Ne.symm nsp, Ne.symm lg, Ne.symm sg, Ne.symm sl, Ne.symm es, Ne.symm el, Ne.symm eg]
  · rw [Mu.upd_ne ng, Mu.upd_ne (Ne.symm eg), Mu.upd_ne ng, Mu.upd_ne (Ne.symm sg), Mu.upd_ne ng, Mu.upd_ne (Ne.symm lg), Mu.upd_ne ng, Mu.upd_same]
  · rw [Mu.upd_ne nl, Mu.upd_ne (Ne.symm el), Mu.upd_ne nl, Mu.upd_ne (Ne.symm sl), Mu.upd_ne nl, Mu.upd_same]
  · rw [Mu.upd_ne ns, Mu.upd_ne (Ne.symm es), Mu.upd_ne ns, Mu.upd_same]
  · rw [Mu.upd_ne nsp, Mu.upd_same]
theorem sc_Tracing_row_at : FnScope ["self", "cell", "number", "month", "site", "row", "other"] ["self", "cell"] (defScope s_Tracing_row_at) := ⟨rfl, rfl, rfl, by decide +kernel, rfl, by decide +kernel, by decide +kernel⟩
-- Tracing_row_at: 0 self, 1 cell, 2 number, 3 month, 4 site, 5 row, 6 other
def S_Tracing_row_at (K : PySem.W.Frag) : Spec := fun ds μ Q => ∃ (d : Ads) (B : Basin) (R : List Right) (p : Plan) (S : TrS) (dg dc : Cell → Prop) (n : Nat) (c : Cell), ds = [.raw (.ref d.x), cellD c] ∧ B.Ok ∧ B.In c ∧ TrIn K μ d B R p ∧ TrSt μ d dg dc S n ∧ (0 < c.2 → dc (c.1, c.2 - 1)) ∧ (∀ o ∈ B.ups c, dc o) ∧ (rowIn B S c).length ≤ 10000 ∧ Q (rowD (rowAt B S c)) μ
theorem len_Tracing_row_at : (S_Tracing_row_at K).len 2 := fun ds μ Q h => by obtain ⟨_, _, _, _, _, _, _, _, _, rfl, _⟩ := h; rfl
theorem mono_Tracing_row_at : Mono (S_Tracing_row_at K) := fun ds μ P P' f h => by obtain ⟨d, B, R, p, S, dg, dc, n, c, e, h1, h2, h3, h4, h5, h6, h7, q⟩ := h; exact ⟨d, B, R, p, S, dg, dc, n, c, e, h1, h2, h3, h4, h5, h6, h7, f _ _ q⟩
theorem c_Tracing_row_at (Fx : Fx K mg) : Met P w K mg base 4 (He.ga K "Tracing") "row_at" (S_Tracing_row_at K) := by
  have hlen : (S_Tracing_row_at K).len 2 := len_Tracing_row_at
  obtain ⟨fd, F⟩ := Fx.c.def_ 16 (d := d_Tracing_row_at) rfl
  refine ⟨_, fd, ["self", "cell"], Fx.cls 50, Fx.meth 59, fnok F sc_Tracing_row_at hlen (fun cdv A outer s H E hr => ?_), FunD.bindsN F fun _ _ _ _ _ _ us hl => match us, hl with | [_, _], _ => rfl⟩
  have hu := hu_of hr
  have nd := sc_Tracing_row_at.nd
  refine ⟨_, (pss_cons (ps_asg (pv 1) (pg_tup rfl (pgs_cons (pg_name (i := 2) nd rfl (by first | exact Or.inl rfl | exact Or.inr rfl)) (pgs_cons (pg_name (i := 3) nd rfl (by first | exact Or.inl rfl | exact Or.inr rfl)) pgs_nil))))
      (pss_cons (ps_set (i := 4) nd rfl (by first | exact Or.inl rfl | exact Or.inr rfl) (pe_ix (k_ix (K := K)) (pe_ix (k_ix (K := K)) (k_fld (K := K) (pv 0) rfl) pe_int (fun _ _ => rfl)) (pv 2) (fun _ _ => rfl)))
      (pss_cons (ps_set (i := 5) nd rfl (by first | exact Or.inl rfl | exact Or.inr rfl) (pe_ifExp (pt_cmpR op_gt (pv 3) pe_int (nomark _)) (pe_dget hu (k_fld (K := K) (pv 0) rfl) (pe_tup (pa_cons (pv 2) (pa_cons (pe_op op_sub (pv 3) pe_int) pa_nil))) (fun _ _ => rfl)) (pe_lst (pa_cons (pe_tup (pa_cons (pe_tup (pa_cons pe_str (pa_cons (pv 2) pa_nil))) (pa_cons (pe_ix (k_ix (K := K)) (pv 4) (k_gI (Fx.int 46) rfl) (fun _ _ => rfl)) pa_nil))) pa_nil))))
      (pss_cons (ps_for PassesOwn.never rfl (k_list_ (K := K) (pe_callB (k_sorted (K := K)) (by rfl) (Fx.free 104) (by decide +kernel) (pa_cons (k_cal (c_let_from Fx) hr (by decide) rfl (pa_cons (k_fld (K := K) (pv 0) rfl) (pa_cons (pv 1) pa_nil))) pa_nil))) (pg_name (i := 6) nd rfl (by first | exact Or.inl rfl | exact Or.inr rfl)) (pss_one (ps_set (i := 5) nd rfl (by first | exact Or.inl rfl | exact Or.inr rfl) (pe_op op_cat (pv 5) (pe_dget hu (k_fld (K := K) (pv 0) rfl) (pv 6) (fun _ _ => rfl))))))
      (pss_one (ps_ret (k_cal (c_joined Fx) hr (by decide) rfl (pa_cons (pe_op op_cat (pv 5) (pe_lst (pa_cons (pe_tup (pa_cons (pe_tup (pa_cons pe_str (pa_cons (pv 2) (pa_cons (pv 3) pa_nil)))) (pa_cons (pe_ix (k_ix (K := K)) (pe_ix (k_ix (K := K)) (pv 4) (k_gI (Fx.int 47) rfl) (fun _ _ => rfl)) (pv 3) (fun _ _ => rfl)) pa_nil))) pa_nil))) pa_nil)))))))), fun ds μ Pq hS => ?_⟩
  obtain ⟨d, B, R, p, S, dg, dc, n, c, rfl, ok, hc, TI, TS, hs0, hu0, hl, q⟩ := hS
  have cl := (Fx.cls 50)
  refine q_two (V' 1) rfl (q_set (ev_ixN (ev_ix (ev_fld (V' 0) TI.ins cl (Fx.noat 52) rfl) ev_int) (V' 2) (siteAt hc.1)) ?_)
  have hrow : rowIn B S c = ((if 0 < c.2 then S.sto (c.1, c.2 - 1) else [(.held c.1, (B.at c.1).held)]) ++ ((B.ups c).map S.lts).flatten) ++ [(.inn c.1 c.2, B.inf c)] := rfl
  generalize h0 : (if 0 < c.2 then S.sto (c.1, c.2 - 1) else [(Org.held c.1, (B.at c.1).held)] : Row) = r0 at hrow
  refine q_set (d := rowD r0) (ev_ite (b := decide (0 < c.2)) ?_ (fun h => ?_) (fun h => ?_)) ?_
  · have e : decide (0 < c.2) = decide ((0 : Int) < (c.2 : Int)) := by rw [decide_eq_decide]; omega
    rw [e]
    exact et_test (ev_gt (V' 3) ev_int)
  · have h := of_decide_eq_true h
    rw [if_pos h] at h0
    rw [← h0]
    have e2 : ((c.2 - 1 : Nat) : Int) = (c.2 : Int) - 1 := by omega
    have e3 : keysOf (.tup [.int (c.1 : Int), .int ((c.2 : Int) - 1)]) = some (cellK (c.1, c.2 - 1)) := by rw [← e2]; rfl
    exact ev_tbl (ev_fld (V' 0) TI.ins cl (Fx.noat 57) rfl) (ev_tup (ea_cons (V' 2) (ea_cons (ev_sub (V' 3) ev_int) ea_nil))) e3 TS.s (hs0 h)
  · have h := of_decide_eq_false h
    rw [if_neg h] at h0
    rw [← h0]
    exact ev_lst (ea_cons (ev_tup (ea_cons (ev_tup (ea_cons ev_str (ea_cons (V' 2) ea_nil))) (ea_cons (ev_ix (V' 4) ev_int) ea_nil))) ea_nil)
  have hlen : r0.length + ((B.ups c).map S.lts).flatten.length + 1 ≤ 10000 := by
    rw [hrow, List.length_append, List.length_append] at hl
    simpa using hl
  refine pw_seq (pw_for (fun i ρ μ' => μ' = μ ∧ ∃ a, ρ = [some (.raw (.ref d.x)), some (cellD c), some (.int (c.1 : Int)), some (.int (c.2 : Int)), some (siteD c.1 (B.at c.1)), some (rowD (r0 ++ (((B.ups c).take i).map S.lts).flatten)), a]) ?_)
  refine wi_lst (ev_cb (ea_cons (ev_call (ea_cons (ev_fld (V' 0) TI.ins cl (Fx.noat 52) rfl) (ea_cons (V' 1) ea_nil)) ⟨B, c, rfl, ok, rfl, rfl⟩ mono_let_from) ea_nil) (rb_sorted (ρ0 := []) (.inl rfl) fun ys py sy => ⟨ys.map cellD, rfl, ?_⟩))
  have ey := sorted_ups ok hc py sy
  subst ey
  refine ⟨⟨rfl, none, by rw [List.take_zero, List.map_nil, List.flatten_nil, List.append_nil]; rfl⟩, fun _ _ _ _ => trivial, ?_, ?_⟩
  · rintro i e ρ μ3 he ⟨rfl, a, rfl⟩
    rw [List.getElem?_map] at he
    cases ho : (B.ups c)[i]? with
    | none => rw [ho] at he; cases he
    | some o =>
      rw [ho] at he; cases he
      have ht : (((B.ups c).take (i + 1)).map S.lts).flatten = (((B.ups c).take i).map S.lts).flatten ++ S.lts o := by
        rw [List.take_succ, ho, List.map_append, List.flatten_append]; simp
      have hz : (((B.ups c).take (i + 1)).map S.lts).flatten.length ≤ ((B.ups c).map S.lts).flatten.length := by
        have h1 : (B.ups c).map S.lts = ((B.ups c).take (i + 1)).map S.lts ++ ((B.ups c).drop (i + 1)).map S.lts := by rw [← List.map_append, List.take_append_drop]
        rw [h1, List.flatten_append, List.length_append]; omega
      rw [ht, List.length_append] at hz
      refine wg_name (s_set (d := rowD (r0 ++ (((B.ups c).take (i + 1)).map S.lts).flatten)) ?_ ⟨rfl, some (cellD o), rfl⟩)
      rw [ht, ← List.append_assoc]
      show Ev K _ _ _ (.lst _)
      rw [List.map_append]
      refine ev_cat (V' 5) (ev_tbl (ev_fld (V' 0) TI.ins cl (Fx.noat 56) rfl) (V' 6) (cellK_of o) TS.l (hu0 o (List.mem_of_getElem? ho))) (.inl rfl) (.inl rfl) (sz_of ?_)
      rw [List.length_map, List.length_map, List.length_append]; omega
  · rintro ρ μ3 ⟨rfl, a, rfl⟩
    rw [List.length_map, List.take_length]
    refine s_ret (ev_call (ea_cons (d := rowD (rowIn B S c)) ?_ ea_nil) ⟨_, rfl, hl, rfl, rfl⟩ mono_joined) q
    rw [hrow]
    show Ev K _ _ _ (.lst _)
    rw [List.map_append]
    refine ev_cat (V' 5) (ev_lst (ea_cons (ev_tup (ea_cons (ev_tup (ea_cons ev_str (ea_cons (V' 2) (ea_cons (V' 3) ea_nil)))) (ea_cons (ev_ixN (ev_ix (V' 4) ev_int) (V' 3) (infAt ok hc)) ea_nil))) ea_nil)) (.inl rfl) (.inl rfl) (sz_of ?_)
    rw [List.length_map, List.length_append]
    show _ + 1 ≤ 100000; omega
theorem sc_Tracing_trace : FnScope ["self", "cell", "number", "month", "deliveries", "releases", "storages", "row", "at", "right"] ["self", "cell"] (defScope s_Tracing_trace) := ⟨rfl, rfl, rfl, by decide +kernel, rfl, by decide +kernel, by decide +kernel⟩
-- Tracing_trace: 0 self, 1 cell, 2 number, 3 month, 4 deliveries, 5 releases, 6 storages, 7 row, 8 at, 9 right
def S_Tracing_trace (K : PySem.W.Frag) : Spec := fun ds μ Q => ∃ (d : Ads) (B : Basin) (R : List Right) (p : Plan) (S : TrS) (dg dc : Cell → Prop) (n : Nat) (c : Cell), ds = [.raw (.ref d.x), cellD c] ∧ B.Ok ∧ RightsOk B R ∧ p.Shape B R ∧ B.In c ∧ TrIn K μ d B R p ∧ TrSt μ d dg dc S n ∧ (0 < c.2 → dc (c.1, c.2 - 1)) ∧ (∀ o ∈ B.ups c, dc o) ∧ (rowIn B S c).length ≤ 10000 ∧ n ≤ 1000 ∧
  ∀ μ', (∀ b, ¬ d.new b → μ' b = μ b) → TrIn K μ' d B R p → TrSt μ' d (fun x => dg x ∨ (x.2 = c.2 ∧ x.1 < R.length ∧ (rAt R x.1).site = c.1)) (fun x => x = c ∨ dc x) (traceStep B R p S c) (n + R.length + 1) → Q .non μ'
theorem len_Tracing_trace : (S_Tracing_trace K).len 2 := fun ds μ Q h => by obtain ⟨_, _, _, _, _, _, _, _, _, rfl, _⟩ := h; rfl
theorem mono_Tracing_trace : Mono (S_Tracing_trace K) := fun ds μ P P' f h => by
  obtain ⟨d, B, R, p, S, dg, dc, n, c, e, h1, h2, h3, h4, h5, h6, h7, h8, h9, h10, q⟩ := h
  exact ⟨d, B, R, p, S, dg, dc, n, c, e, h1, h2, h3, h4, h5, h6, h7, h8, h9, h10, fun μ' a b c => f _ _ (q μ' a b c)⟩
theorem TrIn.fr {μ μ' : Mu} {d : Ads} {B : Basin} {R : List Right} {p : Plan} (h : TrIn K μ d B R p) (e : μ' d.x = μ d.x) : TrIn K μ' d B R p := ⟨e.trans h.ins, h.nd⟩
theorem c_Tracing_trace (Fx : Fx K mg) : Met P w K mg base 5 (He.ga K "Tracing") "trace" (S_Tracing_trace K) := by
  have hlen : (S_Tracing_trace K).len 2 := len_Tracing_trace
  obtain ⟨fd, F⟩ := Fx.c.def_ 17 (d := d_Tracing_trace) rfl
  refine ⟨_, fd, ["self", "cell"], Fx.cls 50, Fx.meth 60, fnok F sc_Tracing_trace hlen (fun cdv A outer s H E hr => ?_), FunD.bindsN F fun _ _ _ _ _ _ us hl => match us, hl with | [_, _], _ => rfl⟩
  have hu := hu_of hr
  have nd := sc_Tracing_trace.nd
  refine ⟨_, (pss_cons (ps_asg (pv 1) (pg_tup rfl (pgs_cons (pg_name (i := 2) nd rfl (by first | exact Or.inl rfl | exact Or.inr rfl)) (pgs_cons (pg_name (i := 3) nd rfl (by first | exact Or.inl rfl | exact Or.inr rfl)) pgs_nil))))
      (pss_cons (ps_asg (k_fld (K := K) (pv 0) rfl) (pg_tup rfl (pgs_cons (pg_name (i := 4) nd rfl (by first | exact Or.inl rfl | exact Or.inr rfl)) (pgs_cons (pg_name (i := 5) nd rfl (by first | exact Or.inl rfl | exact Or.inr rfl)) (pgs_cons (pg_name (i := 6) nd rfl (by first | exact Or.inl rfl | exact Or.inr rfl)) pgs_nil)))))
      (pss_cons (ps_set (i := 7) nd rfl (by first | exact Or.inl rfl | exact Or.inr rfl) (k_met (c_Tracing_row_at Fx) hr (by decide) (pv 0) (pa_cons (pv 1) pa_nil)))
      (pss_cons (ps_for PassesOwn.never rfl (pi_enumT rfl (Fx.free 99) (pa_cons (k_fld (K := K) (pv 0) rfl) pa_nil)) (pg_tup rfl (pgs_cons (pg_name (i := 8) nd rfl (by first | exact Or.inl rfl | exact Or.inr rfl)) (pgs_cons (pg_name (i := 9) nd rfl (by first | exact Or.inl rfl | exact Or.inr rfl)) pgs_nil))) (pss_one (ps_if (pt_cmpR op_eq (k_cal (c_site_number Fx) hr (by decide) rfl (pa_cons (k_fld (K := K) (pv 0) rfl) (pa_cons (pe_ix (k_ix (K := K)) (pv 9) pe_int (fun _ _ => rfl)) pa_nil))) (pv 2) (nomark _)) (pss_one (ps_asg (k_cal (c_parted Fx) hr (by decide) rfl (pa_cons (pv 7) (pa_cons (pe_ix (k_ix (K := K)) (pe_ix (k_ix (K := K)) (pv 4) (pv 8) (fun _ _ => rfl)) (pv 3) (fun _ _ => rfl)) pa_nil))) (pg_tup rfl (pgs_cons (pg_sub (k_fld (K := K) (pv 0) rfl) (pe_tup (pa_cons (pv 8) (pa_cons (pv 3) pa_nil))) (set_dict hu)) (pgs_cons (pg_name (i := 7) nd rfl (by first | exact Or.inl rfl | exact Or.inr rfl)) pgs_nil))))) pss_nil)))
      (pss_cons (ps_asg (k_cal (c_parted Fx) hr (by decide) rfl (pa_cons (pv 7) (pa_cons (pe_ix (k_ix (K := K)) (pe_ix (k_ix (K := K)) (pv 5) (pv 2) (fun _ _ => rfl)) (pv 3) (fun _ _ => rfl)) pa_nil))) (pg_tup rfl (pgs_cons (pg_sub (k_fld (K := K) (pv 0) rfl) (pv 1) (set_dict hu)) (pgs_cons (pg_name (i := 7) nd rfl (by first | exact Or.inl rfl | exact Or.inr rfl)) pgs_nil))))
      (pss_one (ps_asg (k_cal (c_parted Fx) hr (by decide) rfl (pa_cons (pv 7) (pa_cons (pe_ix (k_ix (K := K)) (pe_ix (k_ix (K := K)) (pv 6) (pv 2) (fun _ _ => rfl)) (pv 3) (fun _ _ => rfl)) pa_nil))) (pg_tup rfl (pgs_cons (pg_sub (k_fld (K := K) (pv 0) rfl) (pv 1) (set_dict hu)) (pgs_cons (pg_sub (k_fld (K := K) (pv 0) rfl) (pv 1) (set_dict hu)) pgs_nil)))))))))), fun ds μ Pq hS => ?_⟩
  obtain ⟨d, B, R, p, S, dg, dc, n, c, rfl, ok, rok, sh, hc, TI, TS, hs0, hu0, hl, hn, q⟩ := hS
  have cl := (Fx.cls 50)
  have nd := TI.nd
  simp only [List.nodup_cons, List.mem_cons, List.not_mem_nil, or_false, not_or] at nd
  obtain ⟨⟨xg, xl, xs, xsp⟩, ⟨gl, gs, gsp⟩, ⟨ls, lsp⟩, ssp, _⟩ := nd
  have R3 := rok.1
  refine q_two (V' 1) rfl (q_three (ev_fld (V' 0) TI.ins cl (Fx.noat 54) rfl) rfl ?_)
  refine q_set (we_meth ((V' 0).go ⟨d.x, _, rfl, TI.ins, rfl, (ea_cons (V' 1) ea_nil).go ⟨d, B, R, p, S, dg, dc, n, c, rfl, ok, hc, TI, TS, hs0, hu0, hl, rfl, rfl⟩⟩) mono_Tracing_row_at) ?_
  have hrl : (rowAt B S c).length ≤ 10000 := Nat.le_trans (joinRow_len _) hl
  refine pw_seq (pw_for (fun i ρ μ' => (∀ b, b ≠ d.g → μ' b = μ b) ∧ Tbl rowD μ' d.g (fun x => dg x ∨ (x.2 = c.2 ∧ x.1 < i ∧ (rAt R x.1).site = c.1)) (giveAll R p c (S.giv, rowAt B S c) i).1 (n + i) ∧ ∃ a b, ρ = [some (.raw (.ref d.x)), some (cellD c), some (.int (c.1 : Int)), some (.int (c.2 : Int)), some (tabD p.del), some (tabD p.rel), some (tabD p.sto), some (rowD (giveAll R p c (S.giv, rowAt B S c) i).2), a, b]) ?_)
  refine wi_enumT (ds := R.map rightD) (ea_cons (ev_fld (V' 0) TI.ins cl (Fx.noat 53) rfl) ea_nil) ⟨⟨fun _ _ => rfl, ?_, none, none, rfl⟩, fun _ _ _ _ => trivial, ?_, ?_⟩
  · exact TS.g.cong (fun x => ⟨fun h => h.elim id fun h => absurd h.2.1 (Nat.not_lt_zero _), .inl⟩) (fun _ _ => rfl) (Nat.le_refl _)
  · rintro i e ρ μ3 he ⟨fr, T, a, b, rfl⟩
    obtain ⟨e2, he2, rfl⟩ := enumD_get he
    have hlt : i < R.length := by
      have h1 := (List.getElem?_eq_some_iff.mp he2).1
      rw [List.length_map] at h1; exact h1
    rw [rightAt hlt] at he2
    cases he2
    have hr := rok.at hlt
    have TI3 : TrIn K μ3 d B R p := TI.fr (fr _ xg)
    have hgl := giveAll_len (R := R) (p := p) (c := c) (s := (S.giv, rowAt B S c)) i
    rw [giveAll_succ]
    generalize giveAll R p c (S.giv, rowAt B S c) i = s at T hgl
    refine wg_tup rfl (wgs_cons (wg_name (wgs_cons (wg_name (wgs_nil ?_)))))
    refine s_when (b := decide ((rAt R i).site = c.1)) ?_ (fun h => ?_) (fun h => ?_)
    · have e : decide ((rAt R i).site = c.1) = decide (((rAt R i).site : Int) = (c.1 : Int)) := by rw [decide_eq_decide]; omega
      rw [e]
      exact et_test (ev_eqI (ev_call (ea_cons (ev_fld (V' 0) TI3.ins cl (Fx.noat 52) rfl) (ea_cons (ev_ix (V' 9) ev_int) ea_nil)) ⟨B, (rAt R i).site, rfl, hr.site, rfl, rfl⟩ mono_site_number) (V' 2))
    · have h := of_decide_eq_true h
      have es : giveStep R p c s i = (updC s.1 (i, c.2) (joinRow (partRow s.2 (get2 p.del i c.2)).front), joinRow (partRow s.2 (get2 p.del i c.2)).rest) := if_pos h
      rw [es]
      obtain ⟨m, hm, hz, hk⟩ := T
      refine pw_asg (Ev.go (ev_call (ea_cons (V' 7) (ea_cons (ev_get2 (V' 4) (V' 8) (V' 3) sh.del hlt hc.2) ea_nil)) ⟨s.2, _, rfl, Nat.le_trans hgl hrl, rfl, rfl⟩ mono_parted) (wg_tup rfl (wgs_cons (wg_subDE (ev_fld (V' 0) TI3.ins cl (Fx.noat 55) rfl) (ev_tup (ea_cons (V' 8) (ea_cons (V' 3) ea_nil))) (keys2 i c.2) hm (sz_lt (by omega)) (wgs_cons (wg_name (wgs_nil ?_)))))))
      refine ⟨fun b hb => by rw [Mu.upd_ne hb, fr b hb], (Tbl.put (y := joinRow (partRow s.2 (get2 p.del i c.2)).front) (c := (i, c.2)) hz hk).cong (fun x => ?_) (fun x _ => rfl) (by omega), _, _, rfl⟩
      obtain ⟨x1, x2⟩ := x
      simp only [Prod.mk.injEq]
      constructor
      · rintro (h1 | ⟨h1, h2, h3⟩)
        · exact .inr (.inl h1)
        · rcases Nat.lt_succ_iff_lt_or_eq.mp h2 with h4 | h4
          · exact .inr (.inr ⟨h1, h4, h3⟩)
          · exact .inl ⟨h4, h1⟩
      · rintro (⟨h1, h2⟩ | h1 | ⟨h1, h2, h3⟩)
        · exact .inr ⟨h2, by omega, by rw [h1]; exact h⟩
        · exact .inl h1
        · exact .inr ⟨h1, by omega, h3⟩
    · have h := of_decide_eq_false h
      have es : giveStep R p c s i = s := if_neg h
      rw [es]
      refine ⟨fr, T.cong (fun x => ?_) (fun _ _ => rfl) (by omega), some (.int (i : Int)), some (rightD (rAt R i)), rfl⟩
      obtain ⟨x1, x2⟩ := x
      constructor
      · rintro (h1 | ⟨h1, h2, h3⟩)
        · exact .inl h1
        · rcases Nat.lt_succ_iff_lt_or_eq.mp h2 with h4 | h4
          · exact .inr ⟨h1, h4, h3⟩
          · simp only at h4 h3
            rw [h4] at h3; exact absurd h3 h
      · rintro (h1 | ⟨h1, h2, h3⟩)
        · exact .inl h1
        · exact .inr ⟨h1, Nat.lt_succ_of_lt h2, h3⟩
  · rintro ρ μ3 ⟨fr, T, a, b, rfl⟩
    have hlen : (enumD (R.map rightD)).length = R.length := by simp [enumD]
    rw [hlen] at T
    rw [hlen]
    have TI3 : TrIn K μ3 d B R p := TI.fr (fr _ xg)
    have hgl := giveAll_len (R := R) (p := p) (c := c) (s := (S.giv, rowAt B S c)) R.length
    have htr : traceStep B R p S c = ⟨(giveAll R p c (S.giv, rowAt B S c) R.length).1, updC S.lts c (joinRow (partRow (giveAll R p c (S.giv, rowAt B S c) R.length).2 (get2 p.rel c.1 c.2)).front), updC S.sto c (joinRow (partRow (joinRow (partRow (giveAll R p c (S.giv, rowAt B S c) R.length).2 (get2 p.rel c.1 c.2)).rest) (get2 p.sto c.1 c.2)).front), updC S.spi c (joinRow (partRow (joinRow (partRow (giveAll R p c (S.giv, rowAt B S c) R.length).2 (get2 p.rel c.1 c.2)).rest) (get2 p.sto c.1 c.2)).rest)⟩ := rfl
    rw [htr] at q
    generalize giveAll R p c (S.giv, rowAt B S c) R.length = s at T hgl q
    obtain ⟨ml, hml, hzl, hkl⟩ := TS.l
    obtain ⟨ms, hms, hzs, hks⟩ := TS.s
    obtain ⟨mp, hmp, hzp, hkp⟩ := TS.sp
    have hl2 : s.2.length ≤ 10000 := Nat.le_trans hgl hrl
    have hr2 : (joinRow (partRow s.2 (get2 p.rel c.1 c.2)).rest).length ≤ 10000 := Nat.le_trans (joinRow_len _) (by rw [(partRow_len _ _).2]; exact hl2)
    refine pw_seq (pw_asg (Ev.go (ev_call (ea_cons (V' 7) (ea_cons (ev_get2 (V' 5) (V' 2) (V' 3) sh.rel hc.1 hc.2) ea_nil)) ⟨s.2, _, rfl, hl2, rfl, rfl⟩ mono_parted) (wg_tup rfl (wgs_cons (wg_subDE (ev_fld (V' 0) TI3.ins cl (Fx.noat 56) rfl) (V' 1) (cellK_of c) ((fr _ (Ne.symm gl)).trans hml) (sz_lt (by omega)) (wgs_cons (wg_name (wgs_nil ?_))))))))
    have TI4 : TrIn K (μ3.upd d.l (.dct (put ml (cellK c) (rowD (joinRow (partRow s.2 (get2 p.rel c.1 c.2)).front))))) d B R p := TI3.fr (Mu.upd_ne xl)
    refine pw_asg (Ev.go (ev_call (ea_cons (V' 7) (ea_cons (ev_get2 (V' 6) (V' 2) (V' 3) sh.sto hc.1 hc.2) ea_nil)) ⟨_, _, rfl, hr2, rfl, rfl⟩ mono_parted) (wg_tup rfl (wgs_cons (wg_subDE (m := ms) (ev_fld (V' 0) TI4.ins cl (Fx.noat 57) rfl) (V' 1) (cellK_of c) ?_ (sz_lt (by omega)) (wgs_cons (wg_subDE (m := mp) (ev_fld (a := d.x) (V' 0) (((Mu.upd_ne xs).trans TI4.ins)) cl (Fx.noat 58) rfl) (V' 1) (cellK_of c) ?_ (sz_lt (by omega)) (wgs_nil ⟨_, Mu.sub.refl _, q _ ?_ ?_ ⟨?_, ?_, ?_, ?_⟩⟩)))))))
    · rw [Mu.upd_ne (Ne.symm ls), fr _ (Ne.symm gs), hms]
    · rw [Mu.upd_ne (Ne.symm ssp), Mu.upd_ne (Ne.symm lsp), fr _ (Ne.symm gsp), hmp]
    · intro b hb
      have h1 : b ≠ d.g := fun z => hb (.inl z)
      have h2 : b ≠ d.l := fun z => hb (.inr (.inl z))
      have h3 : b ≠ d.s := fun z => hb (.inr (.inr (.inl z)))
      have h4 : b ≠ d.sp := fun z => hb (.inr (.inr (.inr z)))
      rw [Mu.upd_ne h4, Mu.upd_ne h3, Mu.upd_ne h2, fr b h1]
    · exact TI4.fr (by rw [Mu.upd_ne xsp, Mu.upd_ne xs])
    · refine (T.fr ?_).cong (fun _ => Iff.rfl) (fun _ _ => rfl) (by omega)
      rw [Mu.upd_ne gsp, Mu.upd_ne gs, Mu.upd_ne gl]
    · refine ((Tbl.put (μ := μ3) (a := d.l) hzl hkl).fr ?_).cong (fun _ => Iff.rfl) (fun _ _ => rfl) (by omega)
      rw [Mu.upd_ne lsp, Mu.upd_ne ls]
    · refine ((Tbl.put (μ := μ3) (a := d.s) hzs hks).fr ?_).cong (fun _ => Iff.rfl) (fun _ _ => rfl) (by omega)
      rw [Mu.upd_ne ssp, Mu.upd_same, Mu.upd_same]
    · exact (Tbl.put hzp hkp).cong (fun _ => Iff.rfl) (fun _ _ => rfl) (by omega)
theorem sc_Tracing_lost : FnScope ["self", "cell"] ["self", "cell"] (defScope s_Tracing_lost) := ⟨rfl, rfl, rfl, by decide +kernel, rfl, by decide +kernel, by decide +kernel⟩
-- Tracing_lost: 0 self, 1 cell
def S_Tracing_lost (K : PySem.W.Frag) : Spec := fun ds μ Q => ∃ (d : Ads) (B : Basin) (R : List Right) (p : Plan) (S : TrS) (dg dc : Cell → Prop) (n : Nat) (c : Cell), ds = [.raw (.ref d.x), cellD c] ∧ B.Ok ∧ B.In c ∧ TrIn K μ d B R p ∧ TrSt μ d dg dc S n ∧ dc c ∧ Q (rowD (if B.letTo c = none then S.lts c else [])) μ
theorem len_Tracing_lost : (S_Tracing_lost K).len 2 := fun ds μ Q h => by obtain ⟨_, _, _, _, _, _, _, _, _, rfl, _⟩ := h; rfl
theorem mono_Tracing_lost : Mono (S_Tracing_lost K) := fun ds μ P P' f h => by obtain ⟨d, B, R, p, S, dg, dc, n, c, e, h1, h2, h3, h4, h5, q⟩ := h; exact ⟨d, B, R, p, S, dg, dc, n, c, e, h1, h2, h3, h4, h5, f _ _ q⟩
theorem c_Tracing_lost (Fx : Fx K mg) : Met P w K mg base 3 (He.ga K "Tracing") "lost" (S_Tracing_lost K) := by
  have hlen : (S_Tracing_lost K).len 2 := len_Tracing_lost
  obtain ⟨fd, F⟩ := Fx.c.def_ 18 (d := d_Tracing_lost) rfl
  refine ⟨_, fd, ["self", "cell"], Fx.cls 50, Fx.meth 61, fnok F sc_Tracing_lost hlen (fun cdv A outer s H E hr => ?_), FunD.bindsN F fun _ _ _ _ _ _ us hl => match us, hl with | [_, _], _ => rfl⟩
  have hu := hu_of hr
  have nd := sc_Tracing_lost.nd
  refine ⟨_, (pss_one (ps_ret (pe_ifExp (pt_cmp (pc_isN (k_cal (c_let_to Fx) hr (by decide) rfl (pa_cons (k_fld (K := K) (pv 0) rfl) (pa_cons (pv 1) pa_nil))))) (pe_dget hu (k_fld (K := K) (pv 0) rfl) (pv 1) (fun _ _ => rfl)) (pe_lst pa_nil)))), fun ds μ Pq hS => ?_⟩
  obtain ⟨d, B, R, p, S, dg, dc, n, c, rfl, ok, hc, TI, TS, hd, q⟩ := hS
  have cl := (Fx.cls 50)
  refine s_ret (d := rowD (if B.letTo c = none then S.lts c else [])) (ev_ite (b := (optD cellD (B.letTo c)).isN) (et_B (ev_isN (ev_call (ea_cons (ev_fld (V' 0) TI.ins cl (Fx.noat 52) rfl) (ea_cons (V' 1) ea_nil)) ⟨B, c, rfl, ok, hc, rfl, rfl⟩ mono_let_to))) (fun h => ?_) (fun h => ?_)) q
  · rw [isN_opt (fun _ => rfl)] at h
    rw [if_pos (Option.isNone_iff_eq_none.mp h)]
    exact ev_tbl (ev_fld (V' 0) TI.ins cl (Fx.noat 56) rfl) (V' 1) (cellK_of c) TS.l hd
  · rw [isN_opt (fun _ => rfl)] at h
    rw [if_neg (fun e => by rw [e] at h; cases h)]
    exact ev_lst ea_nil
theorem sc_tuples : FnScope ["rows", "many", "months", "month", "number"] ["rows", "many", "months"] (defScope s_tuples) := ⟨rfl, rfl, rfl, by decide +kernel, rfl, by decide +kernel, by decide +kernel⟩
-- tuples: 0 rows, 1 many, 2 months, 3 month, 4 number
def tupsD (many months : Nat) (f : Rows) : D := .tup ((List.range many).map fun k => .tup ((List.range months).map fun m => .tup ((f (k, m)).map parD)))
def S_tuples : Spec := fun ds μ Q => ∃ (a : Addr) (many months : Nat) (dom : Cell → Prop) (f : Rows) (n : Nat), ds = [.raw (.ref a), .int (many : Int), .int (months : Int)] ∧ many ≤ 10 ∧ months ≤ 10 ∧ Tbl rowD μ a dom f n ∧ (∀ k m, k < many → m < months → dom (k, m)) ∧ Q (tupsD many months f) μ
theorem len_tuples : S_tuples.len 3 := fun ds μ Q h => by obtain ⟨_, _, _, _, _, _, rfl, _⟩ := h; rfl
theorem mono_tuples : Mono S_tuples := fun ds μ P P' f h => by obtain ⟨a, k, m, dom, g, n, e, h1, h2, h3, h4, q⟩ := h; exact ⟨a, k, m, dom, g, n, e, h1, h2, h3, h4, f _ _ q⟩
theorem c_tuples (Fx : Fx K mg) : Cal P w K mg base 1 "tuples" S_tuples := by
  have hlen : Spec.len S_tuples 3 := len_tuples
  obtain ⟨fd, F⟩ := Fx.c.def_ 19 (d := d_tuples) rfl
  refine ⟨_, fd, ["rows", "many", "months"], fnok F sc_tuples hlen (fun cdv A outer s H E hr => ?_), Fx.glo 15, F.kp, FunD.bindsN F fun _ _ _ _ _ _ us hl => match us, hl with | [_, _, _], _ => rfl⟩
  have hu := hu_of hr
  have nd := sc_tuples.nd
  refine ⟨_, (pss_one (ps_ret (pe_callTy (k_tuple (K := K)) (by rfl) (Fx.free 101) (by decide +kernel) (pa_cons (pe_lc (own := [("number", 4)]) (g := (gName 4)) (tt := tYes) rfl nd (pi_range1 rfl (Fx.free 98) (pa_cons (pv 1) pa_nil)) (blkOk_by (by kernel_rfl)) (fun _ _ _ _ _ => by exact (pg_name (i := 4) nd rfl (by first | exact Or.inl rfl | exact Or.inr rfl))) (fun _ _ _ _ _ => by exact pts_nil) (fun _ _ _ _ _ => by exact (pe_callTy (k_tuple (K := K)) (by rfl) (Fx.free 101) (by decide +kernel) (pa_cons (pe_lc (own := [("month", 3)]) (g := (gName 3)) (tt := tYes) rfl nd (pi_range1 rfl (Fx.free 98) (pa_cons (pv 2) pa_nil)) (blkOk_by (by kernel_rfl)) (fun _ _ _ _ _ => by exact (pg_name (i := 3) nd rfl (by first | exact Or.inl rfl | exact Or.inr rfl))) (fun _ _ _ _ _ => by exact pts_nil) (fun _ _ _ _ _ => by exact (pe_callTy (k_tuple (K := K)) (by rfl) (Fx.free 101) (by decide +kernel) (pa_cons (pe_dget hu (pv 0) (pe_tup (pa_cons (pv 4) (pa_cons (pv 3) pa_nil))) (fun _ _ => rfl)) pa_nil)))) pa_nil)))) pa_nil)))), fun ds μ Pq hS => ?_⟩
  obtain ⟨a, many, months, dom, f, n, rfl, h1, h2, T, hd, q⟩ := hS
  refine s_ret (ev_tupleOf (ev_lcR (n := many) (fun k => .tup ((List.range months).map fun m => .tup ((f (k, m)).map parD))) (ea_cons (V' 1) ea_nil) (by omega) (fun k hk => ?_)) (.inl rfl)) q
  refine ev_tupleOf (ev_lcR (n := months) (fun m => .tup ((f (k, m)).map parD)) (ea_cons (V' 2) ea_nil) (by omega) (fun m hm => ?_)) (.inl rfl)
  exact ev_tupleOf (ev_tbl (V' 0) (ev_tup (ea_cons (V' 4) (ea_cons (V' 3) ea_nil))) (keys2 k m) T (hd k m hk hm)) (.inl rfl)
end
end Hw
set_option Elab.async false
set_option linter.all false
set_option maxRecDepth 100000
set_option maxHeartbeats 4000000
/-! A basin run by targets. -/
namespace Hw
open PySem PySem.Spec L2
def set2 (t : List (List Int)) (i j : Nat) (v : Int) : List (List Int) := t.set i ((t[i]?.getD []).set j v)
def serveStep (R : List Right) (c : Cell) (s : Plan × Int) (r : Nat) : Plan × Int := if (rAt R r).site = c.1 then
  (⟨set2 s.1.del r c.2 (min (((rAt R r).demands[c.2]?).getD 0) s.2), s.1.rel, s.1.sto⟩, s.2 - min (((rAt R r).demands[c.2]?).getD 0) s.2) else s
def serveAll (R : List Right) (c : Cell) (s : Plan × Int) (i : Nat) : Plan × Int := (List.range i).foldl (serveStep R c) s
theorem serveAll_succ {R : List Right} {c : Cell} {s : Plan × Int} {i : Nat} : serveAll R c s (i + 1) = serveStep R c (serveAll R c s i) i := by
  unfold serveAll
  rw [List.range_succ, List.foldl_append]; rfl
def downOf (B : Basin) (c : Cell) (w : Int) : Int := match (B.at c.1).reach with
  | none => w
  | some r => min r w
def letDown (B : Basin) (p : Plan) (c : Cell) (w : Int) : Plan × Int := if B.letTo c = none then (p, w) else (⟨p.del, set2 p.rel c.1 c.2 (downOf B c w), p.sto⟩, w - downOf B c w)
def runCell (B : Basin) (R : List Right) (T : List (List Int)) (p : Plan) (c : Cell) : Plan :=
  let s := serveAll R c (p, recv B p c) R.length
  let k := min (min (get2 T c.1 c.2) (B.at c.1).room) s.2
  let l := letDown B s.1 c (s.2 - k)
  ⟨l.1.del, l.1.rel, set2 l.1.sto c.1 c.2 (min (B.at c.1).room (k + l.2))⟩
def noPlan (B : Basin) (R : List Right) : Plan := ⟨List.replicate R.length (List.replicate B.months 0), List.replicate B.sites.length (List.replicate B.months 0), List.replicate B.sites.length (List.replicate B.months 0)⟩
def runBy (B : Basin) (R : List Right) (T : List (List Int)) : Plan := B.cells.foldl (runCell B R T) (noPlan B R)
theorem Tab.set2 {a b i j : Nat} {v : Int} {t : List (List Int)} (T : Tab a b t) : Tab a b (Hw.set2 t i j v) := by
  unfold Hw.set2
  refine ⟨by rw [List.length_set]; exact T.1, fun r hr => ?_⟩
  rcases List.mem_or_eq_of_mem_set hr with h | h
  · exact T.2 r h
  · rw [h, List.length_set]
    by_cases hi : i < t.length
    · rw [List.getElem?_eq_getElem hi]; exact T.2 _ (List.getElem_mem hi)
    · rw [List.set_eq_of_length_le (by omega)] at hr
      have h2 := T.2 r hr
      rw [h, List.length_set] at h2; exact h2
theorem get2_set2 {a b i j i' j' : Nat} {v : Int} {t : List (List Int)} (T : Tab a b t) (hi : i < a) (hj : j < b) : get2 (Hw.set2 t i j v) i' j' = if i' = i ∧ j' = j then v else get2 t i' j' := by
  unfold get2 Hw.set2
  have hl : i < t.length := by rw [T.1]; exact hi
  have hr : (t[i]?.getD []).length = b := by rw [List.getElem?_eq_getElem hl]; exact T.2 _ (List.getElem_mem hl)
  by_cases e : i' = i
  · subst e
    rw [List.getElem?_set_self hl]
    show ((((t[i']?.getD []).set j v))[j']?).getD 0 = _
    by_cases e2 : j' = j
    · subst e2
      rw [List.getElem?_set_self (by rw [hr]; exact hj), if_pos ⟨rfl, rfl⟩]; rfl
    · rw [List.getElem?_set_ne (Ne.symm e2), if_neg (fun z => e2 z.2)]
  · rw [List.getElem?_set_ne (Ne.symm e), if_neg (fun z => e z.1)]
abbrev rawL (as : List Addr) : List D := as.map fun a => .raw (.ref a)
structure Grid (μ : Mu) (as : List Addr) (t : List (List Int)) : Prop where
  len : as.length = t.length
  at_ : ∀ (i : Nat) (a : Addr), as[i]? = some a → μ a = some (.lst ((t[i]?.getD []).map .int))
theorem Grid.fr {μ μ' : Mu} {as : List Addr} {t : List (List Int)} (g : Grid μ as t) (e : ∀ a ∈ as, μ' a = μ a) : Grid μ' as t := ⟨g.len, fun i a h => (e a (List.mem_of_getElem? h)).trans (g.at_ i a h)⟩
theorem Grid.set {μ : Mu} {as : List Addr} {t : List (List Int)} {i j : Nat} {a : Addr} {v : Int} (g : Grid μ as t) (nd : as.Nodup) (h : as[i]? = some a) : Grid (μ.upd a (.lst ((((t[i]?.getD []).map D.int)).set j (.int v)))) as (set2 t i j v) := by
  refine ⟨by unfold set2; rw [List.length_set]; exact g.len, fun k b hb => ?_⟩
  unfold set2
  have hi : i < as.length := (List.getElem?_eq_some_iff.mp h).1
  by_cases e : k = i
  · subst e
    rw [h] at hb; cases hb
    rw [Mu.upd_same, List.getElem?_set_self (by rw [← g.len]; exact hi)]
    show some (MO.lst ((List.map D.int (t[k]?.getD [])).set j (.int v))) = some (.lst (List.map D.int ((t[k]?.getD []).set j v)))
    rw [List.map_set]
  · have hne : b ≠ a := fun z => by
      subst z
      have := (List.getElem?_inj hi nd).mp (h.trans hb.symm)
      exact e this.symm
    rw [Mu.upd_ne hne, List.getElem?_set_ne (Ne.symm e)]
    exact g.at_ k b hb
section
variable {K : PySem.W.Frag} {ρ : List (Option D)} {μ : Mu} {ta tb te : TE} {x y d : D} {t : TA} {ds : List D} {P : D → Mu → Prop} {g : TG}
theorem we_grid {wi : TI} {vs : List Nat} {ds0 z : List D} (hg : GOk g vs) (hz : ds0.length ≤ 100000) (hi : WI K wi ρ μ fun ds inv μ' => ds = ds0 ∧ μ' = μ ∧ (∀ μ, inv μ)) (he : ∀ (i : Nat) d, ds0[i]? = some d → ∀ μ', (∀ b o, μ b = some o → μ' b = some o) → WG K g d (wipeR ρ vs) μ' fun ρ1 μ1 => μ1 = μ' ∧ WE K te ρ1 μ' (fun y μ3 => ∃ c, μ' c = none ∧ y = .raw (.ref c) ∧ μ3 = μ'.upd c (.lst z)))
    (p : ∀ (as : List Addr) (μ' : Mu), as.length = ds0.length → as.Nodup → (∀ a ∈ as, μ a = none ∧ μ' a = some (.lst z)) → (∀ b, b ∉ as → μ' b = μ b) → P (.lst (rawL as)) μ') : WE K (tLc wi g tYes te vs) ρ μ P := by
  refine we_lc (fun i acc μ' => ∃ as : List Addr, acc = rawL as ∧ as.length = i ∧ as.Nodup ∧ (∀ a ∈ as, μ a = none ∧ μ' a = some (.lst z)) ∧ (∀ b, b ∉ as → μ' b = μ b)) hg ?_
  refine fun G0 H0 G H σ A R q => hi G0 H0 G H σ A R fun J ds inv μ' G' H' pp => ?_
  obtain ⟨rfl, rfl, iv⟩ := pp
  refine q J ds inv μ' G' H' ⟨⟨[], rfl, rfl, List.nodup_nil, by simp, fun _ _ => rfl⟩, ?_, sz_of hz, ?_, ?_⟩
  · rintro i acc μ2 ⟨as, rfl, h1, h2, h3, h4⟩
    exact ⟨iv _, by rw [List.length_map]; omega⟩
  · rintro i d acc μ2 hd ⟨as, rfl, h1, h2, h3, h4⟩
    have keep : ∀ b o, μ' b = some o → μ2 b = some o := fun b o e => by
      by_cases hb : b ∈ as
      · rw [(h3 b hb).1] at e; cases e
      · rw [h4 b hb]; exact e
    refine fun G0 H0 G H σ v A i1 Q q => he i d hd μ2 keep G0 H0 G H σ v A i1 Q fun ρ1 μ1 σ1 G1 H1 pp => q ρ1 μ1 σ1 G1 H1 ?_
    obtain ⟨rfl, hE⟩ := pp
    refine WT.yes ⟨fun _ => hE.imp ?_, fun h => by cases h⟩
    rintro y μ3 ⟨c, hc, rfl, rfl⟩
    have hca : c ∉ as := fun z => by rw [(h3 c z).2] at hc; cases hc
    refine ⟨as ++ [c], by simp [rawL], by simp [h1], ?_, ?_, ?_⟩
    · exact List.nodup_append.mpr ⟨h2, List.nodup_cons.mpr ⟨by simp, List.nodup_nil⟩, fun a ha b hb e => by
        rw [List.mem_singleton] at hb
        exact hca (hb ▸ e ▸ ha)⟩
    · intro a ha
      rcases List.mem_append.mp ha with h | h
      · have : a ≠ c := fun z => hca (z ▸ h)
        exact ⟨(h3 a h).1, by rw [Mu.upd_ne this]; exact (h3 a h).2⟩
      · rw [List.mem_singleton] at h
        subst h
        exact ⟨by rw [← h4 a hca]; exact hc, Mu.upd_same⟩
    · intro b hb
      rw [List.mem_append, List.mem_singleton, not_or] at hb
      rw [Mu.upd_ne hb.2]; exact h4 b hb.1
  · rintro acc μ2 ⟨as, rfl, h1, h2, h3, h4⟩
    exact p as μ2 h1 h2 h3 h4
/-- tuple([tuple(row) for row in rows]) of a grid -/
theorem ev_snap {as : List Addr} {tab : List (List Int)} {j l : Nat} {vs : List Nat} (hj : (wipeR ρ vs)[j]? = (ρ[j]?)) (hr : ρ[j]? = some (some (.lst (rawL as)))) (hl : l ∈ vs) (hln : l < ρ.length) (gr : Grid μ as tab) (hz : tab.length ≤ 1000) :
    Ev K (tCB (rTupleOf K) (tCons (tLc (iList K (tVar j)) (gName l) tYes (tCB (rTupleOf K) (tCons (tVar l) tNil)) vs) tNil)) ρ μ (tabD tab) := by
  have e := gr.len
  refine ev_tupleOf (ev_lc (es := rawL as) (fs := tab.map intsD) (gok_name hl) (sz_of (by rw [List.length_map]; omega)) (by simp [e]) (wi_lstP (ev_var hr)) (fun i d y hd hy => ?_)) (.inl rfl)
  rw [List.getElem?_map] at hd hy
  cases ha : as[i]? with
  | none => rw [ha] at hd; cases hd
  | some a =>
    rw [ha] at hd; cases hd
    have hm := gr.at_ i a ha
    cases ht : tab[i]? with
    | none => rw [ht] at hy; cases hy
    | some r =>
      rw [ht] at hy; cases hy
      rw [ht] at hm
      refine wg_name ⟨rfl, ev_tupleOf (ds := r.map .int) (ev_var (d := .raw (.ref a)) ?_) (.inr ⟨a, rfl, hm⟩)⟩
      rw [List.getElem?_set_self]
      have : ∀ vs : List Nat, (wipeR ρ vs).length = ρ.length := fun vs => by
        induction vs with
        | nil => rfl
        | cons v vs ih => unfold wipeR; rw [List.length_set]; exact ih
      rw [this]; exact hln
end
section
variable {K : PySem.W.Frag} {ρ : List (Option D)} {μ : Mu} {ta te : TE} {x : Addr} {ts tz : TS} {Φ : Out → Prop} {C : Addr} {fs : List (Str × D)} {f : Str} {z : List D} {n : Nat}
/-- o.f = a new grid -/
theorem s_fldG (h : ∀ P : D → Mu → Prop, (∀ (as : List Addr) (μ' : Mu), as.length = n → as.Nodup → (∀ a ∈ as, μ a = none ∧ μ' a = some (.lst z)) → (∀ b, b ∉ as → μ' b = μ b) → P (.lst (rawL as)) μ') → WE K te ρ μ P) (ho : ∀ μ, Ev K ta ρ μ (.raw (.ref x))) (hm : μ x = some (.ins C fs)) (cl : Cls K C) (na : NoAttr K C f) {fs' : List Addr → List (Str × D)}
    (k : ∀ (as : List Addr) (μ' : Mu), as.length = n → as.Nodup → x ∉ as → (∀ a ∈ as, μ a = none ∧ μ' a = some (.lst z)) → (∀ b, b ∉ as → μ' b = μ b) → Φ (.nx ρ (μ'.upd x (.ins C (fs' as))))) (e : ∀ as, putD f (.lst (rawL as)) fs = fs' as := by exact fun _ => rfl) (hl : fs.length < 1000 := by exact of_decide_eq_true rfl) : PW K (sFld K ta te f) ρ μ Φ :=
  pw_fld (h _ fun as μ' h1 h2 h3 h4 => by
    have hx : x ∉ as := fun w => by rw [(h3 x w).1] at hm; cases hm
    exact (ho _).go ⟨x, C, fs, rfl, by rw [h4 x hx, hm], cl, na, hl, by rw [e]; exact k as μ' h1 h2 hx h3 h4⟩)
end
structure RunSt (K : PySem.W.Frag) (μ : Mu) (x : Addr) (ad ar as : List Addr) (B : Basin) (R : List Right) (T : List (List Int)) (p : Plan) : Prop where
  ins : μ x = some (.ins (He.ga K "Running") [("basin", basinD B), ("rights", rightsD R), ("targets", tabD T), ("deliveries", .lst (rawL ad)), ("releases", .lst (rawL ar)), ("storages", .lst (rawL as))])
  d : Grid μ ad p.del
  r : Grid μ ar p.rel
  s : Grid μ as p.sto
  nd : (x :: (ad ++ (ar ++ as))).Nodup
section
variable {P : Program} {w : World} {K : PySem.W.Frag} {mg : Str → Option Value} {base : Heap}
theorem sc_Running_init : FnScope ["self", "basin", "rights", "targets", "_"] ["self", "basin", "rights", "targets"] (defScope s_Running_init) := ⟨rfl, rfl, rfl, by decide +kernel, rfl, by decide +kernel, by decide +kernel⟩
-- Running___init__: 0 self, 1 basin, 2 rights, 3 targets, 4 _
def S_Running_init (K : PySem.W.Frag) : Spec := fun ds μ Q => ∃ (x : Addr) (B : Basin) (R : List Right) (T : List (List Int)), ds = [.raw (.ref x), basinD B, rightsD R, tabD T] ∧ B.Ok ∧ RightsOk B R ∧ μ x = some (.ins (He.ga K "Running") []) ∧
  ∀ (ad ar as : List Addr) (μ' : Mu), (∀ b ∈ ad ++ (ar ++ as), μ b = none) → (∀ b, b ≠ x → b ∉ ad ++ (ar ++ as) → μ' b = μ b) → RunSt K μ' x ad ar as B R T (noPlan B R) → Q .non μ'
theorem len_Running_init : (S_Running_init K).len 4 := fun ds μ Q h => by obtain ⟨_, _, _, _, rfl, _⟩ := h; rfl
theorem mono_Running_init : Mono (S_Running_init K) := fun ds μ P P' f h => by obtain ⟨x, B, R, p, e, h1, h2, h, q⟩ := h; exact ⟨x, B, R, p, e, h1, h2, h, fun a b c μ' h3 h4 h5 => f _ _ (q a b c μ' h3 h4 h5)⟩
theorem m_Running (Fx : Fx K mg) : Mak P w K mg base 1 "Running" (He.ga K "Running") (S_Running_init K) := by
  have hlen : (S_Running_init K).len 4 := len_Running_init
  obtain ⟨fd, F⟩ := Fx.c.def_ 35 (d := d_Running_init) rfl
  refine ⟨_, fd, ["self", "basin", "rights", "targets"], Fx.mkr 86, fnok F sc_Running_init hlen (fun cdv A outer s H E hr => ?_), Fx.glo 84, FunD.bindsN F fun _ _ _ _ _ _ us hl => match us, hl with | [_, _, _, _], _ => rfl⟩
  have hu := hu_of hr
  have nd := sc_Running_init.nd
  refine ⟨_, (pss_cons (ps_fld (pv 0) (pv 1) rfl)
      (pss_cons (ps_fld (pv 0) (pv 2) rfl)
      (pss_cons (ps_fld (pv 0) (pv 3) rfl)
      (pss_cons (ps_fld (pv 0) (pe_lc (own := [("_", 4)]) (g := (gName 4)) (tt := tYes) rfl nd (k_tup_ (K := K) (pv 2)) (blkOk_by (by kernel_rfl)) (fun _ _ _ _ _ => by exact (pg_name (i := 4) nd rfl (by first | exact Or.inl rfl | exact Or.inr rfl))) (fun _ _ _ _ _ => by exact pts_nil) (fun _ _ _ _ _ => by exact (pe_op op_rep (pe_lst (pa_cons pe_int pa_nil)) (pe_ix (k_ix (K := K)) (pv 1) pe_int (fun _ _ => rfl))))) rfl)
      (pss_cons (ps_fld (pv 0) (pe_lc (own := [("_", 4)]) (g := (gName 4)) (tt := tYes) rfl nd (k_tup_ (K := K) (pe_ix (k_ix (K := K)) (pv 1) pe_int (fun _ _ => rfl))) (blkOk_by (by kernel_rfl)) (fun _ _ _ _ _ => by exact (pg_name (i := 4) nd rfl (by first | exact Or.inl rfl | exact Or.inr rfl))) (fun _ _ _ _ _ => by exact pts_nil) (fun _ _ _ _ _ => by exact (pe_op op_rep (pe_lst (pa_cons pe_int pa_nil)) (pe_ix (k_ix (K := K)) (pv 1) pe_int (fun _ _ => rfl))))) rfl)
      (pss_one (ps_fld (pv 0) (pe_lc (own := [("_", 4)]) (g := (gName 4)) (tt := tYes) rfl nd (k_tup_ (K := K) (pe_ix (k_ix (K := K)) (pv 1) pe_int (fun _ _ => rfl))) (blkOk_by (by kernel_rfl)) (fun _ _ _ _ _ => by exact (pg_name (i := 4) nd rfl (by first | exact Or.inl rfl | exact Or.inr rfl))) (fun _ _ _ _ _ => by exact pts_nil) (fun _ _ _ _ _ => by exact (pe_op op_rep (pe_lst (pa_cons pe_int pa_nil)) (pe_ix (k_ix (K := K)) (pv 1) pe_int (fun _ _ => rfl))))) rfl))))))), fun ds μ Pq hS => ?_⟩
  obtain ⟨x, B, R, T, rfl, ok, rok, hx, q⟩ := hS
  have cl := (Fx.cls 85)
  refine q_fld (V' 1) (V' 0) hx cl (Fx.noat 87) ?_
  refine q_fld (V' 2) (V' 0) Mu.upd_same cl (Fx.noat 88) ?_
  refine q_fld (V' 3) (V' 0) Mu.upd_same cl (Fx.noat 89) ?_
  rw [Mu.upd_upd, Mu.upd_upd]
  have hm4 := ok.m4
  have hm1 := ok.m1
  have hn3 := ok.n3
  have hR3 := rok.1
  have zs : (List.replicate B.months [D.int 0]).flatten = (List.replicate B.months (0 : Int)).map D.int := by
    rw [List.flatten_replicate_singleton, List.map_replicate]
  have cell : ∀ {ρ : List (Option D)} {μ : Mu}, ρ[1]? = some (some (basinD B)) → WE K (tOp rRep (tLst (tCons (tC (.int 0)) tNil)) (tOp (rIx K) (tVar 1) (tC (.int 0)))) ρ μ (fun y μ3 => ∃ c, μ c = none ∧ y = .raw (.ref c) ∧ μ3 = μ.upd c (.lst ((List.replicate B.months (0 : Int)).map D.int))) := fun {ρ μ} h => by
    refine ev_op (ev_lst (ea_cons ev_int ea_nil)) (ev_ix (ev_var h) ev_int) (ro_rep (n := B.months) (.inl rfl) (by omega) (by rw [List.length_singleton]; omega) fun c hc => ⟨c, hc, rfl, ?_⟩)
    rw [zs]
  refine pw_seq (s_fldG (n := R.length) (z := (List.replicate B.months (0 : Int)).map D.int) (fun P p => we_grid (ds0 := R.map rightD) gok_name (by rw [List.length_map]; omega) (wi_tupE (V' (d := rightsD R) 2) ⟨rfl, rfl, fun _ => trivial⟩) (fun i d hd μ' _ => wg_name ⟨rfl, cell rfl⟩) (by rw [List.length_map]; exact p)) (fun _ => V' 0) Mu.upd_same cl (Fx.noat 90) fun ad μ1 l1 n1 x1 a1 f1 => ?_)
  refine pw_seq (s_fldG (n := B.sites.length) (z := (List.replicate B.months (0 : Int)).map D.int) (fun P p => we_grid (ds0 := B.sites.mapIdx siteD) gok_name (by rw [List.length_mapIdx]; omega) (wi_tupE (ev_ix (V' (d := basinD B) 1) ev_int) ⟨rfl, rfl, fun _ => trivial⟩) (fun i d hd μ' _ => wg_name ⟨rfl, cell rfl⟩) (by rw [List.length_mapIdx]; exact p)) (fun _ => V' 0) Mu.upd_same cl (Fx.noat 91) fun ar μ2 l2 n2 x2 a2 f2 => ?_)
  refine s_fldG (n := B.sites.length) (z := (List.replicate B.months (0 : Int)).map D.int) (fun P p => we_grid (ds0 := B.sites.mapIdx siteD) gok_name (by rw [List.length_mapIdx]; omega) (wi_tupE (ev_ix (V' (d := basinD B) 1) ev_int) ⟨rfl, rfl, fun _ => trivial⟩) (fun i d hd μ' _ => wg_name ⟨rfl, cell rfl⟩) (by rw [List.length_mapIdx]; exact p)) (fun _ => V' 0) Mu.upd_same cl (Fx.noat 92) fun as μ3 l3 n3 x3 a3 f3 => ?_
  -- where all stands at the end
  have d1 : ∀ a ∈ ad, μ a = none ∧ a ≠ x := fun a h => by
    have hx : a ≠ x := fun e => x1 (e ▸ h)
    have := (a1 a h).1
    rw [Mu.upd_ne hx] at this
    exact ⟨this, hx⟩
  have s1 : ∀ a ∈ ad, a ∉ ar := fun a h h' => by
    have := (a2 a h').1
    rw [Mu.upd_ne (d1 a h).2, (a1 a h).2] at this; cases this
  have d2 : ∀ a ∈ ar, μ a = none ∧ a ≠ x := fun a h => by
    have hx : a ≠ x := fun e => x2 (e ▸ h)
    have := (a2 a h).1
    rw [Mu.upd_ne hx, f1 a (fun z => s1 a z h), Mu.upd_ne hx] at this
    exact ⟨this, hx⟩
  have v2 : ∀ a, a ≠ x → a ∉ ar → μ2 a = μ1 a := fun a h h' => by rw [f2 a h', Mu.upd_ne h]
  have s2 : ∀ a ∈ ad, a ∉ as := fun a h h' => by
    have := (a3 a h').1
    rw [Mu.upd_ne (d1 a h).2, v2 a (d1 a h).2 (s1 a h), (a1 a h).2] at this; cases this
  have s3 : ∀ a ∈ ar, a ∉ as := fun a h h' => by
    have := (a3 a h').1
    rw [Mu.upd_ne (d2 a h).2, (a2 a h).2] at this; cases this
  have d3 : ∀ a ∈ as, μ a = none ∧ a ≠ x := fun a h => by
    have hx : a ≠ x := fun e => x3 (e ▸ h)
    have := (a3 a h).1
    rw [Mu.upd_ne hx, v2 a hx (fun z => s3 a z h), f1 a (fun z => s2 a z h), Mu.upd_ne hx] at this
    exact ⟨this, hx⟩
  refine ⟨_, Mu.sub.refl _, q ad ar as _ (fun b hb => ?_) (fun b hx hb => ?_) ⟨Mu.upd_same, ⟨?_, fun i a h => ?_⟩, ⟨?_, fun i a h => ?_⟩, ⟨?_, fun i a h => ?_⟩, ?_⟩⟩
  · rcases List.mem_append.mp hb with h | h
    · exact (d1 b h).1
    · rcases List.mem_append.mp h with h | h
      · exact (d2 b h).1
      · exact (d3 b h).1
  · rw [List.mem_append, List.mem_append, not_or, not_or] at hb
    rw [Mu.upd_ne hx, f3 b hb.2.2, Mu.upd_ne hx, f2 b hb.2.1, Mu.upd_ne hx, f1 b hb.1, Mu.upd_ne hx]
  · rw [l1]; exact (List.length_replicate).symm
  · have hm := List.mem_of_getElem? h
    have hi := (List.getElem?_eq_some_iff.mp h).1
    have e : (noPlan B R).del[i]?.getD [] = List.replicate B.months 0 := by
      show (List.replicate R.length (List.replicate B.months (0 : Int)))[i]?.getD [] = _
      rw [List.getElem?_replicate, if_pos (by omega)]; rfl
    rw [e, Mu.upd_ne (d1 a hm).2, f3 a (s2 a hm), Mu.upd_ne (d1 a hm).2, v2 a (d1 a hm).2 (s1 a hm), (a1 a hm).2]
  · rw [l2]; exact (List.length_replicate).symm
  · have hm := List.mem_of_getElem? h
    have hi := (List.getElem?_eq_some_iff.mp h).1
    have e : (noPlan B R).rel[i]?.getD [] = List.replicate B.months 0 := by
      show (List.replicate B.sites.length (List.replicate B.months (0 : Int)))[i]?.getD [] = _
      rw [List.getElem?_replicate, if_pos (by omega)]; rfl
    rw [e, Mu.upd_ne (d2 a hm).2, f3 a (s3 a hm), Mu.upd_ne (d2 a hm).2, (a2 a hm).2]
  · rw [l3]; exact (List.length_replicate).symm
  · have hm := List.mem_of_getElem? h
    have hi := (List.getElem?_eq_some_iff.mp h).1
    have e : (noPlan B R).sto[i]?.getD [] = List.replicate B.months 0 := by
      show (List.replicate B.sites.length (List.replicate B.months (0 : Int)))[i]?.getD [] = _
      rw [List.getElem?_replicate, if_pos (by omega)]; rfl
    rw [e, Mu.upd_ne (d3 a hm).2, (a3 a hm).2]
  · refine List.nodup_cons.mpr ⟨?_, List.nodup_append.mpr ⟨n1, List.nodup_append.mpr ⟨n2, n3, fun a h b h' e => s3 a h (e ▸ h')⟩, fun a h b h' e => ?_⟩⟩
    · rw [List.mem_append, List.mem_append, not_or, not_or]; exact ⟨x1, x2, x3⟩
    · rcases List.mem_append.mp h' with z | z
      · exact s1 a h (e ▸ z)
      · exact s2 a h (e ▸ z)
theorem sc_Running_plan : FnScope ["self", "parts", "row", "rows"] ["self"] (defScope s_Running_plan) := ⟨rfl, rfl, rfl, by decide +kernel, rfl, by decide +kernel, by decide +kernel⟩
-- Running_plan: 0 self, 1 parts, 2 row, 3 rows
def S_Running_plan (K : PySem.W.Frag) : Spec := fun ds μ Q => ∃ (x : Addr) (ad ar as : List Addr) (B : Basin) (R : List Right) (T : List (List Int)) (p : Plan), ds = [.raw (.ref x)] ∧ B.Ok ∧ RightsOk B R ∧ p.Shape B R ∧ RunSt K μ x ad ar as B R T p ∧ Q (planD p) μ
theorem len_Running_plan : (S_Running_plan K).len 1 := fun ds μ Q h => by obtain ⟨_, _, _, _, _, _, _, _, rfl, _⟩ := h; rfl
theorem mono_Running_plan : Mono (S_Running_plan K) := fun ds μ P P' f h => by obtain ⟨x, a, b, c, B, R, T, p, e, h1, h2, h3, h, q⟩ := h; exact ⟨x, a, b, c, B, R, T, p, e, h1, h2, h3, h, f _ _ q⟩
theorem c_Running_plan (Fx : Fx K mg) : Met P w K mg base 1 (He.ga K "Running") "plan" (S_Running_plan K) := by
  have hlen : (S_Running_plan K).len 1 := len_Running_plan
  obtain ⟨fd, F⟩ := Fx.c.def_ 39 (d := d_Running_plan) rfl
  refine ⟨_, fd, ["self"], Fx.cls 85, Fx.meth 96, fnok F sc_Running_plan hlen (fun cdv A outer s H E hr => ?_), FunD.bindsN F fun _ _ _ _ _ _ us hl => match us, hl with | [_], _ => rfl⟩
  have hu := hu_of hr
  have nd := sc_Running_plan.nd
  refine ⟨_, (pss_cons (ps_set (i := 1) nd rfl (by first | exact Or.inl rfl | exact Or.inr rfl) (pe_tup (pa_cons (k_fld (K := K) (pv 0) rfl) (pa_cons (k_fld (K := K) (pv 0) rfl) (pa_cons (k_fld (K := K) (pv 0) rfl) pa_nil)))))
      (pss_one (ps_ret (pe_callTy (k_tuple (K := K)) (by rfl) (Fx.free 101) (by decide +kernel) (pa_cons (pe_lc (own := [("rows", 3)]) (g := (gName 3)) (tt := tYes) rfl nd (k_tup_ (K := K) (pv 1)) (blkOk_by (by kernel_rfl)) (fun _ _ _ _ _ => by exact (pg_name (i := 3) nd rfl (by first | exact Or.inl rfl | exact Or.inr rfl))) (fun _ _ _ _ _ => by exact pts_nil) (fun _ _ _ _ _ => by exact (pe_callTy (k_tuple (K := K)) (by rfl) (Fx.free 101) (by decide +kernel) (pa_cons (pe_lc (own := [("row", 2)]) (g := (gName 2)) (tt := tYes) rfl nd (k_list_ (K := K) (pv 3)) (blkOk_by (by kernel_rfl)) (fun _ _ _ _ _ => by exact (pg_name (i := 2) nd rfl (by first | exact Or.inl rfl | exact Or.inr rfl))) (fun _ _ _ _ _ => by exact pts_nil) (fun _ _ _ _ _ => by exact (pe_callTy (k_tuple (K := K)) (by rfl) (Fx.free 101) (by decide +kernel) (pa_cons (pv 2) pa_nil)))) pa_nil)))) pa_nil))))), fun ds μ Pq hS => ?_⟩
  obtain ⟨x, ad, ar, as, B, R, T, p, rfl, ok, rok, sh, S, q⟩ := hS
  have cl := (Fx.cls 85)
  have hn3 := ok.n3
  have hR3 := rok.1
  have hd := sh.del.1
  have hr := sh.rel.1
  have hs := sh.sto.1
  refine q_set (ev_tup (ea_cons (ev_fld (V' 0) S.ins cl (Fx.noat 90) rfl) (ea_cons (ev_fld (V' 0) S.ins cl (Fx.noat 91) rfl) (ea_cons (ev_fld (V' 0) S.ins cl (Fx.noat 92) rfl) ea_nil)))) ?_
  refine s_ret (ev_tupleOf (ev_lc (es := [.lst (rawL ad), .lst (rawL ar), .lst (rawL as)]) (fs := [tabD p.del, tabD p.rel, tabD p.sto]) gok_name (sz_of (by simp)) rfl (wi_tupP (V' 1)) (fun i d e hd' he => ?_)) (.inl rfl)) q
  match i, hd', he with
  | 0, hd', he => cases hd'; cases he; exact wg_name ⟨rfl, ev_snap rfl rfl (by simp) (of_decide_eq_true rfl) S.d (by omega)⟩
  | 1, hd', he => cases hd'; cases he; exact wg_name ⟨rfl, ev_snap rfl rfl (by simp) (of_decide_eq_true rfl) S.r (by omega)⟩
  | 2, hd', he => cases hd'; cases he; exact wg_name ⟨rfl, ev_snap rfl rfl (by simp) (of_decide_eq_true rfl) S.s (by omega)⟩
section
variable {μ : Mu} {x a : Addr} {ad ar as : List Addr} {B : Basin} {R : List Right} {T : List (List Int)} {p : Plan} {i j n m : Nat} {v : Int}
theorem RunSt.nx (S : RunSt K μ x ad ar as B R T p) {l : List Addr} (h : l = ad ∨ l = ar ∨ l = as) (ha : a ∈ l) : a ≠ x := fun e => by
  have := (List.nodup_cons.mp S.nd).1
  rw [List.mem_append, List.mem_append] at this
  rcases h with h | h | h <;> subst h <;> exact this (by simp [← e, ha])
theorem RunSt.setD (S : RunSt K μ x ad ar as B R T p) (h : ad[i]? = some a) : RunSt K (μ.upd a (.lst ((((p.del[i]?.getD []).map D.int)).set j (.int v)))) x ad ar as B R T ⟨set2 p.del i j v, p.rel, p.sto⟩ := by
  have nd := S.nd
  have n2 := (List.nodup_cons.mp nd).2
  have n3 := List.nodup_append.mp n2
  have ha := List.mem_of_getElem? h
  refine ⟨(Mu.upd_ne (Ne.symm (S.nx (.inl rfl) ha))).trans S.ins, S.d.set n3.1 h, S.r.fr fun b hb => Mu.upd_ne fun e => ?_, S.s.fr fun b hb => Mu.upd_ne fun e => ?_, nd⟩
  · exact n3.2.2 a ha b (List.mem_append_left _ hb) e.symm
  · exact n3.2.2 a ha b (List.mem_append_right _ hb) e.symm
theorem RunSt.setR (S : RunSt K μ x ad ar as B R T p) (h : ar[i]? = some a) : RunSt K (μ.upd a (.lst ((((p.rel[i]?.getD []).map D.int)).set j (.int v)))) x ad ar as B R T ⟨p.del, set2 p.rel i j v, p.sto⟩ := by
  have nd := S.nd
  have n2 := (List.nodup_cons.mp nd).2
  have n3 := List.nodup_append.mp n2
  have n4 := List.nodup_append.mp n3.2.1
  have ha := List.mem_of_getElem? h
  refine ⟨(Mu.upd_ne (Ne.symm (S.nx (.inr (.inl rfl)) ha))).trans S.ins, S.d.fr fun b hb => Mu.upd_ne fun e => ?_, S.r.set n4.1 h, S.s.fr fun b hb => Mu.upd_ne fun e => ?_, nd⟩
  · exact n3.2.2 b hb a (List.mem_append_left _ ha) e
  · exact n4.2.2 a ha b hb e.symm
theorem RunSt.setS (S : RunSt K μ x ad ar as B R T p) (h : as[i]? = some a) : RunSt K (μ.upd a (.lst ((((p.sto[i]?.getD []).map D.int)).set j (.int v)))) x ad ar as B R T ⟨p.del, p.rel, set2 p.sto i j v⟩ := by
  have nd := S.nd
  have n2 := (List.nodup_cons.mp nd).2
  have n3 := List.nodup_append.mp n2
  have n4 := List.nodup_append.mp n3.2.1
  have ha := List.mem_of_getElem? h
  refine ⟨(Mu.upd_ne (Ne.symm (S.nx (.inr (.inr rfl)) ha))).trans S.ins, S.d.fr fun b hb => Mu.upd_ne fun e => ?_, S.r.fr fun b hb => Mu.upd_ne fun e => ?_, S.s.set n4.2.1 h, nd⟩
  · exact n3.2.2 b hb a (List.mem_append_right _ ha) e
  · exact n4.2.2 b hb a ha e
/-- rows[i][j] of a grid -/
theorem ev_gr {ρ : List (Option D)} {t : TE} {ti tj : TE} {tab : List (List Int)} (h : Ev K t ρ μ (.lst (rawL as))) (hi : Ev K ti ρ μ (.int (i : Int))) (hj : Ev K tj ρ μ (.int (j : Int))) (g : Grid μ as tab) (T : Tab n m tab) (h1 : i < n) (h2 : j < m) : Ev K (tOp (rIx K) (tOp (rIx K) t ti) tj) ρ μ (.int (get2 tab i j)) := by
  have hl : i < as.length := by rw [g.len, T.1]; exact h1
  refine ev_ixL (x := .raw (.ref as[i])) (ev_ixL h hi (.inl rfl) (by rw [List.getElem?_map, List.getElem?_eq_getElem hl]; rfl)) hj (.inr ⟨_, rfl, g.at_ i _ (List.getElem?_eq_getElem hl)⟩) (get2_at T h1 h2)
end
theorem serveStep_shape {B : Basin} {R : List Right} {c : Cell} {s : Plan × Int} {r : Nat} (h : s.1.Shape B R) : (serveStep R c s r).1.Shape B R := by
  unfold serveStep
  split
  · exact ⟨h.del.set2, h.rel, h.sto⟩
  · exact h
theorem serveAll_shape {B : Basin} {R : List Right} {c : Cell} {s : Plan × Int} (h : s.1.Shape B R) : ∀ i, (serveAll R c s i).1.Shape B R
  | 0 => h
  | i + 1 => by rw [serveAll_succ]; exact serveStep_shape (serveAll_shape h i)
theorem sc_Running_serve : FnScope ["self", "cell", "water", "number", "month", "at", "right"] ["self", "cell", "water"] (defScope s_Running_serve) := ⟨rfl, rfl, rfl, by decide +kernel, rfl, by decide +kernel, by decide +kernel⟩
-- Running_serve: 0 self, 1 cell, 2 water, 3 number, 4 month, 5 at, 6 right
def S_Running_serve (K : PySem.W.Frag) : Spec := fun ds μ Q => ∃ (x : Addr) (ad ar as : List Addr) (B : Basin) (R : List Right) (T : List (List Int)) (p : Plan) (c : Cell) (w : Int), ds = [.raw (.ref x), cellD c, .int w] ∧ B.Ok ∧ RightsOk B R ∧ p.Shape B R ∧ B.In c ∧ RunSt K μ x ad ar as B R T p ∧
  ∀ μ', (∀ b, b ∉ ad ++ (ar ++ as) → μ' b = μ b) → RunSt K μ' x ad ar as B R T (serveAll R c (p, w) R.length).1 → Q (.int (serveAll R c (p, w) R.length).2) μ'
theorem len_Running_serve : (S_Running_serve K).len 3 := fun ds μ Q h => by obtain ⟨_, _, _, _, _, _, _, _, _, _, rfl, _⟩ := h; rfl
theorem mono_Running_serve : Mono (S_Running_serve K) := fun ds μ P P' f h => by obtain ⟨x, a, b, c, B, R, T, p, ce, w, e, h1, h2, h3, h4, h, q⟩ := h; exact ⟨x, a, b, c, B, R, T, p, ce, w, e, h1, h2, h3, h4, h, fun μ' u v => f _ _ (q μ' u v)⟩
theorem c_Running_serve (Fx : Fx K mg) : Met P w K mg base 2 (He.ga K "Running") "serve" (S_Running_serve K) := by
  have hlen : (S_Running_serve K).len 3 := len_Running_serve
  obtain ⟨fd, F⟩ := Fx.c.def_ 36 (d := d_Running_serve) rfl
  refine ⟨_, fd, ["self", "cell", "water"], Fx.cls 85, Fx.meth 93, fnok F sc_Running_serve hlen (fun cdv A outer s H E hr => ?_), FunD.bindsN F fun _ _ _ _ _ _ us hl => match us, hl with | [_, _, _], _ => rfl⟩
  have hu := hu_of hr
  have nd := sc_Running_serve.nd
  refine ⟨_, (pss_cons (ps_asg (pv 1) (pg_tup rfl (pgs_cons (pg_name (i := 3) nd rfl (by first | exact Or.inl rfl | exact Or.inr rfl)) (pgs_cons (pg_name (i := 4) nd rfl (by first | exact Or.inl rfl | exact Or.inr rfl)) pgs_nil))))
      (pss_cons (ps_for PassesOwn.never rfl (pi_enumT rfl (Fx.free 99) (pa_cons (k_fld (K := K) (pv 0) rfl) pa_nil)) (pg_tup rfl (pgs_cons (pg_name (i := 5) nd rfl (by first | exact Or.inl rfl | exact Or.inr rfl)) (pgs_cons (pg_name (i := 6) nd rfl (by first | exact Or.inl rfl | exact Or.inr rfl)) pgs_nil))) (pss_one (ps_if (pt_cmpR op_eq (k_cal (c_site_number Fx) hr (by decide) rfl (pa_cons (k_fld (K := K) (pv 0) rfl) (pa_cons (pe_ix (k_ix (K := K)) (pv 6) pe_int (fun _ _ => rfl)) pa_nil))) (pv 3) (nomark _)) (pss_cons (ps_asg (pe_callB (call_minA rfl) (by rfl) (Fx.free 103) (by decide +kernel) (pa_cons (pe_ix (k_ix (K := K)) (pe_ix (k_ix (K := K)) (pv 6) pe_int (fun _ _ => rfl)) (pv 4) (fun _ _ => rfl)) (pa_cons (pv 2) pa_nil))) (pg_sub (pe_ix (k_ix (K := K)) (k_fld (K := K) (pv 0) rfl) (pv 5) (fun _ _ => rfl)) (pv 4) set_list))
      (pss_one (ps_aug (i := 2) nd rfl (by first | exact Or.inl rfl | exact Or.inr rfl) (pe_ix (k_ix (K := K)) (pe_ix (k_ix (K := K)) (k_fld (K := K) (pv 0) rfl) (pv 5) (fun _ _ => rfl)) (pv 4) (fun _ _ => rfl)) ip_sub))) pss_nil)))
      (pss_one (ps_ret (pv 2))))), fun ds μ Pq hS => ?_⟩
  obtain ⟨x, ad, ar, as, B, R, T, p, c, w, rfl, ok, rok, sh, hc, S, q⟩ := hS
  have cl := (Fx.cls 85)
  refine q_two (V' 1) rfl ?_
  refine pw_seq (pw_for (fun i ρ μ' => (∀ b, b ∉ ad ++ (ar ++ as) → μ' b = μ b) ∧ RunSt K μ' x ad ar as B R T (serveAll R c (p, w) i).1 ∧ ∃ a b, ρ = [some (.raw (.ref x)), some (cellD c), some (.int (serveAll R c (p, w) i).2), some (.int (c.1 : Int)), some (.int (c.2 : Int)), a, b]) ?_)
  refine wi_enumT (ds := R.map rightD) (ea_cons (ev_fld (V' 0) S.ins cl (Fx.noat 88) rfl) ea_nil) ⟨⟨fun _ _ => rfl, S, none, none, rfl⟩, fun _ _ _ _ => trivial, ?_, ?_⟩
  · rintro i e ρ μ3 he ⟨fr, S3, a, b, rfl⟩
    obtain ⟨e2, he2, rfl⟩ := enumD_get he
    have hlt : i < R.length := by
      have h1 := (List.getElem?_eq_some_iff.mp he2).1
      rw [List.length_map] at h1; exact h1
    rw [rightAt hlt] at he2
    cases he2
    have hr := rok.at hlt
    have sh3 := serveAll_shape (c := c) (s := (p, w)) sh i
    rw [serveAll_succ]
    generalize serveAll R c (p, w) i = s at S3 sh3
    refine wg_tup rfl (wgs_cons (wg_name (wgs_cons (wg_name (wgs_nil ?_)))))
    refine s_when (b := decide ((rAt R i).site = c.1)) ?_ (fun h => ?_) (fun h => ?_)
    · have e : decide ((rAt R i).site = c.1) = decide (((rAt R i).site : Int) = (c.1 : Int)) := by rw [decide_eq_decide]; omega
      rw [e]
      exact et_test (ev_eqI (ev_call (ea_cons (ev_fld (V' 0) S3.ins cl (Fx.noat 87) rfl) (ea_cons (ev_ix (V' 6) ev_int) ea_nil)) ⟨B, (rAt R i).site, rfl, hr.site, rfl, rfl⟩ mono_site_number) (V' 3))
    · have h := of_decide_eq_true h
      have es : serveStep R c s i = (⟨set2 s.1.del i c.2 (min (((rAt R i).demands[c.2]?).getD 0) s.2), s.1.rel, s.1.sto⟩, s.2 - min (((rAt R i).demands[c.2]?).getD 0) s.2) := if_pos h
      rw [es]
      have hl : i < ad.length := by rw [S3.d.len, sh3.del.1]; exact hlt
      have ha : ad[i]? = some ad[i] := List.getElem?_eq_getElem hl
      have hm := S3.d.at_ i _ ha
      have hrl : ((s.1.del[i]?.getD []).map D.int).length = B.months := by
        rw [List.length_map, List.getElem?_eq_getElem (by rw [sh3.del.1]; exact hlt)]
        exact sh3.del.2 _ (List.getElem_mem _)
      have S4 := S3.setD (j := c.2) (v := min (((rAt R i).demands[c.2]?).getD 0) s.2) ha
      refine pw_seq (pw_asg (Ev.go (ev_min2 (ev_ixN (ev_ix (V' 6) ev_int) (V' 4) (demAt hr hc.2)) (V' 2)) (wg_subL (Ev.go (ev_ixL (ev_fld (V' 0) S3.ins cl (Fx.noat 90) rfl) (V' 5) (.inl rfl) (by rw [List.getElem?_map, ha]; rfl)) (Ev.go (V' 4) ⟨ad[i], _, _, c.2, rfl, rfl, hm, ?_, ?_⟩)))))
      · unfold ixN
        have hc2 := hc.2
        rw [if_pos (by omega), hrl, if_pos (by omega)]; simp
      · show PW K _ _ _ _
        refine pw_aug (f := fun i j => i - j) rfl (Ev.go (ev_gr (ev_fld (V' 0) S4.ins cl (Fx.noat 90) rfl) (V' 5) (V' 4) S4.d sh3.del.set2 hlt hc.2) ⟨_, rfl, fun b hb => ?_, S4, some (.int (i : Int)), some (rightD (rAt R i)), ?_⟩)
        · rw [Mu.upd_ne (fun e => hb (List.mem_append_left _ (by rw [e]; exact List.getElem_mem hl)))]; exact fr b hb
        · rw [get2_set2 sh3.del hlt hc.2, if_pos ⟨rfl, rfl⟩]; rfl
    · have h := of_decide_eq_false h
      have es : serveStep R c s i = s := if_neg h
      rw [es]
      exact ⟨fr, S3, some (.int (i : Int)), some (rightD (rAt R i)), rfl⟩
  · rintro ρ μ3 ⟨fr, S3, a, b, rfl⟩
    have hlen : (enumD (R.map rightD)).length = R.length := by simp [enumD]
    rw [hlen] at S3
    rw [hlen]
    exact s_retS (V' 2) (Mu.sub.refl _) (q _ fr S3)
theorem sc_Running_let_down : FnScope ["self", "cell", "water", "number", "month", "reach"] ["self", "cell", "water"] (defScope s_Running_let_down) := ⟨rfl, rfl, rfl, by decide +kernel, rfl, by decide +kernel, by decide +kernel⟩
-- Running_let_down: 0 self, 1 cell, 2 water, 3 number, 4 month, 5 reach
def S_Running_let_down (K : PySem.W.Frag) : Spec := fun ds μ Q => ∃ (x : Addr) (ad ar as : List Addr) (B : Basin) (R : List Right) (T : List (List Int)) (p : Plan) (c : Cell) (w : Int), ds = [.raw (.ref x), cellD c, .int w] ∧ B.Ok ∧ RightsOk B R ∧ p.Shape B R ∧ B.In c ∧ RunSt K μ x ad ar as B R T p ∧
  ∀ μ', (∀ b, b ∉ ad ++ (ar ++ as) → μ' b = μ b) → RunSt K μ' x ad ar as B R T (letDown B p c w).1 → Q (.int (letDown B p c w).2) μ'
theorem len_Running_let_down : (S_Running_let_down K).len 3 := fun ds μ Q h => by obtain ⟨_, _, _, _, _, _, _, _, _, _, rfl, _⟩ := h; rfl
theorem mono_Running_let_down : Mono (S_Running_let_down K) := fun ds μ P P' f h => by obtain ⟨x, a, b, c, B, R, T, p, ce, w, e, h1, h2, h3, h4, h, q⟩ := h; exact ⟨x, a, b, c, B, R, T, p, ce, w, e, h1, h2, h3, h4, h, fun μ' u v => f _ _ (q μ' u v)⟩
theorem c_Running_let_down (Fx : Fx K mg) : Met P w K mg base 3 (He.ga K "Running") "let_down" (S_Running_let_down K) := by
  have hlen : (S_Running_let_down K).len 3 := len_Running_let_down
  obtain ⟨fd, F⟩ := Fx.c.def_ 37 (d := d_Running_let_down) rfl
  refine ⟨_, fd, ["self", "cell", "water"], Fx.cls 85, Fx.meth 94, fnok F sc_Running_let_down hlen (fun cdv A outer s H E hr => ?_), FunD.bindsN F fun _ _ _ _ _ _ us hl => match us, hl with | [_, _, _], _ => rfl⟩
  have hu := hu_of hr
  have nd := sc_Running_let_down.nd
  refine ⟨_, (pss_cons (ps_asg (pv 1) (pg_tup rfl (pgs_cons (pg_name (i := 3) nd rfl (by first | exact Or.inl rfl | exact Or.inr rfl)) (pgs_cons (pg_name (i := 4) nd rfl (by first | exact Or.inl rfl | exact Or.inr rfl)) pgs_nil))))
      (pss_cons (ps_set (i := 5) nd rfl (by first | exact Or.inl rfl | exact Or.inr rfl) (pe_ix (k_ix (K := K)) (pe_ix (k_ix (K := K)) (pe_ix (k_ix (K := K)) (k_fld (K := K) (pv 0) rfl) pe_int (fun _ _ => rfl)) (pv 3) (fun _ _ => rfl)) (k_gI (Fx.int 44) rfl) (fun _ _ => rfl)))
      (pss_cons (ps_if (pt_cmp (pc_isN (k_cal (c_let_to Fx) hr (by decide) rfl (pa_cons (k_fld (K := K) (pv 0) rfl) (pa_cons (pv 1) pa_nil))))) (pss_one (ps_ret (pv 2))) pss_nil)
      (pss_cons (ps_asg (pe_ifExp (pt_cmp (pc_isN (pv 5))) (pv 2) (pe_callB (call_minA rfl) (by rfl) (Fx.free 103) (by decide +kernel) (pa_cons (pv 5) (pa_cons (pv 2) pa_nil)))) (pg_sub (pe_ix (k_ix (K := K)) (k_fld (K := K) (pv 0) rfl) (pv 3) (fun _ _ => rfl)) (pv 4) set_list))
      (pss_one (ps_ret (pe_op op_sub (pv 2) (pe_ix (k_ix (K := K)) (pe_ix (k_ix (K := K)) (k_fld (K := K) (pv 0) rfl) (pv 3) (fun _ _ => rfl)) (pv 4) (fun _ _ => rfl))))))))), fun ds μ Pq hS => ?_⟩
  obtain ⟨x, ad, ar, as, B, R, T, p, c, w, rfl, ok, rok, sh, hc, S, q⟩ := hS
  have cl := (Fx.cls 85)
  refine q_two (V' 1) rfl (q_set (ev_ix (ev_ixN (ev_ix (ev_fld (V' 0) S.ins cl (Fx.noat 87) rfl) ev_int) (V' 3) (siteAt hc.1)) ev_int) ?_)
  unfold letDown at q
  refine q_when (b := (optD cellD (B.letTo c)).isN) (et_B (ev_isN (ev_call (ea_cons (ev_fld (V' 0) S.ins cl (Fx.noat 87) rfl) (ea_cons (V' 1) ea_nil)) ⟨B, c, rfl, ok, hc, rfl, rfl⟩ mono_let_to))) (fun h => ?_) (fun h => ?_)
  · rw [isN_opt (fun _ => rfl)] at h
    rw [if_pos (Option.isNone_iff_eq_none.mp h)] at q
    exact pw_ret ((V' 2).go ⟨_, Mu.sub.refl _, q _ (fun _ _ => rfl) S⟩)
  · rw [isN_opt (fun _ => rfl)] at h
    rw [if_neg (fun e => by rw [e] at h; cases h)] at q
    have hl : c.1 < ar.length := by rw [S.r.len, sh.rel.1]; exact hc.1
    have ha : ar[c.1]? = some ar[c.1] := List.getElem?_eq_getElem hl
    have hm := S.r.at_ c.1 _ ha
    have hrl : ((p.rel[c.1]?.getD []).map D.int).length = B.months := by
      rw [List.length_map, List.getElem?_eq_getElem (by rw [sh.rel.1]; exact hc.1)]
      exact sh.rel.2 _ (List.getElem_mem _)
    have S4 := S.setR (j := c.2) (v := downOf B c w) ha
    refine pw_seq (pw_asg (Ev.go (d := .int (downOf B c w)) (ev_ite (et_B (ev_isN (V' 5))) (fun h => ?_) (fun h => ?_)) (wg_subL (Ev.go (ev_ixL (ev_fld (V' 0) S.ins cl (Fx.noat 91) rfl) (V' 3) (.inl rfl) (by rw [List.getElem?_map, ha]; rfl)) (Ev.go (V' 4) ⟨ar[c.1], _, _, c.2, rfl, rfl, hm, ?_, ?_⟩)))))
    · rw [isN_opt (fun _ => rfl)] at h
      unfold downOf
      rw [Option.isNone_iff_eq_none.mp h]
      exact V' 2
    · rw [isN_opt (fun _ => rfl)] at h
      unfold downOf
      cases hx : (B.at c.1).reach with
      | none => rw [hx] at h; cases h
      | some r => exact ev_min2 (V' 5) (V' 2)
    · unfold ixN
      have hc2 := hc.2
      rw [if_pos (by omega), hrl, if_pos (by omega)]; simp
    · show PW K _ _ _ _
      refine s_retS (d := .int (w - downOf B c w)) ?_ (Mu.sub.refl _) (q _ (fun b hb => Mu.upd_ne (fun e => hb (List.mem_append_right _ (List.mem_append_left _ (by rw [e]; exact List.getElem_mem hl))))) S4)
      have e2 : get2 (set2 p.rel c.1 c.2 (downOf B c w)) c.1 c.2 = downOf B c w := by rw [get2_set2 sh.rel hc.1 hc.2, if_pos ⟨rfl, rfl⟩]
      have e3 := ev_gr (ev_fld (V' (ρ := [some (.raw (.ref x)), some (cellD c), some (.int w), some (.int (c.1 : Int)), some (.int (c.2 : Int)), some (optD .int (B.at c.1).reach)]) 0) S4.ins cl (Fx.noat 91) rfl) (V' 3) (V' 4) S4.r sh.rel.set2 hc.1 hc.2
      rw [e2] at e3
      exact ev_sub (V' 2) e3
theorem letDown_shape {B : Basin} {R : List Right} {c : Cell} {p : Plan} {w : Int} (h : p.Shape B R) : (letDown B p c w).1.Shape B R := by
  unfold letDown
  split
  · exact h
  · exact ⟨h.del, h.rel.set2, h.sto⟩
theorem runCell_shape {B : Basin} {R : List Right} {T : List (List Int)} {c : Cell} {p : Plan} (h : p.Shape B R) : (runCell B R T p c).Shape B R := by
  have h2 := serveAll_shape (c := c) (s := (p, recv B p c)) h R.length
  have h3 := letDown_shape (c := c) (w := (serveAll R c (p, recv B p c) R.length).2 - min (min (get2 T c.1 c.2) (B.at c.1).room) (serveAll R c (p, recv B p c) R.length).2) h2
  exact ⟨h3.del, h3.rel, h3.sto.set2⟩
theorem sc_Running_run : FnScope ["self", "cell", "number", "month", "room", "water", "kept", "left"] ["self", "cell"] (defScope s_Running_run) := ⟨rfl, rfl, rfl, by decide +kernel, rfl, by decide +kernel, by decide +kernel⟩
-- Running_run: 0 self, 1 cell, 2 number, 3 month, 4 room, 5 water, 6 kept, 7 left
def S_Running_run (K : PySem.W.Frag) : Spec := fun ds μ Q => ∃ (x : Addr) (ad ar as : List Addr) (B : Basin) (R : List Right) (T : List (List Int)) (p : Plan) (c : Cell), ds = [.raw (.ref x), cellD c] ∧ B.Ok ∧ RightsOk B R ∧ p.Shape B R ∧ Tab B.sites.length B.months T ∧ B.In c ∧ RunSt K μ x ad ar as B R T p ∧
  ∀ μ', (∀ b, b ∉ ad ++ (ar ++ as) → μ' b = μ b) → RunSt K μ' x ad ar as B R T (runCell B R T p c) → Q .non μ'
theorem len_Running_run : (S_Running_run K).len 2 := fun ds μ Q h => by obtain ⟨_, _, _, _, _, _, _, _, _, rfl, _⟩ := h; rfl
theorem mono_Running_run : Mono (S_Running_run K) := fun ds μ P P' f h => by obtain ⟨x, a, b, c, B, R, T, p, ce, e, h1, h2, h3, h4, h5, h, q⟩ := h; exact ⟨x, a, b, c, B, R, T, p, ce, e, h1, h2, h3, h4, h5, h, fun μ' u v => f _ _ (q μ' u v)⟩
theorem c_Running_run (Fx : Fx K mg) : Met P w K mg base 5 (He.ga K "Running") "run" (S_Running_run K) := by
  have hlen : (S_Running_run K).len 2 := len_Running_run
  obtain ⟨fd, F⟩ := Fx.c.def_ 38 (d := d_Running_run) rfl
  refine ⟨_, fd, ["self", "cell"], Fx.cls 85, Fx.meth 95, fnok F sc_Running_run hlen (fun cdv A outer s H E hr => ?_), FunD.bindsN F fun _ _ _ _ _ _ us hl => match us, hl with | [_, _], _ => rfl⟩
  have hu := hu_of hr
  have nd := sc_Running_run.nd
  refine ⟨_, (pss_cons (ps_asg (pv 1) (pg_tup rfl (pgs_cons (pg_name (i := 2) nd rfl (by first | exact Or.inl rfl | exact Or.inr rfl)) (pgs_cons (pg_name (i := 3) nd rfl (by first | exact Or.inl rfl | exact Or.inr rfl)) pgs_nil))))
      (pss_cons (ps_set (i := 4) nd rfl (by first | exact Or.inl rfl | exact Or.inr rfl) (pe_ix (k_ix (K := K)) (pe_ix (k_ix (K := K)) (pe_ix (k_ix (K := K)) (k_fld (K := K) (pv 0) rfl) pe_int (fun _ _ => rfl)) (pv 2) (fun _ _ => rfl)) (k_gI (Fx.int 45) rfl) (fun _ _ => rfl)))
      (pss_cons (ps_set (i := 5) nd rfl (by first | exact Or.inl rfl | exact Or.inr rfl) (k_met (c_Running_serve Fx) hr (by decide) (pv 0) (pa_cons (pv 1) (pa_cons (k_cal (c_received Fx) hr (by decide) rfl (pa_cons (k_fld (K := K) (pv 0) rfl) (pa_cons (k_met0 (c_Running_plan Fx) hr (by decide) (pv 0)) (pa_cons (pv 1) pa_nil)))) pa_nil))))
      (pss_cons (ps_set (i := 6) nd rfl (by first | exact Or.inl rfl | exact Or.inr rfl) (pe_callB (call_min3Nu rfl) (by rfl) (Fx.free 103) (by decide +kernel) (pa_cons (pe_ix (k_ix (K := K)) (pe_ix (k_ix (K := K)) (k_fld (K := K) (pv 0) rfl) (pv 2) (fun _ _ => rfl)) (pv 3) (fun _ _ => rfl)) (pa_cons (pv 4) (pa_cons (pv 5) pa_nil)))))
      (pss_cons (ps_set (i := 7) nd rfl (by first | exact Or.inl rfl | exact Or.inr rfl) (k_met (c_Running_let_down Fx) hr (by decide) (pv 0) (pa_cons (pv 1) (pa_cons (pe_op op_sub (pv 5) (pv 6)) pa_nil))))
      (pss_one (ps_asg (pe_callB (call_minA rfl) (by rfl) (Fx.free 103) (by decide +kernel) (pa_cons (pv 4) (pa_cons (pe_op op_add (pv 6) (pv 7)) pa_nil))) (pg_sub (pe_ix (k_ix (K := K)) (k_fld (K := K) (pv 0) rfl) (pv 2) (fun _ _ => rfl)) (pv 3) set_list)))))))), fun ds μ Pq hS => ?_⟩
  obtain ⟨x, ad, ar, as, B, R, T, p, c, rfl, ok, rok, sh, hT, hc, S, q⟩ := hS
  have cl := (Fx.cls 85)
  refine q_two (V' 1) rfl (q_set (ev_ix (ev_ixN (ev_ix (ev_fld (V' 0) S.ins cl (Fx.noat 87) rfl) ev_int) (V' 2) (siteAt hc.1)) ev_int) ?_)
  have eplan : WE K (tMeth (He.ga K "Running") "plan" (lift K (S_Running_plan K)) [] E0 (tVar 0) tNil) [some (.raw (.ref x)), some (cellD c), some (.int (c.1 : Int)), some (.int (c.2 : Int)), some (.int (B.at c.1).room), none, none, none] μ (fun d μ' => d = planD p ∧ μ' = μ) :=
    we_meth ((V' 0).go ⟨x, _, rfl, S.ins, rfl, ea_nil.go ⟨x, ad, ar, as, B, R, T, p, rfl, ok, rok, sh, S, rfl, rfl⟩⟩) mono_Running_plan
  have erecv := ev_call (E := E0) (ea_cons (ev_fld (V' (ρ := [some (.raw (.ref x)), some (cellD c), some (.int (c.1 : Int)), some (.int (c.2 : Int)), some (.int (B.at c.1).room), none, none, none]) 0) S.ins cl (Fx.noat 87) rfl) (ea_cons eplan (ea_cons (V' 1) ea_nil))) ⟨B, R, p, c, rfl, ok, sh, hc, rfl, rfl⟩ mono_received
  refine pw_seq (pw_set (we_meth ((V' 0).go ⟨x, _, rfl, S.ins, rfl, (ea_cons (V' 1) (ea_cons erecv ea_nil)).go ⟨x, ad, ar, as, B, R, T, p, c, recv B p c, rfl, ok, rok, sh, hc, S, fun μ1 fr1 S1 => ?_⟩⟩) mono_Running_serve))
  have sh1 := serveAll_shape (c := c) (s := (p, recv B p c)) sh R.length
  unfold runCell at q
  generalize serveAll R c (p, recv B p c) R.length = s at S1 sh1 q
  refine q_set (ev_cb (ea_cons (ev_get2 (ev_fld (V' 0) S1.ins cl (Fx.noat 89) rfl) (V' 2) (V' 3) hT hc.1 hc.2) (ea_cons (V' 4) (ea_cons (V' 5) ea_nil))) (rb_min3 ⟨rfl, rfl⟩)) ?_
  refine pw_seq (pw_set (we_meth ((V' 0).go ⟨x, _, rfl, S1.ins, rfl, (ea_cons (V' 1) (ea_cons (ev_sub (V' 5) (V' 6)) ea_nil)).go ⟨x, ad, ar, as, B, R, T, s.1, c, _, rfl, ok, rok, sh1, hc, S1, fun μ2 fr2 S2 => ?_⟩⟩) mono_Running_let_down))
  have sh2 := letDown_shape (c := c) (w := s.2 - min (min (get2 T c.1 c.2) (B.at c.1).room) s.2) sh1
  have hl : c.1 < as.length := by rw [S2.s.len, sh2.sto.1]; exact hc.1
  have ha : as[c.1]? = some as[c.1] := List.getElem?_eq_getElem hl
  have hm := S2.s.at_ c.1 _ ha
  have hrl : (((letDown B s.1 c (s.2 - min (min (get2 T c.1 c.2) (B.at c.1).room) s.2)).1.sto[c.1]?.getD []).map D.int).length = B.months := by
    rw [List.length_map, List.getElem?_eq_getElem (by rw [sh2.sto.1]; exact hc.1)]
    exact sh2.sto.2 _ (List.getElem_mem _)
  have S4 := S2.setS (j := c.2) (v := min (B.at c.1).room (min (min (get2 T c.1 c.2) (B.at c.1).room) s.2 + (letDown B s.1 c (s.2 - min (min (get2 T c.1 c.2) (B.at c.1).room) s.2)).2)) ha
  refine pw_asg (Ev.go (ev_min2 (V' 4) (ev_add (V' 6) (V' 7))) (wg_subL (Ev.go (ev_ixL (ev_fld (V' 0) S2.ins cl (Fx.noat 92) rfl) (V' 2) (.inl rfl) (by rw [List.getElem?_map, ha]; rfl)) (Ev.go (V' 3) ⟨as[c.1], _, _, c.2, rfl, rfl, hm, ?_, ?_⟩))))
  · unfold ixN
    have hc2 := hc.2
    rw [if_pos (by omega), hrl, if_pos (by omega)]; simp
  · refine ⟨_, Mu.sub.refl _, q _ (fun b hb => ?_) S4⟩
    rw [Mu.upd_ne (fun e => hb (List.mem_append_right _ (List.mem_append_right _ (by rw [e]; exact List.getElem_mem hl)))), fr2 b hb, fr1 b hb]
theorem sc_run_by : FnScope ["basin", "rights", "targets", "running", "cell"] ["basin", "rights", "targets"] (defScope s_run_by) := ⟨rfl, rfl, rfl, by decide +kernel, rfl, by decide +kernel, by decide +kernel⟩
-- run_by: 0 basin, 1 rights, 2 targets, 3 running, 4 cell
def S_run_by : Spec := fun ds μ Q => ∃ (B : Basin) (R : List Right) (T : List (List Int)), ds = [basinD B, rightsD R, tabD T] ∧ B.Ok ∧ RightsOk B R ∧ Tab B.sites.length B.months T ∧ Q (planD (runBy B R T)) μ
theorem len_run_by : S_run_by.len 3 := fun ds μ Q h => by obtain ⟨_, _, _, rfl, _⟩ := h; rfl
theorem mono_run_by : Mono S_run_by := fun ds μ P P' f h => by obtain ⟨B, R, T, e, h1, h2, h3, q⟩ := h; exact ⟨B, R, T, e, h1, h2, h3, f _ _ q⟩
theorem noPlan_shape (B : Basin) (R : List Right) : (noPlan B R).Shape B R :=
  ⟨⟨List.length_replicate, fun r h => by rw [List.eq_of_mem_replicate h]; exact List.length_replicate⟩, ⟨List.length_replicate, fun r h => by rw [List.eq_of_mem_replicate h]; exact List.length_replicate⟩, ⟨List.length_replicate, fun r h => by rw [List.eq_of_mem_replicate h]; exact List.length_replicate⟩⟩
theorem runs_shape {B : Basin} {R : List Right} {T : List (List Int)} : ∀ (l : List Cell) (p : Plan), p.Shape B R → (l.foldl (runCell B R T) p).Shape B R
  | [], _, h => h
  | c :: l, p, h => runs_shape l _ (runCell_shape h)
theorem c_run_by (Fx : Fx K mg) : Cal P w K mg base 6 "run_by" S_run_by := by
  have hlen : Spec.len S_run_by 3 := len_run_by
  obtain ⟨fd, F⟩ := Fx.c.def_ 40 (d := d_run_by) rfl
  refine ⟨_, fd, ["basin", "rights", "targets"], fnok F sc_run_by hlen (fun cdv A outer s H E hr => ?_), Fx.glo 22, F.kp, FunD.bindsN F fun _ _ _ _ _ _ us hl => match us, hl with | [_, _, _], _ => rfl⟩
  have hu := hu_of hr
  have nd := sc_run_by.nd
  refine ⟨_, (pss_cons (ps_set (i := 3) nd rfl (by first | exact Or.inl rfl | exact Or.inr rfl) (k_mak (m_Running Fx) hr (by decide) rfl (pa_cons (pv 0) (pa_cons (pv 1) (pa_cons (pv 2) pa_nil)))))
      (pss_cons (ps_for PassesOwn.never rfl (k_list_ (K := K) (k_cal (c_cells Fx) hr (by decide) rfl (pa_cons (pv 0) pa_nil))) (pg_name (i := 4) nd rfl (by first | exact Or.inl rfl | exact Or.inr rfl)) (pss_one (ps_expr (k_met (c_Running_run Fx) hr (by decide) (pv 3) (pa_cons (pv 4) pa_nil)))))
      (pss_one (ps_ret (k_met0 (c_Running_plan Fx) hr (by decide) (pv 3)))))), fun ds μ Pq hS => ?_⟩
  obtain ⟨B, R, T, rfl, ok, rok, hT, q⟩ := hS
  refine pw_seq (pw_set (we_make ((ea_cons (V' 0) (ea_cons (V' 1) (ea_cons (V' 2) ea_nil))).go fun x hx => ⟨x, B, R, T, rfl, ok, rok, Mu.upd_same, fun ad ar as μ1 fr0 fr1 S1 => ⟨rfl, ?_⟩⟩) mono_Running_init))
  have sub1 : μ.sub μ1 := fun b o e => by
    have h1 : b ≠ x := fun z => by rw [z, hx] at e; cases e
    have h2 : b ∉ ad ++ (ar ++ as) := fun z => by
      have := fr0 b z
      rw [Mu.upd_ne h1, e] at this; cases this
    rw [fr1 b h1 h2, Mu.upd_ne h1]; exact e
  have off : ∀ b o, μ b = some o → b ∉ ad ++ (ar ++ as) := fun b o e z => by
    have h1 : b ≠ x := fun z => by rw [z, hx] at e; cases e
    have := fr0 b z
    rw [Mu.upd_ne h1, e] at this; cases this
  have h6 := ok.six
  refine pw_seq (pw_for (fun i ρ μ' => (∀ b, b ∉ ad ++ (ar ++ as) → μ' b = μ1 b) ∧ RunSt K μ' x ad ar as B R T ((B.cells.take i).foldl (runCell B R T) (noPlan B R)) ∧ ∃ a, ρ = [some (basinD B), some (rightsD R), some (tabD T), some (.raw (.ref x)), a]) ?_)
  refine wi_lstE (ev_call (ea_cons (V' 0) ea_nil) ⟨B, rfl, ok, rfl, rfl⟩ mono_cells) ⟨⟨fun _ _ => rfl, S1, none, rfl⟩, fun _ _ _ _ => trivial, ?_, ?_⟩
  · rintro i d ρ μ3 hd ⟨fr, S, a, rfl⟩
    rw [List.getElem?_map] at hd
    cases hc : B.cells[i]? with
    | none => rw [hc] at hd; cases hd
    | some c =>
      rw [hc] at hd; cases hd
      have hin : B.In c := mem_cells.mp (List.mem_of_getElem? hc)
      rw [foldl_take _ _ _ _ _ hc]
      have shp := runs_shape (T := T) (B.cells.take i) _ (noPlan_shape B R)
      refine wg_name (pw_drop (we_meth ((V' 3).go ⟨x, _, rfl, S.ins, rfl, (ea_cons (V' 4) ea_nil).go ⟨x, ad, ar, as, B, R, T, _, c, rfl, ok, rok, shp, hT, hin, S, fun μ4 fr4 S4 => ⟨fun b hb => by rw [fr4 b hb, fr b hb], S4, some (cellD c), rfl⟩⟩⟩) mono_Running_run))
  · rintro ρ μ3 ⟨fr, S, a, rfl⟩
    rw [List.length_map, List.take_length] at S
    refine pw_ret (we_meth ((V' 3).go ⟨x, _, rfl, S.ins, rfl, ea_nil.go ⟨x, ad, ar, as, B, R, T, _, rfl, ok, rok, runs_shape _ _ (noPlan_shape B R), S, ⟨μ, fun b o e => ?_, q⟩⟩⟩) mono_Running_plan)
    rw [fr b (off b o e)]; exact sub1 b o e
end
end Hw
set_option Elab.async false
set_option linter.all false
set_option maxRecDepth 100000
set_option maxHeartbeats 4000000
/-! Places; the mixed dict in the calculus. -/
namespace Hw
open PySem PySem.Spec L2
inductive Pl where
  | src
  | cell (c : Cell)
deriving DecidableEq
def placeD : Pl → D
  | .src => .str txt
  | .cell c => cellD c
def placeK : Pl → MK
  | .src => none
  | .cell c => some (cellK c)
theorem placeK_inj {a b : Pl} (h : placeK a = placeK b) : a = b := by
  cases a <;> cases b <;> first | rfl | cases h | skip
  rw [cellK_inj (Option.some.inj h)]
theorem eqv_place (a b : Pl) : PyData.eqv (toPy (placeD a)) (toPy (placeD b)) = decide (a = b) := by
  cases a with
  | src =>
    cases b with
    | src => simp [placeD, toPy, PyData.eqv]
    | cell c => simp [placeD, cellD, toPy, PyData.eqv]
  | cell c =>
    cases b with
    | src => simp [placeD, cellD, toPy, PyData.eqv]
    | cell d =>
      show PyData.eqv (toPy (cellD c)) (toPy (cellD d)) = _
      rw [eqv_cell]; simp
theorem ok_place (a : Pl) : okD (placeD a) = true := by cases a <;> rfl
theorem sh_place (a : Pl) : SeqAt.shaped (toPy (placeD a)) = true := by
  have h1 : PyData.strOk txt = true := by decide +kernel
  cases a <;> simp [SeqAt.shaped, placeD, cellD, toPy, toPyL, PyData.canLay0, PyData.canLayAll0, PyData.depth, PyData.depthAll, h1]
section
variable {K : PySem.W.Frag} {G G' H H' G0 H0 : Hp} {σ : L2.St} {ρ : List (Option D)} {μ : Mu} {a : Addr} {te ta tb tc tk tv : TE} {P : D → Mu → Prop} {x y z d e : D} {t : TA} {Φ : Out → Prop} {Pg : Program} {w : World}
theorem place_key {p : Pl} {v : V} (h : Is K G (placeD p) v) : KeyH G (placeK p) v := by
  cases p with
  | src => exact h
  | cell c =>
    obtain ⟨b, rfl, hb⟩ := keysOf_ok (cellK_of c) h
    refine ⟨b, rfl, hb, fun k hk => ?_⟩
    unfold cellK at hk
    simp only [List.mem_cons, List.not_mem_nil, or_false] at hk
    rcases hk with rfl | rfl <;> exact ⟨_, rfl⟩
theorem KeyH.up {k : MK} {v : V} (e : Ex G H) (h : KeyH G k v) : KeyH H k v := h.mono e
theorem XsIs.keys (e : Ex G H) : ∀ {m : List (MK × D)} {kvs : KVs}, XsIs K G m kvs → KeysH H kvs
  | [], _, h => fun p hp => by cases h; cases hp
  | (k, d) :: m, _, h => fun p hp => by
    obtain ⟨y, x, r, rfl, hk, i, l⟩ := h
    rcases List.mem_cons.mp hp with q | q
    · subst q; exact hk.mono e
    · exact XsIs.keys e l p q
theorem XsIs.find {k : MK} : ∀ {m : List (MK × D)} {kvs : KVs}, XsIs K G m kvs → (look m k = none → findV kvs k = none) ∧ ∀ d, look m k = some d → ∃ x, findV kvs k = some x ∧ Is K G d x
  | [], _, h => by cases h; exact ⟨fun _ => rfl, fun d z => by cases z⟩
  | (c, d') :: m, _, h => by
    obtain ⟨y, x, r, rfl, hk, i, l⟩ := h
    by_cases q : c = k
    · rw [look_pos (p := (c, d')) q]
      have ef : findV ((c, y, x) :: r) k = some x := by unfold findV; rw [List.find?_cons, decide_eq_true q]; rfl
      exact ⟨(fun z => by cases z), fun d z => by cases z; exact ⟨x, ef, i⟩⟩
    · rw [look_neg (p := (c, d')) q]
      have ef : findV ((c, y, x) :: r) k = findV r k := by unfold findV; rw [List.find?_cons, decide_eq_false q]
      rw [ef]
      exact XsIs.find l
theorem XsIs.snoc {k : MK} {y v : V} (hk : KeyH G k y) (hd : Is K G d v) : ∀ {m : List (MK × D)} {kvs : KVs}, XsIs K G m kvs → XsIs K G (m ++ [(k, d)]) (kvs ++ [(k, y, v)])
  | [], _, h => by cases h; exact ⟨y, v, [], rfl, hk, hd, rfl⟩
  | (c, d') :: m, _, h => by
    obtain ⟨y, x, r, rfl, hk, i, l⟩ := h
    exact ⟨y, x, _, rfl, hk, i, XsIs.snoc (by assumption) hd l⟩
theorem XsIs.len : ∀ {m : List (MK × D)} {kvs : KVs}, XsIs K G m kvs → kvs.length = m.length
  | [], _, h => by cases h; rfl
  | (c, d') :: m, _, h => by
    obtain ⟨y, x, r, rfl, hk, i, l⟩ := h
    simp [XsIs.len l]
theorem we_mnew {p : Pl} (hk : ∀ μ, Ev K tk ρ μ (placeD p)) (hv : ∀ μ, Ev K tv ρ μ d) (k : ∀ r, μ r = none → P (.raw (.ref r)) (μ.upd r (.mix Pg w [(placeK p, d)]))) : WE K (tMNew Pg w tk tv) ρ μ P := fun G0 H0 G H σ A Q q r hr => by
  have A1 := A.fresh (p := r) (o := MixV Pg w r []) (mo := .mix Pg w []) hr ⟨[], L2.upd_same, rfl⟩
  refine hk _ G0 H0 G _ σ A1 _ fun y _ μ1 G1 H1 p1 e1 A2 i1 => ?_
  obtain ⟨rfl, rfl⟩ := p1
  refine hv _ G0 H0 G1 H1 σ A2 _ fun v d2 μ2 G2 H2 p2 e2 A3 i2 => ?_
  obtain ⟨rfl, rfl⟩ := p2
  obtain ⟨_, _, kvs, h1, h2⟩ := A3.rep r _ Mu.upd_same
  cases h2
  refine ⟨placeK p, h1, (place_key (i1.mono e2)).mono A3.gh, ?_⟩
  have A4 := A3.write (o := MixV Pg w r [(placeK p, y, v)]) (mo' := .mix Pg w [(placeK p, d2)]) Mu.upd_same ⟨_, L2.upd_same, y, v, [], rfl, place_key (i1.mono e2), i2, rfl⟩
  rw [Mu.upd_upd] at A4
  exact q _ _ _ G2 _ (k r (A.muNone hr)) (e1.trans e2) A4 rfl
theorem ev_mget {p : Pl} {m : List (MK × D)} (h1 : Ev K ta ρ μ (.raw (.ref a))) (h2 : Ev K tb ρ μ (placeD p)) (hm : μ a = some (.mix Pg w m)) (hl : look m (placeK p) = some d) : Ev K (tMGet Pg w ta tb) ρ μ d := fun G0 H0 G H σ A Q q =>
  h1 G0 H0 G H σ A _ fun v _ μ1 G1 H1 p1 e1 A1 i1 => by
    obtain ⟨rfl, rfl⟩ := p1
    cases i1
    refine h2 G0 H0 G1 H1 σ A1 _ fun u _ μ2 G2 H2 p2 e2 A2 i2 => ?_
    obtain ⟨rfl, rfl⟩ := p2
    obtain ⟨_, _, kvs, g1, g2⟩ := A2.rep a _ hm
    obtain ⟨x, hx, ix⟩ := (XsIs.find g2).2 d hl
    exact ⟨a, kvs, placeK p, x, rfl, g1, g2.keys A2.gh, (place_key i2).mono A2.gh, hx, q x d _ G2 H2 ⟨rfl, rfl⟩ (e1.trans e2) A2 ix⟩
theorem ev_mnot {p : Pl} {m : List (MK × D)} (h1 : Ev K tb ρ μ (placeD p)) (h2 : Ev K ta ρ μ (.raw (.ref a))) (hm : μ a = some (.mix Pg w m)) : Ev K (tMNot Pg w tb ta) ρ μ (.bl (!(look m (placeK p)).isSome)) := fun G0 H0 G H σ A Q q =>
  h1 G0 H0 G H σ A _ fun u _ μ1 G1 H1 p1 e1 A1 i1 => by
    obtain ⟨rfl, rfl⟩ := p1
    refine h2 G0 H0 G1 H1 σ A1 _ fun v _ μ2 G2 H2 p2 e2 A2 i2 => ?_
    obtain ⟨rfl, rfl⟩ := p2
    cases i2
    obtain ⟨_, _, kvs, g1, g2⟩ := A2.rep a _ hm
    have e : (findV kvs (placeK p)).isSome = (look m (placeK p)).isSome := by
      cases hl : look m (placeK p) with
      | none => rw [(XsIs.find g2).1 hl]; rfl
      | some d => obtain ⟨x, hx, _⟩ := (XsIs.find g2).2 d hl; rw [hx]; rfl
    refine ⟨a, kvs, placeK p, rfl, g1, g2.keys A2.gh, (place_key (i1.mono e2)).mono A2.gh, ?_⟩
    rw [e]
    exact q _ _ _ G2 H2 ⟨rfl, rfl⟩ (e1.trans e2) A2 rfl
theorem s_mput {p : Pl} {m : List (MK × D)} (hv : Ev K te ρ μ d) (h1 : Ev K ta ρ μ (.raw (.ref a))) (h2 : Ev K tb ρ μ (placeD p)) (hm : μ a = some (.mix Pg w m)) (hl : look m (placeK p) = none) (hz : m.length < 100000) (k : Φ (.nx ρ (μ.upd a (.mix Pg w (m ++ [(placeK p, d)]))))) : PW K (sMPut Pg w ta tb te) ρ μ Φ := fun G0 H0 G H σ Dn A hd =>
  hv G0 H0 G H σ A _ fun v _ μ1 G1 H1 p1 e1 A1 i1 => by
    obtain ⟨rfl, rfl⟩ := p1
    refine h1 G0 H0 G1 H1 σ A1 _ fun u _ μ2 G2 H2 p2 e2 A2 i2 => ?_
    obtain ⟨rfl, rfl⟩ := p2
    cases i2
    refine h2 G0 H0 G2 H2 σ A2 _ fun u3 _ μ3 G3 H3 p3 e3 A3 i3 => ?_
    obtain ⟨rfl, rfl⟩ := p3
    obtain ⟨_, _, kvs, g1, g2⟩ := A3.rep a _ hm
    exact ⟨a, kvs, placeK p, rfl, g1, g2.keys A3.gh, (place_key i3).mono A3.gh, (XsIs.find g2).1 hl, by rw [g2.len]; exact hz,
      hd.nx _ _ _ _ _ k (A3.write hm ⟨_, L2.upd_same, XsIs.snoc (place_key i3) (i1.mono (e2.trans e3)) g2⟩)⟩
end
end Hw
set_option Elab.async false
set_option linter.all false
set_option maxRecDepth 100000
set_option maxHeartbeats 4000000
/-! Arcs and networks. -/
namespace Hw
open PySem PySem.Spec L2
structure ArcV where
  tail : Pl
  head : Pl
  most : Option Int
  flow : Int
  fixed : Bool
def arcFs (v : ArcV) : List (Str × D) := [("tail", placeD v.tail), ("head", placeD v.head), ("most", optD .int v.most), ("flow", .int v.flow), ("is_fixed", .bl v.fixed)]
def ArcAt (K : PySem.W.Frag) (μ : Mu) (a : Addr) (v : ArcV) : Prop := μ a = some (.ins (He.ga K "Arc") (arcFs v))
def ArcV.ahead (v : ArcV) : Option Int := if v.fixed = true then some 0 else v.most.map fun m => m - v.flow
def ArcV.back (v : ArcV) : Int := if v.fixed = true then 0 else v.flow
section
variable {K : PySem.W.Frag} {ρ : List (Option D)} {μ : Mu} {ta tb te : TE} {d x y : D} {a : Addr} {ts tz : TS} {Φ : Out → Prop} {C : Addr} {fs fs' : List (Str × D)} {f : Str}
theorem et_truB {b : Bool} (h : Ev K ta ρ μ (.bl b)) : EvT K (tTru K ta) ρ μ b := wt_truB (h.go ⟨b, rfl, rfl, rfl⟩)
theorem ev_neO {o : Option Int} {j : Int} (ha : Ev K ta ρ μ (optD .int o)) (hb : Ev K tb ρ μ (.int j)) : Ev K (tOp rNe ta tb) ρ μ (.bl (decide (o ≠ some j))) := by
  cases o with
  | none => exact ev_op ha hb (ro_ne (a := .non) (b := .int j) rfl rfl rfl ⟨by simp, rfl⟩)
  | some i => exact ev_op ha hb (ro_ne (a := .int i) (b := .int j) rfl rfl rfl ⟨by simp, rfl⟩)
/-- o.f op= e, an int -/
theorem s_fldaug {rd : V → V → Hp → VK → Prop} (g : Int → Int → Int) (hrd : ∀ i j H Q, Q (.int (g i j)) H → rd (.int i) (.int j) H Q) {n : Int} (ho : Ev K ta ρ μ (.raw (.ref a))) (hm : μ a = some (.ins C fs)) (cl : Cls K C) (na : NoAttr K C f) (hl : fs.lookup f = some (.int n))
    (hv : WE K te ρ μ fun d μ' => ∃ m fs', d = .int m ∧ μ' a = some (.ins C fs') ∧ fs'.length < 1000 ∧ Φ (.nx ρ (μ'.upd a (.ins C (putD f (.int (g n m)) fs'))))) : PW K (sFldAug K ta te rd f) ρ μ Φ := fun G0 H0 G H σ Dn A hd =>
  ho G0 H0 G H σ A _ fun v _ μ1 G1 H1 p1 e1 A1 i1 => by
    obtain ⟨rfl, rfl⟩ := p1
    cases i1
    obtain ⟨_, _, dx, gs, h1, h2⟩ := A1.rep a _ hm
    obtain ⟨x, h3, h4⟩ := h2.look hl
    cases h4
    refine ⟨a, C, dx, gs, _, rfl, h1, cl, na, h3, hv G0 H0 G1 H1 σ A1 _ fun u d μ2 G2 H2 p2 e2 A2 i2 => ?_⟩
    obtain ⟨m, fs', rfl, hm2, hz, k⟩ := p2
    cases i2
    refine hrd _ _ _ _ ?_
    obtain ⟨_, _, dx2, gs2, h5, h6⟩ := A2.rep a _ hm2
    exact ⟨dx2, gs2, h5, by rw [h6.len]; exact hz, hd.nx _ _ _ _ _ k (A2.write hm2 ⟨dx2, _, L2.upd_same, h6.put (d := .int (g n m)) rfl⟩)⟩
end
section
variable {P : Program} {w : World} {K : PySem.W.Frag} {mg : Str → Option Value} {base : Heap}
theorem sc_Arc_init : FnScope ["self", "tail", "head", "most"] ["self", "tail", "head", "most"] (defScope s_Arc_init) := ⟨rfl, rfl, rfl, by decide +kernel, rfl, by decide +kernel, by decide +kernel⟩
-- Arc___init__: 0 self, 1 tail, 2 head, 3 most
def S_Arc_init (K : PySem.W.Frag) : Spec := fun ds μ Q => ∃ (x : Addr) (t h : Pl) (m : Option Int), ds = [.raw (.ref x), placeD t, placeD h, optD .int m] ∧ μ x = some (.ins (He.ga K "Arc") []) ∧ Q .non (μ.upd x (.ins (He.ga K "Arc") (arcFs ⟨t, h, m, 0, false⟩)))
theorem len_Arc_init : (S_Arc_init K).len 4 := fun ds μ Q h => by obtain ⟨_, _, _, _, rfl, _⟩ := h; rfl
theorem mono_Arc_init : Mono (S_Arc_init K) := fun ds μ P P' f h => by obtain ⟨x, t, hh, m, e, h, q⟩ := h; exact ⟨x, t, hh, m, e, h, f _ _ q⟩
theorem m_Arc (Fx : Fx K mg) : Mak P w K mg base 1 "Arc" (He.ga K "Arc") (S_Arc_init K) := by
  have hlen : (S_Arc_init K).len 4 := len_Arc_init
  obtain ⟨fd, F⟩ := Fx.c.def_ 21 (d := d_Arc_init) rfl
  refine ⟨_, fd, ["self", "tail", "head", "most"], Fx.mkr 64, fnok F sc_Arc_init hlen (fun cdv A outer s H E hr => ?_), Fx.glo 62, FunD.bindsN F fun _ _ _ _ _ _ us hl => match us, hl with | [_, _, _, _], _ => rfl⟩
  have hu := hu_of hr
  have nd := sc_Arc_init.nd
  refine ⟨_, (pss_cons (ps_fld (pv 0) (pv 1) rfl)
      (pss_cons (ps_fld (pv 0) (pv 2) rfl)
      (pss_cons (ps_fld (pv 0) (pv 3) rfl)
      (pss_cons (ps_fld (pv 0) pe_int rfl)
      (pss_one (ps_fld (pv 0) pe_bl rfl)))))), fun ds μ Pq hS => ?_⟩
  obtain ⟨x, t, h, m, rfl, hx, q⟩ := hS
  have cl := (Fx.cls 63)
  refine q_fld (V' 1) (V' 0) hx cl (Fx.noat 65) ?_
  refine q_fld (V' 2) (V' 0) Mu.upd_same cl (Fx.noat 66) ?_
  refine q_fld (V' 3) (V' 0) Mu.upd_same cl (Fx.noat 67) ?_
  refine q_fld ev_int (V' 0) Mu.upd_same cl (Fx.noat 68) ?_
  refine s_fld ev_bl (V' 0) Mu.upd_same cl (Fx.noat 69) ?_
  refine ⟨_, Mu.sub.refl _, ?_⟩
  rw [Mu.upd_upd, Mu.upd_upd, Mu.upd_upd, Mu.upd_upd]
  exact q
theorem sc_Arc_ahead : FnScope ["self"] ["self"] (defScope s_Arc_ahead) := ⟨rfl, rfl, rfl, by decide +kernel, rfl, by decide +kernel, by decide +kernel⟩
-- Arc_ahead: 0 self
def S_Arc_ahead (K : PySem.W.Frag) : Spec := fun ds μ Q => ∃ (x : Addr) (v : ArcV), ds = [.raw (.ref x)] ∧ ArcAt K μ x v ∧ Q (optD .int v.ahead) μ
theorem len_Arc_ahead : (S_Arc_ahead K).len 1 := fun ds μ Q h => by obtain ⟨_, _, rfl, _⟩ := h; rfl
theorem mono_Arc_ahead : Mono (S_Arc_ahead K) := fun ds μ P P' f h => by obtain ⟨x, v, e, h, q⟩ := h; exact ⟨x, v, e, h, f _ _ q⟩
theorem c_Arc_ahead (Fx : Fx K mg) : Met P w K mg base 1 (He.ga K "Arc") "ahead" (S_Arc_ahead K) := by
  have hlen : (S_Arc_ahead K).len 1 := len_Arc_ahead
  obtain ⟨fd, F⟩ := Fx.c.def_ 22 (d := d_Arc_ahead) rfl
  refine ⟨_, fd, ["self"], Fx.cls 63, Fx.meth 70, fnok F sc_Arc_ahead hlen (fun cdv A outer s H E hr => ?_), FunD.bindsN F fun _ _ _ _ _ _ us hl => match us, hl with | [_], _ => rfl⟩
  have hu := hu_of hr
  have nd := sc_Arc_ahead.nd
  refine ⟨_, (pss_cons (ps_if (k_tru (K := K) (k_fld (K := K) (pv 0) rfl)) (pss_one (ps_ret pe_int)) pss_nil)
      (pss_one (ps_ret (pe_ifExp (pt_cmp (pc_isN (k_fld (K := K) (pv 0) rfl))) pe_non (pe_op op_sub (k_fld (K := K) (pv 0) rfl) (k_fld (K := K) (pv 0) rfl)))))), fun ds μ Pq hS => ?_⟩
  obtain ⟨x, v, rfl, hx, q⟩ := hS
  have cl := (Fx.cls 63)
  unfold ArcV.ahead at q
  refine q_when (et_truB (ev_fld (V' 0) hx cl (Fx.noat 69) rfl)) (fun h => ?_) (fun h => ?_)
  · rw [if_pos h] at q
    exact s_retT ev_int q
  · rw [if_neg (by rw [h]; simp)] at q
    refine s_ret (d := optD .int (v.most.map fun m => m - v.flow)) (ev_ite (et_B (ev_isN (ev_fld (V' 0) hx cl (Fx.noat 67) rfl))) (fun h => ?_) (fun h => ?_)) q
    · rw [isN_opt (fun _ => rfl)] at h
      rw [Option.isNone_iff_eq_none.mp h]
      exact ev_non
    · rw [isN_opt (fun _ => rfl)] at h
      cases hm : v.most with
      | none => rw [hm] at h; cases h
      | some m =>
        refine ev_sub (ev_fld (d := .int m) (V' 0) hx cl (Fx.noat 67) ?_) (ev_fld (V' 0) hx cl (Fx.noat 68) rfl)
        show some (optD .int v.most) = _
        rw [hm]; rfl
theorem sc_Arc_back : FnScope ["self"] ["self"] (defScope s_Arc_back) := ⟨rfl, rfl, rfl, by decide +kernel, rfl, by decide +kernel, by decide +kernel⟩
-- Arc_back: 0 self
def S_Arc_back (K : PySem.W.Frag) : Spec := fun ds μ Q => ∃ (x : Addr) (v : ArcV), ds = [.raw (.ref x)] ∧ ArcAt K μ x v ∧ Q (.int v.back) μ
theorem len_Arc_back : (S_Arc_back K).len 1 := fun ds μ Q h => by obtain ⟨_, _, rfl, _⟩ := h; rfl
theorem mono_Arc_back : Mono (S_Arc_back K) := fun ds μ P P' f h => by obtain ⟨x, v, e, h, q⟩ := h; exact ⟨x, v, e, h, f _ _ q⟩
theorem c_Arc_back (Fx : Fx K mg) : Met P w K mg base 1 (He.ga K "Arc") "back" (S_Arc_back K) := by
  have hlen : (S_Arc_back K).len 1 := len_Arc_back
  obtain ⟨fd, F⟩ := Fx.c.def_ 23 (d := d_Arc_back) rfl
  refine ⟨_, fd, ["self"], Fx.cls 63, Fx.meth 71, fnok F sc_Arc_back hlen (fun cdv A outer s H E hr => ?_), FunD.bindsN F fun _ _ _ _ _ _ us hl => match us, hl with | [_], _ => rfl⟩
  have hu := hu_of hr
  have nd := sc_Arc_back.nd
  refine ⟨_, (pss_one (ps_ret (pe_ifExp (k_tru (K := K) (k_fld (K := K) (pv 0) rfl)) pe_int (k_fld (K := K) (pv 0) rfl)))), fun ds μ Pq hS => ?_⟩
  obtain ⟨x, v, rfl, hx, q⟩ := hS
  have cl := (Fx.cls 63)
  refine s_ret (d := .int v.back) (ev_ite (et_truB (ev_fld (V' 0) hx cl (Fx.noat 69) rfl)) (fun h => ?_) (fun h => ?_)) q
  · unfold ArcV.back
    rw [if_pos h]; exact ev_int
  · unfold ArcV.back
    rw [if_neg (by rw [h]; simp)]; exact ev_fld (V' 0) hx cl (Fx.noat 68) rfl
theorem sc_least : FnScope ["one", "other"] ["one", "other"] (defScope s_least) := ⟨rfl, rfl, rfl, by decide +kernel, rfl, by decide +kernel, by decide +kernel⟩
-- least: 0 one, 1 other
def leastOf (o : Option Int) (a : Int) : Int := match o with
  | none => a
  | some i => min i a
def S_least : Spec := fun ds μ Q => ∃ (o : Option Int) (a : Int), ds = [optD .int o, .int a] ∧ Q (.int (leastOf o a)) μ
theorem len_least : S_least.len 2 := fun ds μ Q h => by obtain ⟨_, _, rfl, _⟩ := h; rfl
theorem mono_least : Mono S_least := fun ds μ P P' f h => by obtain ⟨x, v, e, q⟩ := h; exact ⟨x, v, e, f _ _ q⟩
theorem c_least (Fx : Fx K mg) : Cal P w K mg base 1 "least" S_least := by
  have hlen : Spec.len S_least 2 := len_least
  obtain ⟨fd, F⟩ := Fx.c.def_ 24 (d := d_least) rfl
  refine ⟨_, fd, ["one", "other"], fnok F sc_least hlen (fun cdv A outer s H E hr => ?_), Fx.glo 17, F.kp, FunD.bindsN F fun _ _ _ _ _ _ us hl => match us, hl with | [_, _], _ => rfl⟩
  have hu := hu_of hr
  have nd := sc_least.nd
  refine ⟨_, (pss_cons (ps_if (pt_cmp (pc_isN (pv 0))) (pss_one (ps_ret (pv 1))) pss_nil)
      (pss_one (ps_ret (pe_ifExp (pt_cmp (pc_isN (pv 1))) (pv 0) (pe_callB (call_minA rfl) (by rfl) (Fx.free 103) (by decide +kernel) (pa_cons (pv 0) (pa_cons (pv 1) pa_nil))))))), fun ds μ Pq hS => ?_⟩
  obtain ⟨o, a, rfl, q⟩ := hS
  cases o with
  | none => exact q_when (b := true) (et_B (ev_isN (x := .non) (V' 0))) (fun _ => s_retT (V' 1) q) (fun h => by cases h)
  | some i => exact q_when (b := false) (et_B (ev_isN (x := .int i) (V' 0))) (fun h => by cases h) (fun _ => s_ret (ev_ite (b := false) (et_B (ev_isN (x := .int a) (V' 1))) (fun h => by cases h) (fun _ => ev_min2 (V' 0) (V' 1))) q)
structure NetA where
  x : Addr
  st : Addr
  re : Addr
  ls : Addr
structure NetSt (K : PySem.W.Frag) (μ : Mu) (n : NetA) (B : Basin) (as : List Addr) (vs : List ArcV) : Prop where
  ins : μ n.x = some (.ins (He.ga K "Network") [("basin", basinD B), ("storages", .raw (.ref n.st)), ("releases", .raw (.ref n.re)), ("arcs", .raw (.ref n.ls))])
  ls : μ n.ls = some (.lst (rawL as))
  len : as.length = vs.length
  at_ : ∀ (i : Nat) (a : Addr) (v : ArcV), as[i]? = some a → vs[i]? = some v → ArcAt K μ a v
  nd : (n.x :: n.st :: n.re :: n.ls :: as).Nodup
theorem sc_Network_add : FnScope ["self", "tail", "head", "most", "arc"] ["self", "tail", "head", "most"] (defScope s_Network_add) := ⟨rfl, rfl, rfl, by decide +kernel, rfl, by decide +kernel, by decide +kernel⟩
-- Network_add: 0 self, 1 tail, 2 head, 3 most, 4 arc
def S_Network_add (K : PySem.W.Frag) : Spec := fun ds μ Q => ∃ (n : NetA) (B : Basin) (as : List Addr) (vs : List ArcV) (t h : Pl) (m : Option Int), ds = [.raw (.ref n.x), placeD t, placeD h, optD .int m] ∧ NetSt K μ n B as vs ∧ as.length ≤ 1000 ∧ μ n.st ≠ none ∧ μ n.re ≠ none ∧
  ∀ (a : Addr) (μ' : Mu), μ a = none → (∀ b, b ≠ a → b ≠ n.ls → μ' b = μ b) → NetSt K μ' n B (as ++ [a]) (vs ++ [⟨t, h, m, 0, false⟩]) → Q (.raw (.ref a)) μ'
theorem len_Network_add : (S_Network_add K).len 4 := fun ds μ Q h => by obtain ⟨_, _, _, _, _, _, _, rfl, _⟩ := h; rfl
theorem mono_Network_add : Mono (S_Network_add K) := fun ds μ P P' f h => by
  obtain ⟨n, B, as, vs, t, hh, m, e, h1, h2, h3, h4, q⟩ := h
  exact ⟨n, B, as, vs, t, hh, m, e, h1, h2, h3, h4, fun a μ' x y z => f _ _ (q a μ' x y z)⟩
theorem c_Network_add (Fx : Fx K mg) : Met P w K mg base 3 (He.ga K "Network") "add" (S_Network_add K) := by
  have hlen : (S_Network_add K).len 4 := len_Network_add
  obtain ⟨fd, F⟩ := Fx.c.def_ 26 (d := d_Network_add) rfl
  refine ⟨_, fd, ["self", "tail", "head", "most"], Fx.cls 73, Fx.meth 79, fnok F sc_Network_add hlen (fun cdv A outer s H E hr => ?_), FunD.bindsN F fun _ _ _ _ _ _ us hl => match us, hl with | [_, _, _, _], _ => rfl⟩
  have hu := hu_of hr
  have nd := sc_Network_add.nd
  refine ⟨_, (pss_cons (ps_set (i := 4) nd rfl (by first | exact Or.inl rfl | exact Or.inr rfl) (k_mak (m_Arc Fx) hr (by decide) rfl (pa_cons (pv 1) (pa_cons (pv 2) (pa_cons (pv 3) pa_nil)))))
      (pss_cons (ps_expr (pe_bm PySem.F.plainAttrs_list PySem.F.slot_list_append PySem.F.type_list_append mt_append (k_fld (K := K) (pv 0) rfl) (pa_cons (pv 4) pa_nil)))
      (pss_one (ps_ret (pv 4))))), fun ds μ Pq hS => ?_⟩
  obtain ⟨n, B, as, vs, t, h, m, rfl, S, hz, h3, h4, q⟩ := hS
  have cl := (Fx.cls 73)
  refine pw_seq (pw_set (we_make ((ea_cons (V' 1) (ea_cons (V' 2) (ea_cons (V' 3) ea_nil))).go fun a ha => ⟨a, t, h, m, rfl, Mu.upd_same, rfl, ?_⟩) mono_Arc_init))
  rw [Mu.upd_upd]
  have nx : a ≠ n.x := fun e => by rw [e, S.ins] at ha; cases ha
  have nl : a ≠ n.ls := fun e => by rw [e, S.ls] at ha; cases ha
  have nst : a ≠ n.st := fun e => by rw [e] at ha; exact h3 ha
  have nre : a ≠ n.re := fun e => by rw [e] at ha; exact h4 ha
  have nas : a ∉ as := fun hm => by
    obtain ⟨i, hi⟩ := List.mem_iff_getElem?.mp hm
    have hv : vs[i]? = some (vs[i]'(by rw [← S.len]; exact (List.getElem?_eq_some_iff.mp hi).1)) := List.getElem?_eq_getElem _
    have := S.at_ i a _ hi hv
    unfold ArcAt at this
    rw [ha] at this; cases this
  have nd := S.nd
  refine q_app (ds := rawL as) (ev_fld (V' 0) ((Mu.upd_ne (Ne.symm nx)).trans S.ins) cl (Fx.noat 78) rfl) ((Mu.upd_ne (Ne.symm nl)).trans S.ls) (V' 4) (sz_lt (by rw [List.length_map]; omega)) ?_
  refine s_retS (V' 4) (Mu.sub.refl _) (q a _ ha (fun b hb hl => by rw [Mu.upd_ne hl, Mu.upd_ne hb]) ⟨?_, ?_, ?_, ?_, ?_⟩)
  · have h1 : n.x ≠ n.ls := fun e => by rw [e] at nd; simp at nd
    rw [Mu.upd_ne h1, Mu.upd_ne (Ne.symm nx), S.ins]
  · rw [Mu.upd_same]; simp [rawL]
  · rw [List.length_append, List.length_append, S.len]; rfl
  · intro i b v hb hv
    have hbl : b ∈ as ++ [a] := List.mem_of_getElem? hb
    have hls : b ≠ n.ls := fun e => by
      subst e
      rcases List.mem_append.mp hbl with z | z
      · simp only [List.nodup_cons, List.mem_cons, not_or] at nd
        exact nd.2.2.2.1 z
      · rw [List.mem_singleton] at z; exact nl z.symm
    unfold ArcAt
    rw [Mu.upd_ne hls]
    by_cases hi : i < as.length
    · rw [List.getElem?_append_left hi] at hb
      rw [List.getElem?_append_left (by rw [← S.len]; exact hi)] at hv
      have hba : b ≠ a := fun e => nas (e ▸ List.mem_of_getElem? hb)
      rw [Mu.upd_ne hba]
      exact S.at_ i b v hb hv
    · rw [List.getElem?_append_right (by omega)] at hb
      rw [List.getElem?_append_right (by rw [← S.len]; omega), ← S.len] at hv
      cases hk : i - as.length with
      | zero =>
        rw [hk] at hb hv
        cases hb; cases hv
        exact Mu.upd_same
      | succ k => rw [hk] at hb; cases hb
  · have e0 : n.x :: n.st :: n.re :: n.ls :: (as ++ [a]) = (n.x :: n.st :: n.re :: n.ls :: as) ++ [a] := rfl
    rw [e0]
    refine List.nodup_append.mpr ⟨nd, by simp, fun b hb c hc e => ?_⟩
    rw [List.mem_singleton] at hc
    rw [e, hc] at hb
    simp only [List.mem_cons] at hb
    rcases hb with z | z | z | z | z
    · exact nx z
    · exact nst z
    · exact nre z
    · exact nl z
    · exact nas z
end
end Hw
set_option Elab.async false
set_option linter.all false
set_option maxRecDepth 100000
set_option maxHeartbeats 4000000
/-! Steps, ways. -/
namespace Hw
open PySem PySem.Spec L2
structure Step where
  a : Addr
  fw : Bool
  to : Pl
  more : Option Int
def stepD (s : Step) : D := .tup [.raw (.ref s.a), .bl s.fw, placeD s.to, optD .int s.more]
def stepsOne (p : Pl) (z : Addr × ArcV) : List Step := (if z.2.tail = p ∧ z.2.ahead ≠ some 0 then [⟨z.1, true, z.2.head, z.2.ahead⟩] else []) ++ (if z.2.head = p ∧ 0 < z.2.back then [⟨z.1, false, z.2.tail, some z.2.back⟩] else [])
def stepsOf (zs : List (Addr × ArcV)) (p : Pl) : List Step := (zs.map (stepsOne p)).flatten
theorem stepsOne_len (p : Pl) (z : Addr × ArcV) : (stepsOne p z).length ≤ 2 := by
  unfold stepsOne
  rw [List.length_append]
  split <;> split <;> simp
theorem stepsOf_len (p : Pl) : ∀ zs : List (Addr × ArcV), (stepsOf zs p).length ≤ 2 * zs.length
  | [] => Nat.le_refl _
  | z :: zs => by
    have h1 := stepsOne_len p z
    have h2 := stepsOf_len p zs
    unfold stepsOf at h2 ⊢
    rw [List.map_cons, List.flatten_cons, List.length_append, List.length_cons]; omega
section
variable {K : PySem.W.Frag} {ρ : List (Option D)} {μ : Mu} {ta tb te to : TE} {d x y : D} {a f : Addr} {ts tz : TS} {Φ : Out → Prop} {ds : List D}
theorem s_ifApp {tt : TT} {b : Bool} (ht : EvT K tt ρ μ b) (ho : Ev K to ρ μ (.raw (.ref f))) (hm : μ f = some (.lst ds)) (hd : b = true → Ev K te ρ μ d) (hz : ds.length < 100000) : PW K (tIfS tt (tDrop (tBM K "list" rAppend to (tCons te tNil))) tNext) ρ μ (fun o => o = .nx ρ (μ.upd f (.lst (ds ++ if b = true then [d] else [])))) := by
  refine pw_ifE ht (fun h => s_app ho hm (hd h) (sz_lt hz) ?_) (fun h => pw_next ?_)
  · rw [if_pos h]
  · rw [if_neg (by rw [h]; simp), List.append_nil, Mu.upd_id hm]
end
section
variable {P : Program} {w : World} {K : PySem.W.Frag} {mg : Str → Option Value} {base : Heap}
theorem NetSt.fr {μ μ' : Mu} {n : NetA} {B : Basin} {as : List Addr} {vs : List ArcV} (S : NetSt K μ n B as vs) (h : ∀ b o, μ b = some o → μ' b = some o) : NetSt K μ' n B as vs :=
  ⟨h _ _ S.ins, h _ _ S.ls, S.len, fun i a v h1 h2 => h _ _ (S.at_ i a v h1 h2), S.nd⟩
theorem sc_Network_steps : FnScope ["self", "place", "found", "arc"] ["self", "place"] (defScope s_Network_steps) := ⟨rfl, rfl, rfl, by decide +kernel, rfl, by decide +kernel, by decide +kernel⟩
-- Network_steps: 0 self, 1 place, 2 found, 3 arc
def S_Network_steps (K : PySem.W.Frag) : Spec := fun ds μ Q => ∃ (n : NetA) (B : Basin) (as : List Addr) (vs : List ArcV) (p : Pl), ds = [.raw (.ref n.x), placeD p] ∧ NetSt K μ n B as vs ∧ as.length ≤ 1000 ∧ Q (.lst ((stepsOf (as.zip vs) p).map stepD)) μ
theorem len_Network_steps : (S_Network_steps K).len 2 := fun ds μ Q h => by obtain ⟨_, _, _, _, _, rfl, _⟩ := h; rfl
theorem mono_Network_steps : Mono (S_Network_steps K) := fun ds μ P P' f h => by
  obtain ⟨n, B, as, vs, p, e, h1, h2, q⟩ := h
  exact ⟨n, B, as, vs, p, e, h1, h2, f _ _ q⟩
theorem c_Network_steps (Fx : Fx K mg) : Met P w K mg base 2 (He.ga K "Network") "steps" (S_Network_steps K) := by
  have hlen : (S_Network_steps K).len 2 := len_Network_steps
  obtain ⟨fd, F⟩ := Fx.c.def_ 27 (d := d_Network_steps) rfl
  refine ⟨_, fd, ["self", "place"], Fx.cls 73, Fx.meth 80, fnok F sc_Network_steps hlen (fun cdv A outer s H E hr => ?_), FunD.bindsN F fun _ _ _ _ _ _ us hl => match us, hl with | [_, _], _ => rfl⟩
  have hu := hu_of hr
  have nd := sc_Network_steps.nd
  refine ⟨_, (pss_cons (ps_set (i := 2) nd rfl (by first | exact Or.inl rfl | exact Or.inr rfl) (pe_lst pa_nil))
      (pss_cons (ps_for PassesOwn.never rfl (k_list_ (K := K) (k_fld (K := K) (pv 0) rfl)) (pg_name (i := 3) nd rfl (by first | exact Or.inl rfl | exact Or.inr rfl)) (pss_cons (ps_if (PW.pt (pw_and (pt_cmpR (k_eqD (K := K) hr.units) (k_fld (K := K) (pv 3) rfl) (pv 1) (nomark _)) (pw_and1 (pt_cmpR op_ne (k_met0 (c_Arc_ahead Fx) hr (by decide) (pv 3)) pe_int (nomark _))))) (pss_one (ps_expr (pe_bm PySem.F.plainAttrs_list PySem.F.slot_list_append PySem.F.type_list_append mt_append (pv 2) (pa_cons (pe_tup (pa_cons (pv 3) (pa_cons pe_bl (pa_cons (k_fld (K := K) (pv 3) rfl) (pa_cons (k_met0 (c_Arc_ahead Fx) hr (by decide) (pv 3)) pa_nil))))) pa_nil)))) pss_nil)
      (pss_one (ps_if (PW.pt (pw_and (pt_cmpR (k_eqD (K := K) hr.units) (k_fld (K := K) (pv 3) rfl) (pv 1) (nomark _)) (pw_and1 (pt_cmpR op_gt (k_met0 (c_Arc_back Fx) hr (by decide) (pv 3)) pe_int (nomark _))))) (pss_one (ps_expr (pe_bm PySem.F.plainAttrs_list PySem.F.slot_list_append PySem.F.type_list_append mt_append (pv 2) (pa_cons (pe_tup (pa_cons (pv 3) (pa_cons pe_bl (pa_cons (k_fld (K := K) (pv 3) rfl) (pa_cons (k_met0 (c_Arc_back Fx) hr (by decide) (pv 3)) pa_nil))))) pa_nil)))) pss_nil))))
      (pss_one (ps_ret (pv 2))))), fun ds μ Pq hS => ?_⟩
  obtain ⟨n, B, as, vs, p, rfl, S, hz, q⟩ := hS
  have cl := (Fx.cls 73)
  have cla := (Fx.cls 63)
  refine q_new fun f hf => ?_
  have S1 : ∀ ds, NetSt K (μ.upd f (.lst ds)) n B as vs := fun ds => S.fr fun b o e => by
    rw [Mu.upd_ne (fun z => by rw [z, hf] at e; cases e)]; exact e
  refine pw_seq (pw_for (fun i ρ μ' => μ' = μ.upd f (.lst ((stepsOf ((as.zip vs).take i) p).map stepD)) ∧ ∃ b, ρ = [some (.raw (.ref n.x)), some (placeD p), some (.raw (.ref f)), b]) ?_)
  refine wi_cell (Ev.go (ev_fld (V' 0) (S1 []).ins cl (Fx.noat 78) rfl) ⟨n.ls, rawL as, rfl, (S1 []).ls, ⟨rfl, _, rfl⟩, fun i ρ μ' h => ?_, ?_, ?_⟩)
  · rw [h.1]; exact (S1 _).ls
  · rintro i d ρ μ3 hd ⟨rfl, b, rfl⟩
    rw [List.getElem?_map] at hd
    cases ha : as[i]? with
    | none => rw [ha] at hd; cases hd
    | some a =>
      rw [ha] at hd; cases hd
      have hi := (List.getElem?_eq_some_iff.mp ha).1
      have hv : vs[i]? = some (vs[i]'(by rw [← S.len]; exact hi)) := List.getElem?_eq_getElem _
      generalize vs[i]'(by rw [← S.len]; exact hi) = v at hv
      have hzip : (as.zip vs)[i]? = some (a, v) := by rw [List.getElem?_zip_eq_some]; exact ⟨ha, hv⟩
      have es : stepsOf ((as.zip vs).take (i + 1)) p = stepsOf ((as.zip vs).take i) p ++ stepsOne p (a, v) := by
        unfold stepsOf
        rw [List.take_succ, hzip, List.map_append, List.flatten_append]; simp
      have hl : (stepsOf ((as.zip vs).take i) p).length ≤ 2000 := by
        have h1 := stepsOf_len p ((as.zip vs).take i)
        rw [List.length_take, List.length_zip] at h1
        omega
      rw [es]
      generalize stepsOf ((as.zip vs).take i) p = acc at hl
      refine wg_name ?_
      have A1 : ∀ ds, ArcAt K (μ.upd f (.lst ds)) a v := fun ds => (S1 ds).at_ i a v ha hv
      have eah : ∀ ds, Ev K (tMeth (He.ga K "Arc") "ahead" (lift K (S_Arc_ahead K)) [] E0 (tVar 3) tNil) [some (.raw (.ref n.x)), some (placeD p), some (.raw (.ref f)), some (.raw (.ref a))] (μ.upd f (.lst ds)) (optD .int v.ahead) := fun ds =>
        we_meth ((V' 3).go ⟨a, _, rfl, A1 ds, rfl, ea_nil.go ⟨a, v, rfl, A1 ds, rfl, rfl⟩⟩) mono_Arc_ahead
      have ebk : ∀ ds, Ev K (tMeth (He.ga K "Arc") "back" (lift K (S_Arc_back K)) [] E0 (tVar 3) tNil) [some (.raw (.ref n.x)), some (placeD p), some (.raw (.ref f)), some (.raw (.ref a))] (μ.upd f (.lst ds)) (.int v.back) := fun ds =>
        we_meth ((V' 3).go ⟨a, _, rfl, A1 ds, rfl, ea_nil.go ⟨a, v, rfl, A1 ds, rfl, rfl⟩⟩) mono_Arc_back
      refine pw_seq (PW.to (s_ifApp (d := stepD ⟨a, true, v.head, v.ahead⟩) (b := decide (v.tail = p) && decide (v.ahead ≠ some 0)) (et_and (et_test (ev_eqD (ev_fld (V' 3) (A1 _) cla (Fx.noat 65) rfl) (V' 1) (eqv_place _ _) (ok_place _) (ok_place _) (sh_place _) (sh_place _))) (fun _ => et_test (ev_neO (eah _) ev_int))) (V' 2) Mu.upd_same (fun _ => ev_tup (ea_cons (V' 3) (ea_cons ev_bl (ea_cons (ev_fld (V' 3) (A1 _) cla (Fx.noat 66) rfl) (ea_cons (eah _) ea_nil))))) (by rw [List.length_map]; omega)) ?_)
      rw [Mu.upd_upd]
      show PW K _ _ _ _
      refine PW.to (s_ifApp (d := stepD ⟨a, false, v.tail, some v.back⟩) (b := decide (v.head = p) && decide (0 < v.back)) (et_and (et_test (ev_eqD (ev_fld (V' 3) (A1 _) cla (Fx.noat 66) rfl) (V' 1) (eqv_place _ _) (ok_place _) (ok_place _) (sh_place _) (sh_place _))) (fun _ => et_test (ev_gt (ebk _) ev_int))) (V' 2) Mu.upd_same (fun _ => ev_tup (ea_cons (V' 3) (ea_cons ev_bl (ea_cons (ev_fld (V' 3) (A1 _) cla (Fx.noat 65) rfl) (ea_cons (d := .int v.back) (ebk _) ea_nil))))) (by
        rw [List.length_append, List.length_map]
        split
        · show _ + 1 < _; omega
        · show _ + 0 < _; omega)) ?_
      rw [Mu.upd_upd]
      refine ⟨?_, _, rfl⟩
      congr 2
      unfold stepsOne
      rw [List.append_assoc, List.map_append, List.map_append]
      congr 1
      congr 1
      · by_cases c : v.tail = p ∧ v.ahead ≠ some 0
        · rw [if_pos (by simp [c.1, c.2]), if_pos c]; rfl
        · rw [if_neg (by simpa using c), if_neg c]; rfl
      · by_cases c : v.head = p ∧ 0 < v.back
        · rw [if_pos (by simp [c.1, c.2]), if_pos c]; rfl
        · rw [if_neg (by simpa using c), if_neg c]; rfl
  · rintro ρ μ3 ⟨rfl, b, rfl⟩
    have e : (as.zip vs).take (rawL as).length = as.zip vs := List.take_of_length_le (by rw [List.length_map, List.length_zip]; omega)
    rw [e]
    exact pw_freezeL (i := 2) rfl Mu.upd_same (s_retS (V' 2) (Mu.sub_off hf) q)
end
end Hw
set_option Elab.async false
set_option linter.all false
set_option maxRecDepth 100000
set_option maxHeartbeats 4000000
/-! Ways. -/
namespace Hw
open PySem PySem.Spec L2
abbrev Arcs := List (Addr × ArcV)
theorem mem_stepsOf {zs : Arcs} {p : Pl} {s : Step} : s ∈ stepsOf zs p ↔ ∃ a v, (a, v) ∈ zs ∧ ((v.tail = p ∧ v.ahead ≠ some 0 ∧ s = ⟨a, true, v.head, v.ahead⟩) ∨ (v.head = p ∧ 0 < v.back ∧ s = ⟨a, false, v.tail, some v.back⟩)) := by
  unfold stepsOf
  rw [List.mem_flatten]
  constructor
  · rintro ⟨l, hl, hs⟩
    obtain ⟨⟨a, v⟩, hz, rfl⟩ := List.mem_map.mp hl
    refine ⟨a, v, hz, ?_⟩
    unfold stepsOne at hs
    rcases List.mem_append.mp hs with h | h
    · split at h
      · rename_i c; rw [List.mem_singleton] at h; exact .inl ⟨c.1, c.2, h⟩
      · cases h
    · split at h
      · rename_i c; rw [List.mem_singleton] at h; exact .inr ⟨c.1, c.2, h⟩
      · cases h
  · rintro ⟨a, v, hz, h⟩
    refine ⟨_, List.mem_map.mpr ⟨(a, v), hz, rfl⟩, ?_⟩
    unfold stepsOne
    rcases h with ⟨h1, h2, h3⟩ | ⟨h1, h2, h3⟩
    · rw [if_pos ⟨h1, h2⟩]; exact List.mem_append_left _ (by rw [h3]; exact List.mem_singleton.mpr rfl)
    · rw [if_pos (c := v.head = p ∧ 0 < v.back) ⟨h1, h2⟩]; exact List.mem_append_right _ (by rw [h3]; exact List.mem_singleton.mpr rfl)
/-- a way to q, its steps from the end, its places -/
inductive PathL (zs : Arcs) (b : Pl) : Pl → List Step → List Pl → Prop
  | nil : PathL zs b b [] [b]
  | cons {q pl : Pl} {s : Step} {l : List Step} {ns : List Pl} : s ∈ stepsOf zs pl → s.to = q → PathL zs b pl l ns → q ∉ ns → PathL zs b q (s :: l) (q :: ns)
abbrev RT := List (Pl × Option (Pl × Step))
inductive Back (R : RT) : Pl → List Step → Prop
  | nil {q : Pl} : look R q = some none → Back R q []
  | cons {q pl : Pl} {s : Step} {l : List Step} : look R q = some (some (pl, s)) → Back R pl l → Back R q (s :: l)
inductive Reach (zs : Arcs) (b : Pl) : RT → Prop
  | one : Reach zs b [(b, none)]
  | snoc {R : RT} {pl : Pl} {s : Step} : Reach zs b R → pl ∈ R.map (·.1) → s ∈ stepsOf zs pl → s.to ∉ R.map (·.1) → Reach zs b (R ++ [(s.to, some (pl, s))])
theorem look_off {κ α : Type} [DecidableEq κ] {m : List (κ × α)} {k : κ} (h : k ∉ m.map (·.1)) : look m k = none := by
  cases e : look m k with
  | none => rfl
  | some x => exact absurd (look_keys.mp (by rw [e]; rfl)) h
theorem Back.mono {R : RT} {x : Pl × Option (Pl × Step)} (hx : x.1 ∉ R.map (·.1)) {q : Pl} {l : List Step} (h : Back R q l) : Back (R ++ [x]) q l := by
  obtain ⟨k, v⟩ := x
  have e : ∀ q y, look R q = some y → look (R ++ [(k, v)]) q = some y := fun q y hy => by
    rw [look_snoc k q v R (look_off hx), if_neg (fun z => hx (by rw [← z]; exact look_keys.mp (by rw [hy]; rfl)))]; exact hy
  induction h with
  | nil h => exact .nil (e _ _ h)
  | cons h _ ih => exact .cons (e _ _ h) ih
theorem reach_back {zs : Arcs} {b : Pl} {R : RT} (h : Reach zs b R) : (R.map (·.1)).Nodup ∧ b ∈ R.map (·.1) ∧ ∀ q ∈ R.map (·.1), ∃ l ns, Back R q l ∧ PathL zs b q l ns ∧ ∀ x ∈ ns, x ∈ R.map (·.1) := by
  induction h with
  | one =>
    refine ⟨by simp, by simp, fun q hq => ?_⟩
    have : q = b := by simpa using hq
    subst this
    exact ⟨[], [q], .nil (look_pos rfl), .nil, fun x hx => by simpa using hx⟩
  | @snoc R pl s hR hp hs hn ih =>
    obtain ⟨nd, hb, ih⟩ := ih
    refine ⟨?_, ?_, fun q hq => ?_⟩
    · rw [List.map_append]
      refine List.nodup_append.mpr ⟨nd, by simp, fun x hx y hy e => ?_⟩
      simp only [List.map_cons, List.map_nil, List.mem_singleton] at hy
      exact hn (hy ▸ e ▸ hx)
    · rw [List.map_append]; exact List.mem_append_left _ hb
    · rw [List.map_append] at hq ⊢
      rcases List.mem_append.mp hq with h | h
      · obtain ⟨l, ns, h1, h2, h3⟩ := ih q h
        exact ⟨l, ns, h1.mono hn, h2, fun x hx => List.mem_append_left _ (h3 x hx)⟩
      · simp only [List.map_cons, List.map_nil, List.mem_singleton] at h
        subst h
        obtain ⟨l, ns, h1, h2, h3⟩ := ih pl hp
        refine ⟨s :: l, s.to :: ns, .cons ?_ (h1.mono hn), .cons hs rfl h2 (fun z => hn (h3 _ z)), fun x hx => ?_⟩
        · rw [look_snoc _ _ _ R (look_off hn), if_pos rfl]
        · rcases List.mem_cons.mp hx with e | e
          · subst e; simp
          · exact List.mem_append_left _ (h3 x e)
def valD : Option (Pl × Step) → D
  | none => .non
  | some (pl, s) => .tup [placeD pl, stepD s]
def mixOf (R : RT) : List (MK × D) := R.map fun p => (placeK p.1, valD p.2)
theorem look_mapK {κ κ' α β : Type} [DecidableEq κ] [DecidableEq κ'] {g : κ → κ'} (hg : ∀ a b, g a = g b → a = b) {h : α → β} (k : κ) : ∀ m : List (κ × α), look (m.map fun p => (g p.1, h p.2)) (g k) = (look m k).map h
  | [] => rfl
  | p :: r => by
    rw [List.map_cons]
    by_cases e : p.1 = k
    · rw [look_pos (p := (g p.1, h p.2)) (congrArg g e), look_pos e]; rfl
    · rw [look_neg (p := (g p.1, h p.2)) (fun z => e (hg _ _ z)), look_neg e]; exact look_mapK hg k r
theorem look_mix (R : RT) (q : Pl) : look (mixOf R) (placeK q) = (look R q).map valD := look_mapK (fun _ _ h => placeK_inj h) q R
theorem nodup_le {α : Type} [DecidableEq α] : ∀ {l u : List α}, l.Nodup → (∀ x ∈ l, x ∈ u) → l.length ≤ u.length
  | [], _, _, _ => Nat.zero_le _
  | a :: l, u, nd, h => by
    have n2 := List.nodup_cons.mp nd
    have ha := h a (List.mem_cons_self ..)
    have : l.length ≤ (u.erase a).length := nodup_le n2.2 fun x hx => by
      have hne : x ≠ a := fun e => n2.1 (e ▸ hx)
      exact (List.mem_erase_of_ne hne).mpr (h x (List.mem_cons_of_mem _ hx))
    rw [List.length_erase_of_mem ha] at this
    have hp : 0 < u.length := List.length_pos_of_mem ha
    rw [List.length_cons]; omega
def PlIn (B : Basin) (p : Pl) : Prop := match p with
  | .src => True
  | .cell c => B.In c
def univ (B : Basin) : List Pl := .src :: B.cells.map .cell
theorem mem_univ {B : Basin} {p : Pl} : p ∈ univ B ↔ PlIn B p := by
  unfold univ
  cases p with
  | src => simp [PlIn]
  | cell c =>
    simp only [List.mem_cons, reduceCtorEq, false_or, List.mem_map, Pl.cell.injEq, exists_eq_right, PlIn]
    exact mem_cells
def EndsIn (B : Basin) (vs : List ArcV) : Prop := ∀ v ∈ vs, PlIn B v.tail ∧ PlIn B v.head
theorem to_in {B : Basin} {as : List Addr} {vs : List ArcV} (h : EndsIn B vs) {p : Pl} {s : Step} (hs : s ∈ stepsOf (as.zip vs) p) : PlIn B s.to := by
  obtain ⟨a, v, hz, q⟩ := mem_stepsOf.mp hs
  have hv : v ∈ vs := (List.of_mem_zip hz).2
  rcases q with ⟨_, _, e⟩ | ⟨_, _, e⟩
  · rw [e]; exact (h v hv).2
  · rw [e]; exact (h v hv).1
section
variable {P : Program} {w : World} {K : PySem.W.Frag} {mg : Str → Option Value} {base : Heap}
theorem sc_Network_steps_back : FnScope ["self", "reached", "end", "found", "place", "before", "step"] ["self", "reached", "end"] (defScope s_Network_steps_back) := ⟨rfl, rfl, rfl, by decide +kernel, rfl, by decide +kernel, by decide +kernel⟩
-- Network_steps_back: 0 self, 1 reached, 2 end, 3 found, 4 place, 5 before, 6 step
def S_Network_steps_back (P : Program) (w : World) (K : PySem.W.Frag) : Spec := fun ds μ Q => ∃ (x r : Addr) (R : RT) (e : Pl) (l : List Step), ds = [.raw (.ref x), .raw (.ref r), placeD e] ∧ μ r = some (.mix P w (mixOf R)) ∧ Back R e l ∧ l.length ≤ 1000 ∧ Q (.lst (l.map stepD)) μ
theorem len_Network_steps_back : (S_Network_steps_back P w K).len 3 := fun ds μ Q h => by obtain ⟨_, _, _, _, _, rfl, _⟩ := h; rfl
theorem mono_Network_steps_back : Mono (S_Network_steps_back P w K) := fun ds μ P P' f h => by
  obtain ⟨x, r, R, e, l, e1, h1, h2, h3, q⟩ := h
  exact ⟨x, r, R, e, l, e1, h1, h2, h3, f _ _ q⟩
theorem c_Network_steps_back (Fx : Fx K mg) : Met P w K mg base 1 (He.ga K "Network") "steps_back" (S_Network_steps_back P w K) := by
  have hlen : (S_Network_steps_back P w K).len 3 := len_Network_steps_back
  obtain ⟨fd, F⟩ := Fx.c.def_ 29 (d := d_Network_steps_back) rfl
  refine ⟨_, fd, ["self", "reached", "end"], Fx.cls 73, Fx.meth 82, fnok F sc_Network_steps_back hlen (fun cdv A outer s H E hr => ?_), FunD.bindsN F fun _ _ _ _ _ _ us hl => match us, hl with | [_, _, _], _ => rfl⟩
  have hu := hu_of hr
  have nd := sc_Network_steps_back.nd
  refine ⟨_, (pss_cons (ps_set (i := 3) nd rfl (by first | exact Or.inl rfl | exact Or.inr rfl) (pe_lst pa_nil))
      (pss_cons (ps_set (i := 4) nd rfl (by first | exact Or.inl rfl | exact Or.inr rfl) (pv 2))
      (pss_cons (ps_while PassesOwn.never (pt_cmp (pc_notN (pe_mget (P := P) (w := w) hu (pv 1) (pv 4) (fun _ _ => rfl)))) (pss_cons (ps_asg (pe_mget (P := P) (w := w) hu (pv 1) (pv 4) (fun _ _ => rfl)) (pg_tup rfl (pgs_cons (pg_name (i := 5) nd rfl (by first | exact Or.inl rfl | exact Or.inr rfl)) (pgs_cons (pg_name (i := 6) nd rfl (by first | exact Or.inl rfl | exact Or.inr rfl)) pgs_nil))))
      (pss_cons (ps_expr (pe_bm PySem.F.plainAttrs_list PySem.F.slot_list_append PySem.F.type_list_append mt_append (pv 3) (pa_cons (pv 6) pa_nil)))
      (pss_one (ps_set (i := 4) nd rfl (by first | exact Or.inl rfl | exact Or.inr rfl) (pv 5))))))
      (pss_one (ps_ret (pv 3)))))), fun ds μ Pq hS => ?_⟩
  obtain ⟨x, r, R, e, l, rfl, hr, hb, hz, q⟩ := hS
  refine q_new fun f hf => q_set (V' 2) ?_
  have nf : r ≠ f := fun z => by rw [z, hf] at hr; cases hr
  refine pw_seq (pw_while (fun m ρ μ' => ∃ q done rest, rest.length = m ∧ done ++ rest = l ∧ Back R q rest ∧ μ' = μ.upd f (.lst (done.map stepD)) ∧ ∃ u v, ρ = [some (.raw (.ref x)), some (.raw (.ref r)), some (placeD e), some (.raw (.ref f)), some (placeD q), u, v]) (m0 := l.length) ⟨e, [], l, rfl, rfl, hb, rfl, none, none, rfl⟩ ?_)
  rintro m ρ μ' ⟨p, done, rest, hm, hd, hB, rfl, u, v, rfl⟩
  have hr2 : ∀ ds, (μ.upd f (.lst ds)) r = some (.mix P w (mixOf R)) := fun ds => (Mu.upd_ne nf).trans hr
  cases hB with
  | nil h =>
    have hl : look (mixOf R) (placeK p) = some .non := by rw [look_mix, h]; rfl
    refine EvT.go (b := false) (et_B (ev_notN (x := .non) (ev_mget (V' 1) (V' 4) (hr2 _) hl))) ⟨fun z => (by cases z), fun _ => ?_⟩
    rw [List.append_nil] at hd
    subst hd
    exact pw_freezeL (i := 3) rfl Mu.upd_same (s_retS (V' 3) (Mu.sub_off hf) q)
  | @cons _ pl s l' h hB' =>
    have hl : look (mixOf R) (placeK p) = some (.tup [placeD pl, stepD s]) := by rw [look_mix, h]; rfl
    refine EvT.go (b := true) (et_B (ev_notN (x := .tup _) (ev_mget (V' 1) (V' 4) (hr2 _) hl))) ⟨fun _ => ?_, fun z => (by cases z)⟩
    have hdl : done.length < 1000 := by
      have := congrArg List.length hd
      rw [List.length_append, List.length_cons] at this; omega
    refine q_two (ev_mget (V' 1) (V' 4) (hr2 _) hl) rfl ?_
    refine q_app (ds := done.map stepD) (V' 3) Mu.upd_same (V' 6) (sz_lt (by rw [List.length_map]; omega)) ?_
    rw [Mu.upd_upd]
    refine s_set (V' 5) ⟨l'.length, by rw [← hm]; exact Nat.lt_succ_self _, pl, done ++ [s], l', rfl, by rw [← hd]; simp, hB', by rw [List.map_append]; rfl, _, _, rfl⟩
theorem path_len {zs : Arcs} {b q : Pl} {l : List Step} {ns : List Pl} (h : PathL zs b q l ns) : ns.length = l.length + 1 ∧ ns.Nodup := by
  induction h with
  | nil => exact ⟨rfl, by simp⟩
  | cons _ _ _ hn ih => exact ⟨by rw [List.length_cons, ih.1, List.length_cons], List.nodup_cons.mpr ⟨hn, ih.2⟩⟩
theorem sc_Network_way : FnScope ["self", "begin", "end", "reached", "todo", "place", "step"] ["self", "begin", "end"] (defScope s_Network_way) := ⟨rfl, rfl, rfl, by decide +kernel, rfl, by decide +kernel, by decide +kernel⟩
-- Network_way: 0 self, 1 begin, 2 end, 3 reached, 4 todo, 5 place, 6 step
def S_Network_way (K : PySem.W.Frag) : Spec := fun ds μ Q => ∃ (n : NetA) (B : Basin) (as : List Addr) (vs : List ArcV) (b e : Pl), ds = [.raw (.ref n.x), placeD b, placeD e] ∧ B.Ok ∧ NetSt K μ n B as vs ∧ as.length ≤ 1000 ∧ EndsIn B vs ∧ PlIn B b ∧ Q .non μ ∧ ∀ l ns, PathL (as.zip vs) b e l ns → Q (.lst (l.map stepD)) μ
theorem len_Network_way : (S_Network_way K).len 3 := fun ds μ Q h => by obtain ⟨_, _, _, _, _, _, rfl, _⟩ := h; rfl
theorem mono_Network_way : Mono (S_Network_way K) := fun ds μ P P' f h => by
  obtain ⟨n, B, as, vs, b, e, e1, h0, h1, h2, h3, h4, h5, q⟩ := h
  exact ⟨n, B, as, vs, b, e, e1, h0, h1, h2, h3, h4, f _ _ h5, fun l ns h => f _ _ (q l ns h)⟩
theorem c_Network_way (Fx : Fx K mg) : Met P w K mg base 3 (He.ga K "Network") "way" (S_Network_way K) := by
  have hlen : (S_Network_way K).len 3 := len_Network_way
  obtain ⟨fd, F⟩ := Fx.c.def_ 28 (d := d_Network_way) rfl
  refine ⟨_, fd, ["self", "begin", "end"], Fx.cls 73, Fx.meth 81, fnok F sc_Network_way hlen (fun cdv A outer s H E hr => ?_), FunD.bindsN F fun _ _ _ _ _ _ us hl => match us, hl with | [_, _, _], _ => rfl⟩
  have hu := hu_of hr
  have nd := sc_Network_way.nd
  refine ⟨_, (pss_cons (ps_set (i := 3) nd rfl (by first | exact Or.inl rfl | exact Or.inr rfl) (pe_mnew (P := P) (w := w) hu (pv 1) pe_non))
      (pss_cons (ps_set (i := 4) nd rfl (by first | exact Or.inl rfl | exact Or.inr rfl) (pe_lst (pa_cons (pv 1) pa_nil)))
      (pss_cons (ps_while PassesOwn.never (k_tru (K := K) (pv 4)) (pss_cons (ps_set (i := 5) nd rfl (by first | exact Or.inl rfl | exact Or.inr rfl) (pe_bm PySem.F.plainAttrs_list PySem.F.slot_list_pop PySem.F.type_list_pop mt_popAt (pv 4) (pa_cons pe_int pa_nil)))
      (pss_cons (ps_if (pt_cmpR (k_eqD (K := K) hr.units) (pv 5) (pv 2) (nomark _)) (pss_one (ps_ret (k_met (c_Network_steps_back Fx) hr (by decide) (pv 0) (pa_cons (pv 3) (pa_cons (pv 2) pa_nil))))) pss_nil)
      (pss_one (ps_for PassesOwn.never rfl (k_list_ (K := K) (k_met (c_Network_steps Fx) hr (by decide) (pv 0) (pa_cons (pv 5) pa_nil))) (pg_name (i := 6) nd rfl (by first | exact Or.inl rfl | exact Or.inr rfl)) (pss_one (ps_if (pt_cmp (pc_mnot (P := P) (w := w) hu (pe_ix (k_ix (K := K)) (pv 6) pe_int (fun _ _ => rfl)) (pv 3))) (pss_cons (ps_mput (P := P) (w := w) hu (pv 3) (pe_ix (k_ix (K := K)) (pv 6) pe_int (fun _ _ => rfl)) (pe_tup (pa_cons (pv 5) (pa_cons (pv 6) pa_nil))) rfl)
      (pss_one (ps_expr (pe_bm PySem.F.plainAttrs_list PySem.F.slot_list_append PySem.F.type_list_append mt_append (pv 4) (pa_cons (pe_ix (k_ix (K := K)) (pv 6) pe_int (fun _ _ => rfl)) pa_nil))))) pss_nil)))))))
      (pss_one (ps_ret pe_non))))), fun ds μ Pq hS => ?_⟩
  obtain ⟨n, B, as, vs, b, e, rfl, ok, S, hz, hE, hB, q0, q⟩ := hS
  refine pw_seq (pw_set (we_mnew (p := b) (fun _ => V' 1) (fun _ => ev_non) fun r hr => ?_))
  refine pw_seq (pw_set (we_lstN ((ea_cons (V' 1) ea_nil).go ⟨sz_of (by simp), fun t ht => ?_⟩)))
  have rt : t ≠ r := fun z => by rw [z, Mu.upd_same] at ht; cases ht
  have ht0 : μ t = none := by rw [Mu.upd_ne rt] at ht; exact ht
  have sub : ∀ x y, μ.sub ((μ.upd r x).upd t y) := fun x y c o hc => by
    have h1 : c ≠ r := fun z => by rw [z, hr] at hc; cases hc
    have h2 : c ≠ t := fun z => by rw [z, ht0] at hc; cases hc
    rw [Mu.upd_ne h2, Mu.upd_ne h1]; exact hc
  have S1 : ∀ x y, NetSt K ((μ.upd r x).upd t y) n B as vs := fun x y => S.fr (sub x y)
  have hu6 := ok.six
  have hun : (univ B).length ≤ 7 := by
    unfold univ
    rw [List.length_cons, List.length_map, cells_len]; omega
  refine pw_seq (pw_while (fun m ρ μ' => ∃ R T, Reach (as.zip vs) b R ∧ (∀ x ∈ T, x ∈ R.map (·.1)) ∧ (∀ x ∈ R.map (·.1), x ∈ univ B) ∧ T.length ≤ R.length ∧ m = ((univ B).length - R.length) + T.length ∧ μ' = (μ.upd r (.mix P w (mixOf R))).upd t (.lst (T.map placeD)) ∧ ∃ u v, ρ = [some (.raw (.ref n.x)), some (placeD b), some (placeD e), some (.raw (.ref r)), some (.raw (.ref t)), u, v])
    (m0 := ((univ B).length - 1) + 1) ⟨[(b, none)], [b], .one, fun x hx => by simpa using hx, fun x hx => by
      have : x = b := by simpa using hx
      subst this; exact mem_univ.mpr hB, Nat.le_refl _, rfl, rfl, none, none, rfl⟩ ?_)
  rintro m ρ μ' ⟨R, T, hR, hT, hU, hTR, hm, rfl, u, v, rfl⟩
  obtain ⟨nd, hb, back⟩ := reach_back hR
  have hRl : R.length ≤ (univ B).length := by
    have := nodup_le nd hU
    rw [List.length_map] at this; exact this
  cases T with
  | nil =>
    refine EvT.go (b := false) (et_truL (ds := []) (V' 4) (.inr ⟨t, rfl, Mu.upd_same⟩)) ⟨fun z => (by cases z), fun _ => ?_⟩
    exact s_retS ev_non (sub _ _) q0
  | cons p T =>
    refine EvT.go (b := true) (et_truL (ds := (p :: T).map placeD) (V' 4) (.inr ⟨t, rfl, Mu.upd_same⟩)) ⟨fun _ => ?_, fun z => (by cases z)⟩
    refine pw_seq (pw_set (we_pop0 (d := placeD p) (ds := T.map placeD) (V' 4) Mu.upd_same ?_))
    rw [Mu.upd_upd]
    have hp : p ∈ R.map (·.1) := hT p (List.mem_cons_self ..)
    refine q_when (et_test (ev_eqD (V' 5) (V' 2) (eqv_place _ _) (ok_place _) (ok_place _) (sh_place _) (sh_place _))) (fun h => ?_) (fun _ => ?_)
    · have h := of_decide_eq_true h
      subst h
      obtain ⟨l, ns, h1, h2, h3⟩ := back p hp
      have hl : l.length ≤ 1000 := by
        obtain ⟨h4, h5⟩ := path_len h2
        have := nodup_le h5 (fun x hx => hU x (h3 x hx))
        omega
      refine pw_ret (we_meth ((V' 0).go ⟨n.x, _, rfl, (S1 _ _).ins, rfl, (ea_cons (V' 3) (ea_cons (V' 2) ea_nil)).go ⟨n.x, r, R, p, l, rfl, ?_, h1, hl, ?_⟩⟩) mono_Network_steps_back)
      · rw [Mu.upd_ne (Ne.symm rt), Mu.upd_same]; rfl
      · exact ⟨μ, sub _ _, q l ns h2⟩
    · refine pw_for (fun i ρ μ' => ∃ (R' : RT) (T' : List Pl), Reach (as.zip vs) b R' ∧ p ∈ R'.map (·.1) ∧ (∀ x ∈ T', x ∈ R'.map (·.1)) ∧ (∀ x ∈ R'.map (·.1), x ∈ univ B) ∧ R'.length + T.length = R.length + T'.length ∧ μ' = (μ.upd r (.mix P w (mixOf R'))).upd t (.lst (T'.map placeD)) ∧ ∃ v, ρ = [some (.raw (.ref n.x)), some (placeD b), some (placeD e), some (.raw (.ref r)), some (.raw (.ref t)), some (placeD p), v]) ?_
      refine wi_lst (we_meth ((V' 0).go ⟨n.x, _, rfl, (S1 _ _).ins, rfl, (ea_cons (V' 5) ea_nil).go ⟨n, B, as, vs, p, rfl, S1 _ _, hz, (stepsOf (as.zip vs) p).map stepD, rfl, ?_⟩⟩) mono_Network_steps)
      refine ⟨⟨R, T, hR, hp, fun x hx => hT x (List.mem_cons_of_mem _ hx), hU, rfl, rfl, _, rfl⟩, fun _ _ _ _ => trivial, ?_, ?_⟩
      · rintro i d ρ μ3 hd ⟨R', T', hR', hp', hT', hU', hc, rfl, v', rfl⟩
        rw [List.getElem?_map] at hd
        cases hs : (stepsOf (as.zip vs) p)[i]? with
        | none => rw [hs] at hd; cases hd
        | some s =>
          rw [hs] at hd; cases hd
          have hsm : s ∈ stepsOf (as.zip vs) p := List.mem_of_getElem? hs
          obtain ⟨nd', hb', _⟩ := reach_back hR'
          have hRl' : R'.length ≤ (univ B).length := by
            have := nodup_le nd' hU'
            rw [List.length_map] at this; exact this
          have hmr : ((μ.upd r (.mix P w (mixOf R'))).upd t (.lst (T'.map placeD))) r = some (.mix P w (mixOf R')) := by rw [Mu.upd_ne (Ne.symm rt), Mu.upd_same]
          have e2 : Ev K (tOp (rIx K) (tVar 6) (tC (.int 2))) [some (.raw (.ref n.x)), some (placeD b), some (placeD e), some (.raw (.ref r)), some (.raw (.ref t)), some (placeD p), some (stepD s)] ((μ.upd r (.mix P w (mixOf R'))).upd t (.lst (T'.map placeD))) (placeD s.to) := ev_ix (V' (d := stepD s) 6) ev_int
          refine wg_name (s_when (et_B (ev_mnot e2 (V' 3) hmr)) (fun h => ?_) (fun h => ?_))
          · rw [look_mix, Option.isSome_map] at h
            have hno : s.to ∉ R'.map (·.1) := fun z => by rw [look_keys.mpr z] at h; cases h
            have hln : look (mixOf R') (placeK s.to) = none := by rw [look_mix, look_off hno]; rfl
            refine pw_seq (s_mput (d := .tup [placeD p, stepD s]) (ev_tup (ea_cons (V' 5) (ea_cons (V' 6) ea_nil))) (V' 3) e2 hmr hln (by unfold mixOf; rw [List.length_map]; omega) ?_)
            show PW K _ _ _ _
            refine s_app (ds := T'.map placeD) (V' 4) (by rw [Mu.upd_ne rt, Mu.upd_same]) (ev_ix (V' (d := stepD s) 6) ev_int) (sz_lt (by rw [List.length_map]; rw [List.length_cons] at hTR; omega)) ?_
            refine ⟨R' ++ [(s.to, some (p, s))], T' ++ [s.to], .snoc hR' hp' hsm hno, ?_, ?_, ?_, ?_, ?_, some (stepD s), rfl⟩
            · rw [List.map_append]; exact List.mem_append_left _ hp'
            · intro x hx
              rw [List.map_append]
              rcases List.mem_append.mp hx with z | z
              · exact List.mem_append_left _ (hT' x z)
              · exact List.mem_append_right _ (by simpa using z)
            · intro x hx
              rw [List.map_append] at hx
              rcases List.mem_append.mp hx with z | z
              · exact hU' x z
              · have : x = s.to := by simpa using z
                rw [this]; exact mem_univ.mpr (to_in hE hsm)
            · simp only [List.length_append, List.length_cons, List.length_nil]; omega
            · rw [Mu.upd_comm (Ne.symm rt), Mu.upd_upd, Mu.upd_comm rt, Mu.upd_upd]
              unfold mixOf
              rw [List.map_append, List.map_append]; rfl
          · exact ⟨R', T', hR', hp', hT', hU', hc, rfl, some (stepD s), rfl⟩
      · rintro ρ μ3 ⟨R', T', hR', hp', hT', hU', hc, rfl, v', rfl⟩
        have hRl' : R'.length ≤ (univ B).length := by
          have := nodup_le (reach_back hR').1 hU'
          rw [List.length_map] at this; exact this
        rw [List.length_cons] at hm hTR
        exact ⟨((univ B).length - R'.length) + T'.length, by omega, R', T', hR', hT', hU', by omega, rfl, rfl, _, _, rfl⟩
end
end Hw
set_option Elab.async false
set_option linter.all false
set_option maxRecDepth 100000
set_option maxHeartbeats 4000000
/-! Push. -/
namespace Hw
open PySem PySem.Spec L2
def ArcV.ok (v : ArcV) : Prop := 0 ≤ v.flow ∧ ∀ m, v.most = some m → v.flow ≤ m
def AllOk (vs : List ArcV) : Prop := ∀ v ∈ vs, v.ok
structure SameA (v v' : ArcV) : Prop where
  tail : v'.tail = v.tail
  head : v'.head = v.head
  most : v'.most = v.most
  fixed : v'.fixed = v.fixed
  flow : v.fixed = true → v'.flow = v.flow
theorem SameA.refl (v : ArcV) : SameA v v := ⟨rfl, rfl, rfl, rfl, fun _ => rfl⟩
theorem SameA.trans {a b c : ArcV} (h : SameA a b) (g : SameA b c) : SameA a c := ⟨g.tail.trans h.tail, g.head.trans h.head, g.most.trans h.most, g.fixed.trans h.fixed, fun z => (g.flow (h.fixed.trans z)).trans (h.flow z)⟩
structure Same (vs vs' : List ArcV) : Prop where
  len : vs'.length = vs.length
  at_ : ∀ (i : Nat) (v v' : ArcV), vs[i]? = some v → vs'[i]? = some v' → SameA v v'
theorem Same.refl (vs : List ArcV) : Same vs vs := ⟨rfl, fun i v v' h h' => by rw [h] at h'; cases h'; exact .refl v⟩
theorem Same.trans {a b c : List ArcV} (h : Same a b) (g : Same b c) : Same a c := ⟨g.len.trans h.len, fun i v v' x y => by
  have hi := (List.getElem?_eq_some_iff.mp x).1
  have z : b[i]? = some (b[i]'(by rw [h.len]; exact hi)) := List.getElem?_eq_getElem _
  exact (h.at_ i v _ x z).trans (g.at_ i _ v' z y)⟩
theorem Same.set {vs : List ArcV} {k : Nat} {v v' : ArcV} (h : vs[k]? = some v) (s : SameA v v') : Same vs (vs.set k v') := ⟨List.length_set, fun i x y hx hy => by
  by_cases e : k = i
  · subst e
    rw [List.getElem?_set_self (List.getElem?_eq_some_iff.mp h).1] at hy
    cases hy
    rw [h] at hx; cases hx; exact s
  · rw [List.getElem?_set_ne e] at hy
    rw [hx] at hy; cases hy; exact .refl _⟩
theorem Same.ends {B : Basin} {vs vs' : List ArcV} (s : Same vs vs') (h : EndsIn B vs) : EndsIn B vs' := fun v' hv' => by
  obtain ⟨i, hi⟩ := List.mem_iff_getElem?.mp hv'
  have hl := (List.getElem?_eq_some_iff.mp hi).1
  have z : vs[i]? = some (vs[i]'(by rw [← s.len]; exact hl)) := List.getElem?_eq_getElem _
  have q := s.at_ i _ v' z hi
  rw [q.tail, q.head]
  exact h _ (List.mem_of_getElem? z)
def ArcV.net (v : ArcV) (p : Pl) : Int := (if v.head = p then v.flow else 0) - (if v.tail = p then v.flow else 0)
def netOf (vs : List ArcV) (p : Pl) : Int := (vs.map fun v => v.net p).sum
theorem net_set {p : Pl} {v v' : ArcV} : ∀ {vs : List ArcV} {k : Nat}, vs[k]? = some v → netOf (vs.set k v') p = netOf vs p - v.net p + v'.net p
  | [], _, h => by cases h
  | x :: vs, 0, h => by
    cases h
    unfold netOf
    rw [List.set_cons_zero, List.map_cons, List.map_cons, List.sum_cons, List.sum_cons]; omega
  | x :: vs, k + 1, h => by
    have ih := net_set (p := p) (v' := v') (vs := vs) (k := k) h
    unfold netOf at ih ⊢
    rw [List.set_cons_succ, List.map_cons, List.map_cons, List.sum_cons, List.sum_cons, ih]; omega
/-- the flow of one step -/
def Step.of (s : Step) (v : ArcV) (am : Int) : ArcV := ⟨v.tail, v.head, v.most, v.flow + (if s.fw = true then am else 0 - am), v.fixed⟩
theorem zip_fun {as : List Addr} {vs : List ArcV} (nd : as.Nodup) {a : Addr} {v v' : ArcV} (h : (a, v) ∈ as.zip vs) (h' : (a, v') ∈ as.zip vs) : v = v' := by
  obtain ⟨i, hi⟩ := List.mem_iff_getElem?.mp h
  obtain ⟨j, hj⟩ := List.mem_iff_getElem?.mp h'
  rw [List.getElem?_zip_eq_some] at hi hj
  have := (List.getElem?_inj (List.getElem?_eq_some_iff.mp hi.1).1 nd).mp (hi.1.trans hj.1.symm)
  subst this
  exact Option.some.inj (hi.2.symm.trans hj.2)
/-- what a step says of its arc -/
theorem step_arc {zs : Arcs} {p : Pl} {s : Step} (h : s ∈ stepsOf zs p) : ∃ v, (s.a, v) ∈ zs ∧ ((s.fw = true ∧ v.tail = p ∧ v.head = s.to ∧ v.ahead ≠ some 0 ∧ s.more = v.ahead) ∨ (s.fw = false ∧ v.head = p ∧ v.tail = s.to ∧ 0 < v.back ∧ s.more = some v.back)) := by
  obtain ⟨a, v, hz, q⟩ := mem_stepsOf.mp h
  rcases q with ⟨h1, h2, e⟩ | ⟨h1, h2, e⟩
  · rw [e]; exact ⟨v, hz, .inl ⟨rfl, h1, rfl, h2, rfl⟩⟩
  · rw [e]; exact ⟨v, hz, .inr ⟨rfl, h1, rfl, h2, rfl⟩⟩
theorem path_head {zs : Arcs} {b q : Pl} {l : List Step} {ns : List Pl} (h : PathL zs b q l ns) : q ∈ ns := by
  cases h <;> exact List.mem_cons_self ..
theorem path_ends {as : List Addr} {vs : List ArcV} (nd : as.Nodup) {b q : Pl} {l : List Step} {ns : List Pl} (h : PathL (as.zip vs) b q l ns) : ∀ s ∈ l, ∀ v, (s.a, v) ∈ as.zip vs → v.tail ∈ ns ∧ v.head ∈ ns := by
  induction h with
  | nil => intro s hs; cases hs
  | @cons q pl s l ns hs ht hp hn ih =>
    intro s' hs' v hv
    rcases List.mem_cons.mp hs' with e | e
    · subst e
      obtain ⟨v', hv', w⟩ := step_arc hs
      cases zip_fun nd hv hv'
      have := path_head hp
      rcases w with ⟨_, h1, h2, _⟩ | ⟨_, h1, h2, _⟩
      · rw [h1, h2, ht]; exact ⟨List.mem_cons_of_mem _ this, List.mem_cons_self ..⟩
      · rw [h1, h2, ht]; exact ⟨List.mem_cons_self .., List.mem_cons_of_mem _ this⟩
    · have := ih s' e v hv
      exact ⟨List.mem_cons_of_mem _ this.1, List.mem_cons_of_mem _ this.2⟩
/-- the step's bounds -/
theorem more_pos {v : ArcV} {s : Step} (ok : v.ok) (h : (s.fw = true ∧ v.ahead ≠ some 0 ∧ s.more = v.ahead) ∨ (s.fw = false ∧ 0 < v.back ∧ s.more = some v.back)) : v.fixed = false ∧ ∀ x, s.more = some x → 0 < x := by
  rcases h with ⟨_, h2, h3⟩ | ⟨_, h2, h3⟩
  · unfold ArcV.ahead at h2 h3
    by_cases c : v.fixed = true
    · rw [if_pos c] at h2; exact absurd rfl h2
    · rw [if_neg c] at h2 h3
      refine ⟨by simpa using c, fun x hx => ?_⟩
      rw [hx] at h3
      cases hm : v.most with
      | none => rw [hm] at h3; cases h3
      | some m =>
        rw [hm] at h2 h3
        cases h3
        have h4 := ok.2 m hm
        have : m - v.flow ≠ 0 := fun z => h2 (by show some (m - v.flow) = some 0; rw [z])
        show 0 < m - v.flow
        omega
  · unfold ArcV.back at h2 h3
    by_cases c : v.fixed = true
    · rw [if_pos c] at h2; exact absurd h2 (by omega)
    · rw [if_neg c] at h2 h3
      refine ⟨by simpa using c, fun x hx => ?_⟩
      rw [hx] at h3; cases h3; exact h2
theorem of_ok {v : ArcV} {s : Step} {am : Int} (ok : v.ok) (h0 : 0 ≤ am) (h : (s.fw = true ∧ v.ahead ≠ some 0 ∧ s.more = v.ahead) ∨ (s.fw = false ∧ 0 < v.back ∧ s.more = some v.back)) (hm : ∀ x, s.more = some x → am ≤ x) : (s.of v am).ok ∧ SameA v (s.of v am) := by
  have hf := (more_pos ok h).1
  refine ⟨?_, rfl, rfl, rfl, rfl, fun z => by rw [hf] at z; cases z⟩
  unfold Step.of ArcV.ok
  rcases h with ⟨h1, h2, h3⟩ | ⟨h1, h2, h3⟩
  · rw [if_pos h1]
    refine ⟨by have := ok.1; show 0 ≤ v.flow + am; omega, fun m hmo => ?_⟩
    have hmo : v.most = some m := hmo
    unfold ArcV.ahead at h3
    rw [if_neg (by rw [hf]; simp), hmo] at h3
    have : am ≤ m - v.flow := hm _ h3
    show v.flow + am ≤ m
    omega
  · rw [if_neg (by rw [h1]; simp)]
    unfold ArcV.back at h3
    rw [if_neg (by rw [hf]; simp)] at h3
    have := hm _ h3
    refine ⟨by show 0 ≤ v.flow + (0 - am); omega, fun m hmo => ?_⟩
    have := ok.2 m hmo
    show v.flow + (0 - am) ≤ m
    omega
theorem net_fw (f am : Int) (p q x : Pl) : (if q = x then f + am else 0) - (if p = x then f + am else 0) = ((if q = x then f else 0) - (if p = x then f else 0)) + (if x = q then am else 0) - (if x = p then am else 0) := by
  by_cases c1 : q = x
  · rw [if_pos c1, if_pos c1, if_pos c1.symm]
    by_cases c2 : p = x
    · rw [if_pos c2, if_pos c2, if_pos c2.symm]; omega
    · rw [if_neg c2, if_neg c2, if_neg (Ne.symm c2)]; omega
  · rw [if_neg c1, if_neg c1, if_neg (Ne.symm c1)]
    by_cases c2 : p = x
    · rw [if_pos c2, if_pos c2, if_pos c2.symm]; omega
    · rw [if_neg c2, if_neg c2, if_neg (Ne.symm c2)]; omega
theorem net_bw (f am : Int) (p q x : Pl) : (if p = x then f + (0 - am) else 0) - (if q = x then f + (0 - am) else 0) = ((if p = x then f else 0) - (if q = x then f else 0)) + (if x = q then am else 0) - (if x = p then am else 0) := by
  by_cases c1 : q = x
  · rw [if_pos c1, if_pos c1, if_pos c1.symm]
    by_cases c2 : p = x
    · rw [if_pos c2, if_pos c2, if_pos c2.symm]; omega
    · rw [if_neg c2, if_neg c2, if_neg (Ne.symm c2)]; omega
  · rw [if_neg c1, if_neg c1, if_neg (Ne.symm c1)]
    by_cases c2 : p = x
    · rw [if_pos c2, if_pos c2, if_pos c2.symm]; omega
    · rw [if_neg c2, if_neg c2, if_neg (Ne.symm c2)]; omega
theorem of_net {v : ArcV} {s : Step} {am : Int} {p q : Pl} (x : Pl) (h : (s.fw = true ∧ v.tail = p ∧ v.head = q) ∨ (s.fw = false ∧ v.head = p ∧ v.tail = q)) : (s.of v am).net x = v.net x + (if x = q then am else 0) - (if x = p then am else 0) := by
  show (if v.head = x then v.flow + (if s.fw = true then am else 0 - am) else 0) - (if v.tail = x then v.flow + (if s.fw = true then am else 0 - am) else 0) = ((if v.head = x then v.flow else 0) - (if v.tail = x then v.flow else 0)) + _ - _
  rcases h with ⟨h1, h2, h3⟩ | ⟨h1, h2, h3⟩
  · rw [h1, h2, h3]; exact net_fw ..
  · rw [h1, h2, h3]; exact net_bw ..
def leastAll (l : List Step) (a : Int) : Int := l.foldl (fun a s => leastOf s.more a) a
theorem leastAll_ok : ∀ (l : List Step) (a : Int), 0 < a → (∀ s ∈ l, ∀ x, s.more = some x → 0 < x) → 0 < leastAll l a ∧ leastAll l a ≤ a ∧ ∀ s ∈ l, ∀ x, s.more = some x → leastAll l a ≤ x
  | [], a, h, _ => ⟨h, Int.le_refl _, fun s hs => by cases hs⟩
  | s :: l, a, h, hp => by
    have h1 : 0 < leastOf s.more a ∧ leastOf s.more a ≤ a ∧ ∀ x, s.more = some x → leastOf s.more a ≤ x := by
      unfold leastOf
      cases hm : s.more with
      | none => exact ⟨h, Int.le_refl _, fun x z => by cases z⟩
      | some i =>
        have := hp s (List.mem_cons_self ..) i hm
        exact ⟨by show 0 < min i a; omega, by show min i a ≤ a; omega, fun x z => by cases z; show min i a ≤ i; omega⟩
    obtain ⟨g1, g2, g3⟩ := leastAll_ok l (leastOf s.more a) h1.1 fun t ht => hp t (List.mem_cons_of_mem _ ht)
    refine ⟨g1, by show leastAll l (leastOf s.more a) ≤ a; omega, fun t ht x hx => ?_⟩
    rcases List.mem_cons.mp ht with e | e
    · subst e
      have := h1.2.2 x hx
      show leastAll l (leastOf t.more a) ≤ x; omega
    · exact g3 t e x hx
section
variable {P : Program} {w : World} {K : PySem.W.Frag} {mg : Str → Option Value} {base : Heap}
theorem NetSt.setA {μ : Mu} {n : NetA} {B : Basin} {as : List Addr} {vs : List ArcV} {k : Nat} {a : Addr} {v' : ArcV} (S : NetSt K μ n B as vs) (ha : as[k]? = some a) : NetSt K (μ.upd a (.ins (He.ga K "Arc") (arcFs v'))) n B as (vs.set k v') := by
  have nd := S.nd
  have am : a ∈ as := List.mem_of_getElem? ha
  simp only [List.nodup_cons, List.mem_cons, not_or] at nd
  obtain ⟨⟨_, _, _, x1⟩, ⟨_, _, x2⟩, ⟨_, x3⟩, x4, ndas⟩ := nd
  refine ⟨?_, ?_, by rw [List.length_set]; exact S.len, fun i b v hb hv => ?_, S.nd⟩
  · exact (Mu.upd_ne (fun e => x1 (by rw [e]; exact am))).trans S.ins
  · exact (Mu.upd_ne (fun e => x4 (by rw [e]; exact am))).trans S.ls
  · unfold ArcAt
    by_cases e : k = i
    · subst e
      rw [ha] at hb; cases hb
      rw [List.getElem?_set_self (by rw [← S.len]; exact (List.getElem?_eq_some_iff.mp ha).1)] at hv
      cases hv
      exact Mu.upd_same
    · have hne : b ≠ a := fun z => by
        subst z
        exact e ((List.getElem?_inj (List.getElem?_eq_some_iff.mp ha).1 ndas).mp (ha.trans hb.symm))
      rw [List.getElem?_set_ne e] at hv
      rw [Mu.upd_ne hne]; exact S.at_ i b v hb hv
theorem sc_Network_push : FnScope ["self", "begin", "end", "most", "total", "steps", "amount", "step", "arc", "is_ahead", "_"] ["self", "begin", "end", "most"] (defScope s_Network_push) := ⟨rfl, rfl, rfl, by decide +kernel, rfl, by decide +kernel, by decide +kernel⟩
-- Network_push: 0 self, 1 begin, 2 end, 3 most, 4 total, 5 steps, 6 amount, 7 step, 8 arc, 9 is_ahead, 10 _
def S_Network_push (K : PySem.W.Frag) : Spec := fun ds μ Q => ∃ (n : NetA) (B : Basin) (as : List Addr) (vs : List ArcV) (b e : Pl) (most : Int), ds = [.raw (.ref n.x), placeD b, placeD e, .int most] ∧ B.Ok ∧ NetSt K μ n B as vs ∧ as.length ≤ 1000 ∧ EndsIn B vs ∧ AllOk vs ∧ PlIn B b ∧ 0 ≤ most ∧
  ∀ (t : Int) (vs' : List ArcV) (μ' : Mu), 0 ≤ t → t ≤ most → Same vs vs' → AllOk vs' → (∀ p, netOf vs' p = netOf vs p + (if p = e then t else 0) - (if p = b then t else 0)) → (∀ c, c ∉ as → μ' c = μ c) → NetSt K μ' n B as vs' → Q (.int t) μ'
theorem len_Network_push : (S_Network_push K).len 4 := fun ds μ Q h => by obtain ⟨_, _, _, _, _, _, _, rfl, _⟩ := h; rfl
theorem mono_Network_push : Mono (S_Network_push K) := fun ds μ P P' f h => by
  obtain ⟨n, B, as, vs, b, e, m, e1, h0, h1, h2, h3, h4, h5, h6, q⟩ := h
  exact ⟨n, B, as, vs, b, e, m, e1, h0, h1, h2, h3, h4, h5, h6, fun t vs' μ' a1 a2 a3 a4 a5 a6 a7 => f _ _ (q t vs' μ' a1 a2 a3 a4 a5 a6 a7)⟩
theorem c_Network_push (Fx : Fx K mg) : Met P w K mg base 4 (He.ga K "Network") "push" (S_Network_push K) := by
  have hlen : (S_Network_push K).len 4 := len_Network_push
  obtain ⟨fd, F⟩ := Fx.c.def_ 30 (d := d_Network_push) rfl
  refine ⟨_, fd, ["self", "begin", "end", "most"], Fx.cls 73, Fx.meth 83, fnok F sc_Network_push hlen (fun cdv A outer s H E hr => ?_), FunD.bindsN F fun _ _ _ _ _ _ us hl => match us, hl with | [_, _, _, _], _ => rfl⟩
  have hu := hu_of hr
  have nd := sc_Network_push.nd
  refine ⟨_, (pss_cons (ps_set (i := 4) nd rfl (by first | exact Or.inl rfl | exact Or.inr rfl) pe_int)
      (pss_cons (ps_while PassesOwn.never (pt_cmpR op_lt (pv 4) (pv 3) (nomark _)) (pss_cons (ps_set (i := 5) nd rfl (by first | exact Or.inl rfl | exact Or.inr rfl) (k_met (c_Network_way Fx) hr (by decide) (pv 0) (pa_cons (pv 1) (pa_cons (pv 2) pa_nil))))
      (pss_cons (ps_if (pt_cmp (pc_isN (pv 5))) (pss_one ps_break) pss_nil)
      (pss_cons (ps_set (i := 6) nd rfl (by first | exact Or.inl rfl | exact Or.inr rfl) (pe_op op_sub (pv 3) (pv 4)))
      (pss_cons (ps_for PassesOwn.never rfl (k_list_ (K := K) (pv 5)) (pg_name (i := 7) nd rfl (by first | exact Or.inl rfl | exact Or.inr rfl)) (pss_one (ps_set (i := 6) nd rfl (by first | exact Or.inl rfl | exact Or.inr rfl) (k_cal (c_least Fx) hr (by decide) rfl (pa_cons (pe_ix (k_ix (K := K)) (pv 7) pe_int (fun _ _ => rfl)) (pa_cons (pv 6) pa_nil))))))
      (pss_cons (ps_for PassesOwn.never rfl (k_list_ (K := K) (pv 5)) (pg_tup rfl (pgs_cons (pg_name (i := 8) nd rfl (by first | exact Or.inl rfl | exact Or.inr rfl)) (pgs_cons (pg_name (i := 9) nd rfl (by first | exact Or.inl rfl | exact Or.inr rfl)) (pgs_cons (pg_name (i := 10) nd rfl (by first | exact Or.inl rfl | exact Or.inr rfl)) (pgs_cons (pg_name (i := 10) nd rfl (by first | exact Or.inl rfl | exact Or.inr rfl)) pgs_nil))))) (pss_one (ps_fldaug (pv 8) (pe_ifExp (k_tru (K := K) (pv 9)) (pv 6) (pe_op op_sub pe_int (pv 6))) in_add)))
      (pss_one (ps_aug (i := 4) nd rfl (by first | exact Or.inl rfl | exact Or.inr rfl) (pv 6) ip_add))))))))
      (pss_one (ps_ret (pv 4))))), fun ds μ Pq hS => ?_⟩
  obtain ⟨n, B, as, vs, b, e, most, rfl, ok, S, hz, hE, hO, hB, h0, q⟩ := hS
  have cl := (Fx.cls 63)
  have ndas : as.Nodup := by
    have nd := S.nd
    simp only [List.nodup_cons] at nd
    exact nd.2.2.2.2
  refine q_set ev_int (pw_seq (pw_while (fun m ρ μ' => ∃ t vs', 0 ≤ t ∧ t ≤ most ∧ m = (most - t).toNat ∧ Same vs vs' ∧ AllOk vs' ∧ (∀ p, netOf vs' p = netOf vs p + (if p = e then t else 0) - (if p = b then t else 0)) ∧ (∀ c, c ∉ as → μ' c = μ c) ∧ NetSt K μ' n B as vs' ∧ ∃ a5 a6 a7 a8 a9 a10, ρ = [some (.raw (.ref n.x)), some (placeD b), some (placeD e), some (.int most), some (.int t), a5, a6, a7, a8, a9, a10])
    (m0 := (most - 0).toNat) ⟨0, vs, Int.le_refl _, h0, rfl, .refl vs, hO, fun p => by simp, fun _ _ => rfl, S, none, none, none, none, none, none, rfl⟩ ?_))
  rintro m ρ μ1 ⟨t, vs1, ht0, ht1, hm, hS1, hO1, hn1, hf1, S1, a5, a6, a7, a8, a9, a10, rfl⟩
  refine EvT.go (et_test (ev_lt (V' 4) (V' 3))) ⟨fun h => ?_, fun _ => s_retS (V' 4) (Mu.sub.refl _) (q t vs1 μ1 ht0 ht1 hS1 hO1 hn1 hf1 S1)⟩
  have hlt := of_decide_eq_true h
  refine pw_seq (pw_set (we_meth ((V' 0).go ⟨n.x, _, rfl, S1.ins, rfl, (ea_cons (V' 1) (ea_cons (V' 2) ea_nil)).go ⟨n, B, as, vs1, b, e, rfl, ok, S1, hz, hS1.ends hE, hB, ?_, fun l ns hp => ?_⟩⟩) mono_Network_way))
  · exact q_when (b := true) (et_B (ev_isN (x := .non) (V' 5))) (fun _ => pw_break (s_retS (V' 4) (Mu.sub.refl _) (q t vs1 μ1 ht0 ht1 hS1 hO1 hn1 hf1 S1))) (fun z => by cases z)
  · refine q_when (b := false) (et_B (ev_isN (x := .lst _) (V' 5))) (fun z => by cases z) (fun _ => q_set (ev_sub (V' 3) (V' 4)) ?_)
    refine pw_seq (pw_for (fun i ρ μ2 => μ2 = μ1 ∧ ∃ a7, ρ = [some (.raw (.ref n.x)), some (placeD b), some (placeD e), some (.int most), some (.int t), some (.lst (l.map stepD)), some (.int (leastAll (l.take i) (most - t))), a7, a8, a9, a10]) ?_)
    refine wi_lstE (V' (d := .lst (l.map stepD)) 5) ⟨⟨rfl, _, rfl⟩, fun _ _ _ _ => trivial, ?_, ?_⟩
    · rintro i d ρ μ2 hd ⟨rfl, a7', rfl⟩
      rw [List.getElem?_map] at hd
      cases hs : l[i]? with
      | none => rw [hs] at hd; cases hd
      | some s =>
        rw [hs] at hd; cases hd
        have e1 : leastAll (l.take (i + 1)) (most - t) = leastOf s.more (leastAll (l.take i) (most - t)) := foldl_take _ _ _ _ _ hs
        refine wg_name (s_set (ev_call (ea_cons (ev_ix (V' (d := stepD s) 7) ev_int) (ea_cons (V' 6) ea_nil)) ⟨s.more, _, rfl, rfl, rfl⟩ mono_least) ⟨rfl, some (stepD s), ?_⟩)
        rw [e1]; rfl
    · rintro ρ μ2 ⟨rfl, a7', rfl⟩
      rw [List.length_map, List.take_length]
      have hpos : ∀ s ∈ l, ∀ x, s.more = some x → 0 < x := by
        have key : ∀ {q l ns}, PathL (as.zip vs1) b q l ns → ∀ s ∈ l, ∀ x, s.more = some x → 0 < x := by
          intro q l ns h
          induction h with
          | nil => intro s hs; cases hs
          | @cons q pl s l ns hs _ _ _ ih =>
            intro s' hs' x hx
            rcases List.mem_cons.mp hs' with z | z
            · subst z
              obtain ⟨v, hv, w⟩ := step_arc hs
              refine (more_pos (hO1 v (List.of_mem_zip hv).2) ?_).2 x hx
              rcases w with ⟨w1, _, _, w2, w3⟩ | ⟨w1, _, _, w2, w3⟩
              · exact .inl ⟨w1, w2, w3⟩
              · exact .inr ⟨w1, w2, w3⟩
            · exact ih s' z x hx
        exact key hp
      obtain ⟨g1, g2, g3⟩ := leastAll_ok l (most - t) (by omega) hpos
      generalize leastAll l (most - t) = am at g1 g2 g3
      refine pw_seq (pw_for (fun i ρ μ3 => ∃ vs2 q2 ns2, Same vs1 vs2 ∧ AllOk vs2 ∧ PathL (as.zip vs1) b q2 (l.drop i) ns2 ∧ (∀ s ∈ l.drop i, ∀ v, (s.a, v) ∈ as.zip vs1 → (s.a, v) ∈ as.zip vs2) ∧ (∀ p, netOf vs2 p = netOf vs1 p + (if p = e then am else 0) - (if p = q2 then am else 0)) ∧ (∀ c, c ∉ as → μ3 c = μ c) ∧ NetSt K μ3 n B as vs2 ∧ ∃ a7 a8 a9 a10, ρ = [some (.raw (.ref n.x)), some (placeD b), some (placeD e), some (.int most), some (.int t), some (.lst (l.map stepD)), some (.int am), a7, a8, a9, a10]) ?_)
      refine wi_lstE (V' (d := .lst (l.map stepD)) 5) ⟨⟨vs1, e, ns, .refl vs1, hO1, hp, fun _ _ _ h => h, fun p => by omega, hf1, S1, _, _, _, _, rfl⟩, fun _ _ _ _ => trivial, ?_, ?_⟩
      · rintro i d ρ μ3 hd ⟨vs2, q2, ns2, hS2, hO2, hp2, hu2, hn2, hf2, S2, b7, b8, b9, b10, rfl⟩
        rw [List.getElem?_map] at hd
        cases hs : l[i]? with
        | none => rw [hs] at hd; cases hd
        | some s =>
          rw [hs] at hd; cases hd
          have hil := (List.getElem?_eq_some_iff.mp hs).1
          have hdr : l.drop i = s :: l.drop (i + 1) := by
            rw [List.drop_eq_getElem_cons hil, (List.getElem?_eq_some_iff.mp hs).2]
          rw [hdr] at hp2 hu2
          have hsl : s ∈ l := List.mem_of_getElem? hs
          cases hp2 with
          | @cons _ pl _ _ ns3 hst hto hp3 hn3 =>
            obtain ⟨v, hv1, wv⟩ := step_arc hst
            have hv2 := hu2 s (List.mem_cons_self ..) v hv1
            obtain ⟨k, hk⟩ := List.mem_iff_getElem?.mp hv2
            rw [List.getElem?_zip_eq_some] at hk
            have wm : (s.fw = true ∧ v.ahead ≠ some 0 ∧ s.more = v.ahead) ∨ (s.fw = false ∧ 0 < v.back ∧ s.more = some v.back) := by
              rcases wv with ⟨w1, _, _, w2, w3⟩ | ⟨w1, _, _, w2, w3⟩
              · exact .inl ⟨w1, w2, w3⟩
              · exact .inr ⟨w1, w2, w3⟩
            have wn : (s.fw = true ∧ v.tail = pl ∧ v.head = q2) ∨ (s.fw = false ∧ v.head = pl ∧ v.tail = q2) := by
              rcases wv with ⟨w1, w2, w3, _⟩ | ⟨w1, w2, w3, _⟩
              · exact .inl ⟨w1, w2, w3.trans hto⟩
              · exact .inr ⟨w1, w2, w3.trans hto⟩
            obtain ⟨o1, o2⟩ := of_ok (hO2 v (List.mem_of_getElem? hk.2)) (by omega) wm (g3 s hsl)
            have hA := S2.at_ k s.a v hk.1 hk.2
            refine wg_tup rfl (wgs_cons (wg_name (wgs_cons (wg_name (wgs_cons (wg_name (wgs_cons (wg_name (wgs_nil ?_)))))))))
            refine s_fldaug (fun i j => i + j) (fun i j H Q h => ⟨i, j, rfl, rfl, h⟩) (n := v.flow) (V' 8) hA cl (Fx.noat 68) rfl (Ev.go (d := .int (if s.fw = true then am else 0 - am)) (ev_ite (b := s.fw) (et_truB (V' 9)) (fun h => ?_) (fun h => ?_)) ⟨_, arcFs v, rfl, hA, of_decide_eq_true rfl, ?_⟩)
            · rw [if_pos h]; exact V' 6
            · rw [if_neg (by rw [h]; simp)]; exact ev_sub ev_int (V' 6)
            · refine ⟨vs2.set k (s.of v am), pl, ns3, hS2.trans (.set hk.2 o2), ?_, hp3, ?_, ?_, ?_, S2.setA (v' := s.of v am) hk.1, _, _, _, _, rfl⟩
              · intro x hx
                rcases List.mem_or_eq_of_mem_set hx with z | z
                · exact hO2 x z
                · rw [z]; exact o1
              · intro s' hs' v' hv'
                have z2 := hu2 s' (List.mem_cons_of_mem _ hs') v' hv'
                have ne : s'.a ≠ s.a := fun z => by
                  rw [z] at hv'
                  cases zip_fun ndas hv' hv1
                  have := path_ends ndas hp3 s' hs' v (by rw [z]; exact hv1)
                  rcases wn with ⟨_, w2, w3⟩ | ⟨_, w2, w3⟩
                  · rw [w3] at this; exact hn3 this.2
                  · rw [w3] at this; exact hn3 this.1
                obtain ⟨k', hk'⟩ := List.mem_iff_getElem?.mp z2
                rw [List.getElem?_zip_eq_some] at hk'
                have nk : k ≠ k' := fun z => by
                  subst z
                  exact ne (Option.some.inj (hk'.1.symm.trans hk.1))
                refine List.mem_iff_getElem?.mpr ⟨k', ?_⟩
                rw [List.getElem?_zip_eq_some]
                exact ⟨hk'.1, by rw [List.getElem?_set_ne nk]; exact hk'.2⟩
              · intro x
                rw [net_set hk.2, of_net x wn, hn2 x]
                generalize netOf vs1 x = N
                generalize v.net x = V
                generalize (if x = e then am else 0) = A1
                generalize (if x = q2 then am else 0) = A2
                generalize (if x = pl then am else 0) = A3
                omega
              · intro c hc
                rw [Mu.upd_ne (fun z => hc (by rw [z]; exact List.mem_of_getElem? hk.1))]; exact hf2 c hc
      · rintro ρ μ3 ⟨vs2, q2, ns2, hS2, hO2, hp2, hu2, hn2, hf2, S2, b7, b8, b9, b10, rfl⟩
        rw [List.length_map, List.drop_length] at hp2
        cases hp2
        refine pw_aug (f := fun i j => i + j) rfl ((V' 6).go ⟨am, rfl, (most - (t + am)).toNat, by omega, t + am, vs2, by omega, by omega, rfl, hS1.trans hS2, hO2, fun p => ?_, hf2, S2, _, _, _, _, _, _, rfl⟩)
        rw [hn2 p, hn1 p]
        by_cases c1 : p = e
        · rw [if_pos c1, if_pos c1, if_pos c1]
          by_cases c2 : p = b
          · rw [if_pos c2, if_pos c2, if_pos c2]; omega
          · rw [if_neg c2, if_neg c2, if_neg c2]; omega
        · rw [if_neg c1, if_neg c1, if_neg c1]
          by_cases c2 : p = b
          · rw [if_pos c2, if_pos c2, if_pos c2]; omega
          · rw [if_neg c2, if_neg c2, if_neg c2]; omega
end
end Hw
set_option Elab.async false
set_option linter.all false
set_option maxRecDepth 100000
set_option maxHeartbeats 4000000
/-! The network of a basin. -/
namespace Hw
open PySem PySem.Spec L2
inductive Kind where
  | src (c : Cell)
  | sto (c : Cell)
  | rel (c : Cell)
deriving DecidableEq
def kindsOf (B : Basin) (c : Cell) : List Kind := .src c :: ((if c.2 + 1 < B.months then [.sto c] else []) ++ (if B.letTo c ≠ none then [.rel c] else []))
def kinds (B : Basin) (cs : List Cell) : List Kind := (cs.map (kindsOf B)).flatten
def Kind.cell : Kind → Cell
  | .src c => c
  | .sto c => c
  | .rel c => c
def Kind.tail : Kind → Pl
  | .src _ => .src
  | .sto c => .cell c
  | .rel c => .cell c
def Kind.head (B : Basin) : Kind → Pl
  | .src c => .cell c
  | .sto c => .cell (c.1, c.2 + 1)
  | .rel c => match B.letTo c with
    | some h => .cell h
    | none => .src
def Kind.most (B : Basin) : Kind → Option Int
  | .src c => some (B.supply c)
  | .sto c => some (B.at c.1).room
  | .rel c => (B.at c.1).reach
def arcOf (B : Basin) (F : Kind → Int) (X : Kind → Bool) (k : Kind) : ArcV := ⟨k.tail, k.head B, k.most B, F k, X k⟩
def stoCells (B : Basin) (cs : List Cell) : List Cell := cs.filter fun c => decide (c.2 + 1 < B.months)
def relCells (B : Basin) (cs : List Cell) : List Cell := cs.filter fun c => decide (B.letTo c ≠ none)
theorem kinds_cell {B : Basin} {c : Cell} {k : Kind} (h : k ∈ kindsOf B c) : k.cell = c := by
  unfold kindsOf at h
  rcases List.mem_cons.mp h with e | e
  · rw [e]; rfl
  · rcases List.mem_append.mp e with e | e
    · split at e
      · rw [List.mem_singleton.mp e]; rfl
      · cases e
    · split at e
      · rw [List.mem_singleton.mp e]; rfl
      · cases e
theorem mem_kinds {B : Basin} {cs : List Cell} {k : Kind} : k ∈ kinds B cs ↔ k.cell ∈ cs ∧ k ∈ kindsOf B k.cell := by
  unfold kinds
  rw [List.mem_flatten]
  constructor
  · rintro ⟨l, hl, hk⟩
    obtain ⟨c, hc, rfl⟩ := List.mem_map.mp hl
    have := kinds_cell hk
    rw [this]; exact ⟨hc, hk⟩
  · rintro ⟨h1, h2⟩
    exact ⟨_, List.mem_map.mpr ⟨_, h1, rfl⟩, h2⟩
theorem kindsOf_nodup (B : Basin) (c : Cell) : (kindsOf B c).Nodup := by
  unfold kindsOf
  split <;> split <;> simp
theorem kinds_nodup {B : Basin} : ∀ {cs : List Cell}, cs.Nodup → (kinds B cs).Nodup
  | [], _ => List.nodup_nil
  | c :: cs, h => by
    have n := List.nodup_cons.mp h
    unfold kinds
    rw [List.map_cons, List.flatten_cons]
    refine List.nodup_append.mpr ⟨kindsOf_nodup B c, kinds_nodup n.2, fun a ha b hb e => ?_⟩
    have h1 := kinds_cell ha
    have h2 := (mem_kinds.mp hb).1
    rw [← e, h1] at h2
    exact n.1 h2
theorem kinds_len (B : Basin) : ∀ cs : List Cell, (kinds B cs).length ≤ 3 * cs.length
  | [] => Nat.le_refl _
  | c :: cs => by
    have h1 := kinds_len B cs
    have h2 : (kindsOf B c).length ≤ 3 := by
      unfold kindsOf
      split <;> split <;> simp
    unfold kinds at h1 ⊢
    rw [List.map_cons, List.flatten_cons, List.length_append, List.length_cons]; omega
theorem kinds_snoc (B : Basin) (cs : List Cell) (c : Cell) : kinds B (cs ++ [c]) = kinds B cs ++ kindsOf B c := by
  unfold kinds
  rw [List.map_append, List.flatten_append]; simp
theorem cells_nodup (B : Basin) : B.cells.Nodup := by
  unfold Basin.cells
  have key : ∀ n, ((List.range n).map fun m => (List.range B.sites.length).map fun k => (k, m)).flatten.Nodup := fun n => by
    induction n with
    | zero => exact List.nodup_nil
    | succ n ih =>
      rw [List.range_succ, List.map_append, List.flatten_append]
      refine List.nodup_append.mpr ⟨ih, ?_, ?_⟩
      · simp only [List.map_cons, List.map_nil, List.flatten_cons, List.flatten_nil, List.append_nil]
        refine List.Pairwise.map _ (fun a b h => ?_) (List.nodup_range (n := B.sites.length))
        intro e; cases e; exact h rfl
      · intro a ha b hb e
        simp only [List.map_cons, List.map_nil, List.flatten_cons, List.flatten_nil, List.append_nil, List.mem_map, List.mem_range, List.mem_flatten] at ha hb
        obtain ⟨l, ⟨m, hm, rfl⟩, hl⟩ := ha
        obtain ⟨k, hk, rfl⟩ := List.mem_map.mp hl
        obtain ⟨k2, hk2, rfl⟩ := hb
        cases e; omega
  exact key _
theorem put_new {κ α : Type} [DecidableEq κ] {m : List (κ × α)} {k : κ} {y : α} (h : k ∉ m.map (·.1)) : put m k y = m ++ [(k, y)] := by
  unfold put
  rw [if_neg]
  rw [List.any_eq_true]
  rintro ⟨p, h1, h2⟩
  exact h (List.mem_map.mpr ⟨p, h1, of_decide_eq_true h2⟩)
def tblL (A : Cell → Addr) (cs : List Cell) : List (List Key × D) := cs.map fun c => (cellK c, .raw (.ref (A c)))
theorem tblL_keys {A : Cell → Addr} {cs : List Cell} {c : Cell} : cellK c ∈ (tblL A cs).map (·.1) ↔ c ∈ cs := by
  unfold tblL
  rw [List.map_map, List.mem_map]
  constructor
  · rintro ⟨d, h1, h2⟩; rw [← cellK_inj h2]; exact h1
  · intro h; exact ⟨c, h, rfl⟩
/-- all of a network -/
structure NetK (K : PySem.W.Frag) (μ : Mu) (n : NetA) (B : Basin) (cs : List Cell) (A : Kind → Addr) (F : Kind → Int) (X : Kind → Bool) : Prop where
  S : NetSt K μ n B ((kinds B cs).map A) ((kinds B cs).map (arcOf B F X))
  st : μ n.st = some (.dct (tblL (fun c => A (.sto c)) (stoCells B cs)))
  re : μ n.re = some (.dct (tblL (fun c => A (.rel c)) (relCells B cs)))
def updA (A : Kind → Addr) (k : Kind) (a : Addr) : Kind → Addr := fun j => if j = k then a else A j
theorem updA_map {A : Kind → Addr} {k : Kind} {a : Addr} {ks : List Kind} (h : k ∉ ks) : ks.map (updA A k a) = ks.map A :=
  List.map_congr_left fun j hj => if_neg fun e : j = k => h (e ▸ hj)
section
variable {P : Program} {w : World} {K : PySem.W.Frag} {mg : Str → Option Value} {base : Heap}
/-- under way -/
structure NetL (K : PySem.W.Frag) (μ : Mu) (n : NetA) (B : Basin) (ks : List Kind) (A : Kind → Addr) (c1 c2 : List Cell) : Prop where
  S : NetSt K μ n B (ks.map A) (ks.map (arcOf B (fun _ => 0) (fun _ => false)))
  st : μ n.st = some (.dct (tblL (fun c => A (.sto c)) c1))
  re : μ n.re = some (.dct (tblL (fun c => A (.rel c)) c2))
  k1 : ∀ c ∈ c1, Kind.sto c ∈ ks
  k2 : ∀ c ∈ c2, Kind.rel c ∈ ks
def Frsh (μ : Mu) (ks : List Kind) (A : Kind → Addr) : Prop := ∀ k ∈ ks, μ (A k) = none
theorem Frsh.add {μ : Mu} {ks : List Kind} {A : Kind → Addr} {k : Kind} {a : Addr} (h : Frsh μ ks A) (ha : μ a = none) : Frsh μ (ks ++ [k]) (updA A k a) := fun j hj => by
  unfold updA
  by_cases e : j = k
  · rw [if_pos e]; exact ha
  · rw [if_neg e]
    rcases List.mem_append.mp hj with z | z
    · exact h j z
    · exact absurd (List.mem_singleton.mp z) e
theorem tblL_upd {A A' : Cell → Addr} {cs : List Cell} (h : ∀ c ∈ cs, A' c = A c) : tblL A' cs = tblL A cs := List.map_congr_left fun c hc => by rw [h c hc]
theorem we_add {ρ : List (Option D)} {μ : Mu} {n : NetA} {B : Basin} {ks : List Kind} {A : Kind → Addr} {c1 c2 : List Cell} {t : TA} {ta : TE} {Q : D → Mu → Prop} (N : NetL K μ n B ks A c1 c2) (k : Kind) (hk : k ∉ ks) (hz : ks.length ≤ 900) (hx : Ev K ta ρ μ (.raw (.ref n.x))) (h : EvA K t ρ μ [placeD k.tail, placeD (k.head B), optD .int (k.most B)])
    (p : ∀ a μ', μ a = none → (∀ b, μ b ≠ none → b ≠ n.ls → μ' b = μ b) → NetL K μ' n B (ks ++ [k]) (updA A k a) c1 c2 → Q (.raw (.ref a)) μ') : WE K (tMeth (He.ga K "Network") "add" (lift K (S_Network_add K)) [] E0 ta t) ρ μ Q := by
  have nd := N.S.nd
  simp only [List.nodup_cons, List.mem_cons, not_or] at nd
  refine we_meth (hx.go ⟨n.x, _, rfl, N.S.ins, rfl, h.go ⟨n, B, _, _, k.tail, k.head B, k.most B, rfl, N.S, by rw [List.length_map]; omega, by rw [N.st]; simp, by rw [N.re]; simp, fun a μ' ha fr S' => ?_⟩⟩) mono_Network_add
  have nst : n.st ≠ a := fun e => by rw [← e, N.st] at ha; cases ha
  have nre : n.re ≠ a := fun e => by rw [← e, N.re] at ha; cases ha
  refine p a μ' ha (fun b hb hl => fr b (fun e => hb (by rw [e]; exact ha)) hl) ⟨?_, ?_, ?_, fun c hc => List.mem_append_left _ (N.k1 c hc), fun c hc => List.mem_append_left _ (N.k2 c hc)⟩
  · have e1 : (ks ++ [k]).map (updA A k a) = ks.map A ++ [a] := by
      rw [List.map_append, updA_map hk]
      simp [updA]
    rw [e1, List.map_append]
    exact S'
  · rw [fr n.st nst nd.2.1.2.1, N.st]
    exact congrArg (fun m => some (MO.dct m)) (tblL_upd (A := fun c => A (.sto c)) (A' := fun c => updA A k a (.sto c)) fun c hc => if_neg fun e : Kind.sto c = k => hk (e ▸ N.k1 c hc)).symm
  · rw [fr n.re nre nd.2.2.1.1, N.re]
    exact congrArg (fun m => some (MO.dct m)) (tblL_upd (A := fun c => A (.rel c)) (A' := fun c => updA A k a (.rel c)) fun c hc => if_neg fun e : Kind.rel c = k => hk (e ▸ N.k2 c hc)).symm
theorem NetSt.frD {μ μ' : Mu} {n : NetA} {B : Basin} {as : List Addr} {vs : List ArcV} (S : NetSt K μ n B as vs) (h : ∀ b, b ≠ n.st → b ≠ n.re → μ' b = μ b) : NetSt K μ' n B as vs := by
  have nd := S.nd
  simp only [List.nodup_cons, List.mem_cons, not_or] at nd
  obtain ⟨⟨x1, x2, _, _⟩, ⟨_, s2, s3⟩, ⟨r1, r2⟩, _⟩ := nd
  refine ⟨(h _ x1 x2).trans S.ins, (h _ (Ne.symm s2) (Ne.symm r1)).trans S.ls, S.len, fun i a v ha hv => ?_, S.nd⟩
  have am := List.mem_of_getElem? ha
  exact (h a (fun e => s3 (e ▸ am)) (fun e => r2 (e ▸ am))).trans (S.at_ i a v ha hv)
theorem tblL_put {A : Cell → Addr} {cs : List Cell} {c : Cell} (h : c ∉ cs) : put (tblL A cs) (cellK c) (.raw (.ref (A c))) = tblL A (cs ++ [c]) := by
  rw [put_new (fun z => h (tblL_keys.mp z))]
  unfold tblL
  rw [List.map_append]; rfl
theorem sc_Network_init : FnScope ["self", "basin", "cell", "number", "month", "site"] ["self", "basin"] (defScope s_Network_init) := ⟨rfl, rfl, rfl, by decide +kernel, rfl, by decide +kernel, by decide +kernel⟩
-- Network___init__: 0 self, 1 basin, 2 cell, 3 number, 4 month, 5 site
def S_Network_init (K : PySem.W.Frag) : Spec := fun ds μ Q => ∃ (x : Addr) (B : Basin), ds = [.raw (.ref x), basinD B] ∧ B.Ok ∧ μ x = some (.ins (He.ga K "Network") []) ∧
  ∀ (n : NetA) (A : Kind → Addr) (μ' : Mu), n.x = x → (∀ b, b ≠ x → μ b ≠ none → μ' b = μ b) → Frsh μ (kinds B B.cells) A → NetK K μ' n B B.cells A (fun _ => 0) (fun _ => false) → Q .non μ'
theorem len_Network_init : (S_Network_init K).len 2 := fun ds μ Q h => by obtain ⟨_, _, rfl, _⟩ := h; rfl
theorem mono_Network_init : Mono (S_Network_init K) := fun ds μ P P' f h => by obtain ⟨x, B, e, h1, h2, q⟩ := h; exact ⟨x, B, e, h1, h2, fun n A μ' a b d c => f _ _ (q n A μ' a b d c)⟩
theorem m_Network (Fx : Fx K mg) : Mak P w K mg base 4 "Network" (He.ga K "Network") (S_Network_init K) := by
  have hlen : (S_Network_init K).len 2 := len_Network_init
  obtain ⟨fd, F⟩ := Fx.c.def_ 25 (d := d_Network_init) rfl
  refine ⟨_, fd, ["self", "basin"], Fx.mkr 74, fnok F sc_Network_init hlen (fun cdv A outer s H E hr => ?_), Fx.glo 72, FunD.bindsN F fun _ _ _ _ _ _ us hl => match us, hl with | [_, _], _ => rfl⟩
  have hu := hu_of hr
  have nd := sc_Network_init.nd
  refine ⟨_, (pss_cons (ps_fld (pv 0) (pv 1) rfl)
      (pss_cons (ps_fld (pv 0) pe_dnewT rfl)
      (pss_cons (ps_fld (pv 0) pe_dnewT rfl)
      (pss_cons (ps_fld (pv 0) (pe_lst pa_nil) rfl)
      (pss_one (ps_for PassesOwn.never rfl (k_list_ (K := K) (k_cal (c_cells Fx) hr (by decide) rfl (pa_cons (pv 1) pa_nil))) (pg_name (i := 2) nd rfl (by first | exact Or.inl rfl | exact Or.inr rfl)) (pss_cons (ps_asg (pv 2) (pg_tup rfl (pgs_cons (pg_name (i := 3) nd rfl (by first | exact Or.inl rfl | exact Or.inr rfl)) (pgs_cons (pg_name (i := 4) nd rfl (by first | exact Or.inl rfl | exact Or.inr rfl)) pgs_nil))))
      (pss_cons (ps_set (i := 5) nd rfl (by first | exact Or.inl rfl | exact Or.inr rfl) (pe_ix (k_ix (K := K)) (pe_ix (k_ix (K := K)) (pv 1) pe_int (fun _ _ => rfl)) (pv 3) (fun _ _ => rfl)))
      (pss_cons (ps_expr (k_met (c_Network_add Fx) hr (by decide) (pv 0) (pa_cons (k_gS (Fx.str 48) rfl) (pa_cons (pv 2) (pa_cons (k_cal (c_cell_supply Fx) hr (by decide) rfl (pa_cons (pv 1) (pa_cons (pv 2) pa_nil))) pa_nil)))))
      (pss_cons (ps_if (pt_cmpR op_lt (pe_op op_add (pv 4) pe_int) (pe_ix (k_ix (K := K)) (pv 1) pe_int (fun _ _ => rfl)) (nomark _)) (pss_one (ps_dput hu (k_fld (K := K) (pv 0) rfl) (pv 2) (k_met (c_Network_add Fx) hr (by decide) (pv 0) (pa_cons (pv 2) (pa_cons (pe_tup (pa_cons (pv 3) (pa_cons (pe_op op_add (pv 4) pe_int) pa_nil))) (pa_cons (pe_ix (k_ix (K := K)) (pv 5) (k_gI (Fx.int 45) rfl) (fun _ _ => rfl)) pa_nil)))) rfl)) pss_nil)
      (pss_one (ps_if (pt_cmp (pc_notN (k_cal (c_let_to Fx) hr (by decide) rfl (pa_cons (pv 1) (pa_cons (pv 2) pa_nil))))) (pss_one (ps_dput hu (k_fld (K := K) (pv 0) rfl) (pv 2) (k_met (c_Network_add Fx) hr (by decide) (pv 0) (pa_cons (pv 2) (pa_cons (k_cal (c_let_to Fx) hr (by decide) rfl (pa_cons (pv 1) (pa_cons (pv 2) pa_nil))) (pa_cons (pe_ix (k_ix (K := K)) (pv 5) (k_gI (Fx.int 44) rfl) (fun _ _ => rfl)) pa_nil)))) rfl)) pss_nil)))))))))))), fun ds μ Pq hS => ?_⟩
  obtain ⟨x, B, rfl, ok, hx, q⟩ := hS
  have cl := (Fx.cls 73)
  refine q_fld (V' 1) (V' 0) hx cl (Fx.noat 75) ?_
  refine q_fldD (fun _ => V' 0) Mu.upd_same cl (Fx.noat 76) fun st hst nst => ?_
  refine q_fldD (fun _ => V' 0) Mu.upd_same cl (Fx.noat 77) fun re hre nre => ?_
  refine pw_seq (pw_fld (we_lstN (wa_nil ⟨sz_of (by decide), fun ls hls => ?_⟩)))
  have nls : ls ≠ x := fun e => by rw [e, Mu.upd_same] at hls; cases hls
  refine (V' 0).go ⟨x, _, _, rfl, (Mu.upd_ne (Ne.symm nls)).trans Mu.upd_same, cl, (Fx.noat 78), of_decide_eq_true rfl, ?_⟩
  rw [Mu.upd_ne nst] at hst
  rw [Mu.upd_ne nre] at hre
  rw [Mu.upd_ne nls] at hls
  have sr : re ≠ st := fun e => by rw [e, Mu.upd_same] at hre; cases hre
  rw [Mu.upd_ne sr, Mu.upd_ne nre] at hre
  have lr : ls ≠ re := fun e => by rw [e, Mu.upd_same] at hls; cases hls
  rw [Mu.upd_ne lr, Mu.upd_ne nls] at hls
  have lst : ls ≠ st := fun e => by rw [e, Mu.upd_same] at hls; cases hls
  rw [Mu.upd_ne lst, Mu.upd_ne nls] at hls
  have h6 := ok.six
  refine pw_for (fun i ρ μ' => (∀ b, b ≠ x → μ b ≠ none → μ' b = μ b) ∧ (∃ A, Frsh μ (kinds B (B.cells.take i)) A ∧ NetK K μ' ⟨x, st, re, ls⟩ B (B.cells.take i) A (fun _ => 0) (fun _ => false)) ∧ ∃ a b c d, ρ = [some (.raw (.ref x)), some (basinD B), a, b, c, d]) ?_
  refine wi_lstE (ev_call (ea_cons (V' 1) ea_nil) ⟨B, rfl, ok, rfl, rfl⟩ mono_cells) ⟨⟨?_, ⟨fun _ => x, (fun k hk => by cases hk), ⟨⟨?_, ?_, rfl, fun i a v h => (by cases h), ?_⟩, ?_, ?_⟩⟩, _, _, _, _, rfl⟩, fun _ _ _ _ => trivial, ?_, ?_⟩
  · intro b hb hn
    have h1 : b ≠ st := fun e => hn (by rw [e]; exact hst)
    have h2 : b ≠ re := fun e => hn (by rw [e]; exact hre)
    have h3 : b ≠ ls := fun e => hn (by rw [e]; exact hls)
    rw [Mu.upd_ne hb, Mu.upd_ne h3, Mu.upd_ne hb, Mu.upd_ne h2, Mu.upd_ne hb, Mu.upd_ne h1, Mu.upd_ne hb]
  · exact Mu.upd_same
  · show _ = some (MO.lst [])
    rw [Mu.upd_ne nls, Mu.upd_same]
  · simp [kinds, Ne.symm nst, Ne.symm nre, Ne.symm nls, Ne.symm sr, Ne.symm lr, Ne.symm lst]
  · show _ = some (MO.dct [])
    rw [Mu.upd_ne nst, Mu.upd_ne (Ne.symm lst), Mu.upd_ne nst, Mu.upd_ne (Ne.symm sr), Mu.upd_ne nst, Mu.upd_same]
  · show _ = some (MO.dct [])
    rw [Mu.upd_ne nre, Mu.upd_ne (Ne.symm lr), Mu.upd_ne nre, Mu.upd_same]
  · rintro i d ρ μ3 hd ⟨fr, ⟨A, Fr, N⟩, a, b, c, d2, rfl⟩
    rw [List.getElem?_map] at hd
    cases hc : B.cells[i]? with
    | none => rw [hc] at hd; cases hd
    | some ce =>
      rw [hc] at hd; cases hd
      have hin : B.In ce := mem_cells.mp (List.mem_of_getElem? hc)
      have htk : B.cells.take (i + 1) = B.cells.take i ++ [ce] := by rw [List.take_succ, hc]; rfl
      have hnew : ce ∉ B.cells.take i := fun z => by
        have nd := cells_nodup B
        obtain ⟨j, hj⟩ := List.mem_iff_getElem?.mp z
        have hji : j < i := by
          have := (List.getElem?_eq_some_iff.mp hj).1
          rw [List.length_take] at this; omega
        rw [List.getElem?_take_of_lt hji] at hj
        have := (List.getElem?_inj (List.getElem?_eq_some_iff.mp hj).1 nd).mp (hj.trans hc.symm)
        omega
      have N0 : NetL K μ3 ⟨x, st, re, ls⟩ B (kinds B (B.cells.take i)) A (stoCells B (B.cells.take i)) (relCells B (B.cells.take i)) := ⟨N.S, N.st, N.re, fun c hc => by
        obtain ⟨h1, h2⟩ := List.mem_filter.mp hc
        refine mem_kinds.mpr ⟨h1, ?_⟩
        unfold kindsOf Kind.cell
        rw [if_pos (of_decide_eq_true h2)]; simp, fun c hc => by
        obtain ⟨h1, h2⟩ := List.mem_filter.mp hc
        refine mem_kinds.mpr ⟨h1, ?_⟩
        unfold kindsOf Kind.cell
        rw [if_pos (c := B.letTo c ≠ none) (of_decide_eq_true h2)]; simp⟩
      have hkl : (kinds B (B.cells.take i)).length ≤ 18 := by
        have h1 := kinds_len B (B.cells.take i)
        rw [List.length_take, cells_len] at h1
        omega
      have hkn : ∀ k ∈ kinds B (B.cells.take i), k.cell ≠ ce := fun k hk e => hnew (e ▸ (mem_kinds.mp hk).1)
      rw [htk]
      have e1 : stoCells B (B.cells.take i ++ [ce]) = stoCells B (B.cells.take i) ++ if ce.2 + 1 < B.months then [ce] else [] := by
        unfold stoCells
        rw [List.filter_append]
        congr 1
        by_cases h : ce.2 + 1 < B.months
        · rw [if_pos h]; simp [h]
        · rw [if_neg h]; simp [h]
      have e2 : relCells B (B.cells.take i ++ [ce]) = relCells B (B.cells.take i) ++ if B.letTo ce ≠ none then [ce] else [] := by
        unfold relCells
        rw [List.filter_append]
        congr 1
        by_cases h : B.letTo ce ≠ none
        · rw [if_pos h, List.filter_cons, if_pos (decide_eq_true h)]; rfl
        · rw [if_neg h, List.filter_cons, if_neg (by simpa using h)]; rfl
      have nst : ce ∉ stoCells B (B.cells.take i) := fun z => hnew (List.mem_filter.mp z).1
      have nre : ce ∉ relCells B (B.cells.take i) := fun z => hnew (List.mem_filter.mp z).1
      have fin : ∀ μ' A', Frsh μ (kinds B (B.cells.take i) ++ kindsOf B ce) A' → NetL K μ' ⟨x, st, re, ls⟩ B (kinds B (B.cells.take i) ++ kindsOf B ce) A' (stoCells B (B.cells.take i) ++ if ce.2 + 1 < B.months then [ce] else []) (relCells B (B.cells.take i) ++ if B.letTo ce ≠ none then [ce] else []) → Frsh μ (kinds B (B.cells.take i ++ [ce])) A' ∧ NetK K μ' ⟨x, st, re, ls⟩ B (B.cells.take i ++ [ce]) A' (fun _ => 0) (fun _ => false) := fun μ' A' Fr N => ⟨by rw [kinds_snoc]; exact Fr, by rw [kinds_snoc]; exact N.S, by rw [e1]; exact N.st, by rw [e2]; exact N.re⟩
      have hc1 : (stoCells B (B.cells.take i)).length ≤ 6 := by
        have h1 := List.length_filter_le (fun c : Cell => decide (c.2 + 1 < B.months)) (B.cells.take i)
        rw [List.length_take, cells_len] at h1
        unfold stoCells; omega
      have hc2 : (relCells B (B.cells.take i)).length ≤ 6 := by
        have h1 := List.length_filter_le (fun c : Cell => decide (B.letTo c ≠ none)) (B.cells.take i)
        rw [List.length_take, cells_len] at h1
        unfold relCells; omega
      generalize kinds B (B.cells.take i) = ks at N0 hkl hkn fin Fr
      generalize stoCells B (B.cells.take i) = c1 at N0 nst fin hc1
      generalize relCells B (B.cells.take i) = c2 at N0 nre fin hc2
      have ndN := N0.S.nd
      simp only [List.nodup_cons, List.mem_cons, not_or] at ndN
      obtain ⟨⟨x1, x2, x3, _⟩, ⟨s1, s2, _⟩, ⟨r1, _⟩, _⟩ := ndN
      have old : ∀ {μ1 : Mu} {a : Addr}, (∀ b, b ≠ x → μ b ≠ none → μ1 b = μ b) → μ1 a = none → a ≠ x → μ a = none := fun h h2 h3 => by
        rename_i μ1 a
        cases e : μ a with
        | none => rfl
        | some o => rw [h a h3 (by rw [e]; simp), e] at h2; cases h2
      have live : ∀ {μ1 μ2 : Mu}, (∀ b, b ≠ x → μ b ≠ none → μ1 b = μ b) → (∀ b, b ≠ st → b ≠ re → b ≠ ls → μ1 b ≠ none → μ2 b = μ1 b) → ∀ b, b ≠ x → μ b ≠ none → μ2 b = μ b := fun h g b hb hn => by
        have h1 : b ≠ st := fun e => hn (by rw [e]; exact hst)
        have h2 : b ≠ re := fun e => hn (by rw [e]; exact hre)
        have h3 : b ≠ ls := fun e => hn (by rw [e]; exact hls)
        have z := h b hb hn
        rw [g b h1 h2 h3 (by rw [z]; exact hn), z]
      refine wg_name (q_two (V' 2) rfl (q_set (ev_ixN (ev_ix (V' 1) ev_int) (V' 3) (siteAt hin.1)) ?_))
      have hk0 : Kind.src ce ∉ ks := fun z => hkn _ z rfl
      have es : Ev K (tC (.str "source")) [some (.raw (.ref x)), some (basinD B), some (cellD ce), some (.int (ce.1 : Int)), some (.int (ce.2 : Int)), some (siteD ce.1 (B.at ce.1))] μ3 (placeD (Kind.src ce).tail) := ev_str (i := "source")
      have e6 : Ev K (tCall (lift K S_cell_supply) [] E0 (tCons (tVar 1) (tCons (tVar 2) tNil))) [some (.raw (.ref x)), some (basinD B), some (cellD ce), some (.int (ce.1 : Int)), some (.int (ce.2 : Int)), some (siteD ce.1 (B.at ce.1))] μ3 (optD .int ((Kind.src ce).most B)) := ev_call (ea_cons (V' 1) (ea_cons (V' 2) ea_nil)) ⟨B, ce, rfl, ok, hin, rfl, rfl⟩ mono_cell_supply
      refine pw_seq (pw_drop (we_add N0 (.src ce) hk0 (by omega) (V' 0) (ea_cons es (ea_cons (V' 2) (ea_cons e6 ea_nil))) fun a0 μ4 ha0 fr4 N1 => ?_))
      have Fr1 : Frsh μ (ks ++ [.src ce]) (updA A (.src ce) a0) := Fr.add (old fr ha0 (fun e => by rw [e, N0.S.ins] at ha0; cases ha0))
      have live4 := live fr (fun b _ _ h3 hn => fr4 b hn h3)
      refine pw_seq (PW.imp (Φ := fun o => ∃ μ5 A5, o = .nx [some (.raw (.ref x)), some (basinD B), some (cellD ce), some (.int (ce.1 : Int)), some (.int (ce.2 : Int)), some (siteD ce.1 (B.at ce.1))] μ5 ∧ (∀ b, b ≠ x → μ b ≠ none → μ5 b = μ b) ∧ Frsh μ (ks ++ [.src ce] ++ if ce.2 + 1 < B.months then [.sto ce] else []) A5 ∧ NetL K μ5 ⟨x, st, re, ls⟩ B (ks ++ [.src ce] ++ if ce.2 + 1 < B.months then [.sto ce] else []) A5 (c1 ++ if ce.2 + 1 < B.months then [ce] else []) c2) ?_ ?_)
      · by_cases h1 : ce.2 + 1 < B.months
        · rw [if_pos h1, if_pos h1]
          refine pw_ifE (b := true) ?_ (fun _ => ?_) (fun z => by cases z)
          · have e : true = decide ((ce.2 : Int) + 1 < (B.months : Int)) := (decide_eq_true (by omega)).symm
            rw [e]
            exact et_test (ev_lt (ev_add (V' 4) ev_int) (ev_ix (V' 1) ev_int))
          · have e7 : Ev K (tTup (tCons (tVar 3) (tCons (tOp (rI0 fun i j => .int (i + j)) (tVar 4) (tC (.int 1))) tNil))) [some (.raw (.ref x)), some (basinD B), some (cellD ce), some (.int (ce.1 : Int)), some (.int (ce.2 : Int)), some (siteD ce.1 (B.at ce.1))] μ4 (.tup [.int (ce.1 : Int), .int ((ce.2 : Int) + 1)]) := ev_tup (ea_cons (V' 3) (ea_cons (ev_add (V' 4) ev_int) ea_nil))
            have e8 : Ev K (tOp (rIx K) (tVar 5) (tC (.int 4))) [some (.raw (.ref x)), some (basinD B), some (cellD ce), some (.int (ce.1 : Int)), some (.int (ce.2 : Int)), some (siteD ce.1 (B.at ce.1))] μ4 (optD .int ((Kind.sto ce).most B)) := ev_ix (V' (d := siteD ce.1 (B.at ce.1)) 5) ev_int
            have hk1 : Kind.sto ce ∉ ks ++ [.src ce] := fun z => by
              rcases List.mem_append.mp z with z | z
              · exact hkn _ z rfl
              · rw [List.mem_singleton] at z; cases z
            refine pw_dput (we_add N1 (.sto ce) hk1 (by rw [List.length_append]; show _ + 1 ≤ _; omega) (V' 0) (ea_cons (V' (d := placeD (.cell ce)) 2) (ea_cons (d := placeD ((Kind.sto ce).head B)) e7 (ea_cons e8 ea_nil))) fun a1 μ5 ha1 fr5 N2 => ?_)
            refine (ev_fld (V' 0) N2.S.ins cl (Fx.noat 76) rfl).go ((V' 2).go ⟨st, _, cellK ce, rfl, N2.st, rfl, ?_, _, updA (updA A (.src ce) a0) (.sto ce) a1, rfl, live live4 (fun b h1 _ h3 hn => by rw [Mu.upd_ne h1]; exact fr5 b hn h3), Fr1.add (old live4 ha1 (fun e => by rw [e, N1.S.ins] at ha1; cases ha1)), N2.S.frD (fun b h1 _ => Mu.upd_ne h1), ?_, ?_, ?_, ?_⟩)
            · refine sz_lt ?_
              unfold tblL
              rw [List.length_map]
              omega
            · show (μ5.upd st _) st = _
              have ep := tblL_put (A := fun c => updA (updA A (.src ce) a0) (.sto ce) a1 (.sto c)) nst
              have ea : updA (updA A (.src ce) a0) (.sto ce) a1 (.sto ce) = a1 := if_pos rfl
              simp only [ea] at ep
              rw [Mu.upd_same, ep]
            · exact (Mu.upd_ne (Ne.symm s1)).trans N2.re
            · intro c hc
              rcases List.mem_append.mp hc with z | z
              · exact N2.k1 c z
              · rw [List.mem_singleton] at z; subst z; simp
            · exact N2.k2
        · rw [if_neg h1, if_neg h1, List.append_nil, List.append_nil]
          refine pw_ifE (b := false) ?_ (fun z => by cases z) (fun _ => pw_next ⟨μ4, _, rfl, live4, Fr1, N1⟩)
          have e : false = decide ((ce.2 : Int) + 1 < (B.months : Int)) := (decide_eq_false (by omega)).symm
          rw [e]
          exact et_test (ev_lt (ev_add (V' 4) ev_int) (ev_ix (V' 1) ev_int))
      · rintro o ⟨μ5, A5, rfl, live5, Fr2, N2⟩
        show PW K _ _ _ _
        have ekk : ks ++ kindsOf B ce = (ks ++ [.src ce] ++ if ce.2 + 1 < B.months then [.sto ce] else []) ++ if B.letTo ce ≠ none then [.rel ce] else [] := by
          unfold kindsOf
          simp
        rw [ekk] at fin
        have hkr : Kind.rel ce ∉ ks ++ [.src ce] ++ if ce.2 + 1 < B.months then [Kind.sto ce] else [] := fun z => by
          rcases List.mem_append.mp z with z | z
          · rcases List.mem_append.mp z with z | z
            · exact hkn _ z rfl
            · rw [List.mem_singleton] at z; cases z
          · split at z
            · rw [List.mem_singleton] at z; cases z
            · cases z
        have hk2l : (ks ++ [Kind.src ce] ++ if ce.2 + 1 < B.months then [Kind.sto ce] else []).length ≤ 20 := by
          rw [List.length_append, List.length_append]
          split <;> simp only [List.length_cons, List.length_nil] <;> omega
        generalize (ks ++ [Kind.src ce] ++ if ce.2 + 1 < B.months then [Kind.sto ce] else []) = ks2 at fin hkr hk2l N2 Fr2
        generalize (c1 ++ if ce.2 + 1 < B.months then [ce] else []) = c3 at fin N2
        have elt : ∀ μ, Ev K (tCall (lift K S_let_to) [] E0 (tCons (tVar 1) (tCons (tVar 2) tNil))) [some (.raw (.ref x)), some (basinD B), some (cellD ce), some (.int (ce.1 : Int)), some (.int (ce.2 : Int)), some (siteD ce.1 (B.at ce.1))] μ (optD cellD (B.letTo ce)) := fun μ => ev_call (ea_cons (V' 1) (ea_cons (V' 2) ea_nil)) ⟨B, ce, rfl, ok, hin, rfl, rfl⟩ mono_let_to
        refine pw_ifE (et_B (ev_notN (elt _))) (fun h => ?_) (fun h => pw_next ?_)
        · rw [isN_opt (fun _ => rfl)] at h
          have h1 : B.letTo ce ≠ none := fun z => by rw [z] at h; cases h
          rw [if_pos h1, if_pos h1] at fin
          obtain ⟨hh, ehh⟩ := Option.ne_none_iff_exists'.mp h1
          have e7 : Ev K (tCall (lift K S_let_to) [] E0 (tCons (tVar 1) (tCons (tVar 2) tNil))) [some (.raw (.ref x)), some (basinD B), some (cellD ce), some (.int (ce.1 : Int)), some (.int (ce.2 : Int)), some (siteD ce.1 (B.at ce.1))] μ5 (placeD ((Kind.rel ce).head B)) := by
            have h2 := elt μ5
            have e9 : (Kind.rel ce).head B = .cell hh := by
              show (match B.letTo ce with
                | some h => Pl.cell h
                | none => Pl.src) = _
              rw [ehh]
            rw [e9]
            rw [ehh] at h2
            exact h2
          have e8 : Ev K (tOp (rIx K) (tVar 5) (tC (.int 3))) [some (.raw (.ref x)), some (basinD B), some (cellD ce), some (.int (ce.1 : Int)), some (.int (ce.2 : Int)), some (siteD ce.1 (B.at ce.1))] μ5 (optD .int ((Kind.rel ce).most B)) := ev_ix (V' (d := siteD ce.1 (B.at ce.1)) 5) ev_int
          refine pw_dput (we_add N2 (.rel ce) hkr (by omega) (V' 0) (ea_cons (V' (d := placeD (.cell ce)) 2) (ea_cons e7 (ea_cons e8 ea_nil))) fun a1 μ6 ha1 fr6 N3 => ?_)
          refine (ev_fld (V' 0) N3.S.ins cl (Fx.noat 77) rfl).go ((V' 2).go ⟨re, _, cellK ce, rfl, N3.re, rfl, ?_, live live5 (fun b _ h2 h3 hn => by rw [Mu.upd_ne h2]; exact fr6 b hn h3), ⟨updA A5 (.rel ce) a1, fin _ _ (Fr2.add (old live5 ha1 (fun e => by rw [e, N2.S.ins] at ha1; cases ha1))) ⟨N3.S.frD (fun b _ h2 => Mu.upd_ne h2), ?_, ?_, ?_, ?_⟩⟩, _, _, _, _, rfl⟩)
          · refine sz_lt ?_
            unfold tblL
            rw [List.length_map]
            omega
          · exact (Mu.upd_ne s1).trans N3.st
          · show (μ6.upd re _) re = _
            have ep := tblL_put (A := fun c => updA A5 (.rel ce) a1 (.rel c)) nre
            have ea : updA A5 (.rel ce) a1 (.rel ce) = a1 := if_pos rfl
            simp only [ea] at ep
            rw [Mu.upd_same, ep]
          · exact N3.k1
          · intro c hc
            rcases List.mem_append.mp hc with z | z
            · exact N3.k2 c z
            · rw [List.mem_singleton] at z; subst z; simp
        · rw [isN_opt (fun _ => rfl)] at h
          have h1 : ¬ B.letTo ce ≠ none := fun z => by
            cases hx : B.letTo ce with
            | none => exact z hx
            | some y => rw [hx] at h; cases h
          rw [if_neg h1, if_neg h1, List.append_nil, List.append_nil] at fin
          exact ⟨live5, ⟨A5, fin _ _ Fr2 N2⟩, _, _, _, _, rfl⟩
  · rintro ρ μ3 ⟨fr, ⟨A, Fr, N⟩, a, b, c, d2, rfl⟩
    rw [List.length_map, List.take_length] at N Fr
    exact ⟨_, Mu.sub.refl _, q _ A μ3 rfl fr Fr N⟩
end
end Hw
set_option Elab.async false
set_option linter.all false
set_option maxRecDepth 100000
set_option maxHeartbeats 4000000
/-! Led, lessen. -/
namespace Hw
open PySem PySem.Spec L2
abbrev ksOf (B : Basin) : List Kind := kinds B B.cells
def FlowOk (B : Basin) (F : Kind → Int) : Prop := ∀ k ∈ ksOf B, 0 ≤ F k ∧ ∀ m, k.most B = some m → F k ≤ m
def kNet (B : Basin) (F : Kind → Int) (p : Pl) (k : Kind) : Int := (if k.head B = p then F k else 0) - (if k.tail = p then F k else 0)
def netF (B : Basin) (F : Kind → Int) (p : Pl) : Int := ((ksOf B).map (kNet B F p)).sum
theorem netF_of {B : Basin} {F : Kind → Int} {X : Kind → Bool} {p : Pl} : netOf ((ksOf B).map (arcOf B F X)) p = netF B F p := by
  unfold netOf netF
  rw [List.map_map]; rfl
theorem allOk_of {B : Basin} {F : Kind → Int} {X : Kind → Bool} : AllOk ((ksOf B).map (arcOf B F X)) ↔ FlowOk B F := by
  constructor
  · intro h k hk
    exact h (arcOf B F X k) (List.mem_map.mpr ⟨k, hk, rfl⟩)
  · intro h v hv
    obtain ⟨k, hk, rfl⟩ := List.mem_map.mp hv
    exact h k hk
theorem ks_nodup (B : Basin) : (ksOf B).Nodup := kinds_nodup (cells_nodup B)
theorem ends_of {B : Basin} (ok : B.Ok) {F : Kind → Int} {X : Kind → Bool} : EndsIn B ((ksOf B).map (arcOf B F X)) := fun v hv => by
  obtain ⟨k, hk, rfl⟩ := List.mem_map.mp hv
  obtain ⟨h1, h2⟩ := mem_kinds.mp hk
  have hin : B.In k.cell := mem_cells.mp h1
  unfold kindsOf at h2
  show PlIn B k.tail ∧ PlIn B (k.head B)
  cases k with
  | src c => exact ⟨trivial, hin⟩
  | sto c =>
    refine ⟨hin, ?_⟩
    have h2 : Kind.sto c ∈ Kind.src c :: ((if c.2 + 1 < B.months then [Kind.sto c] else []) ++ (if B.letTo c ≠ none then [Kind.rel c] else [])) := h2
    have h3 : c.2 + 1 < B.months := Decidable.byContradiction fun hn => by
      rcases List.mem_cons.mp h2 with e | e
      · cases e
      · rcases List.mem_append.mp e with e | e
        · rw [if_neg hn] at e; cases e
        · by_cases h4 : B.letTo c ≠ none
          · rw [if_pos h4, List.mem_singleton] at e; cases e
          · rw [if_neg h4] at e; cases e
    exact ⟨hin.1, h3⟩
  | rel c =>
    refine ⟨hin, ?_⟩
    show PlIn B (match B.letTo c with
      | some h => .cell h
      | none => .src)
    cases hl : B.letTo c with
    | none => trivial
    | some h =>
      obtain ⟨e1, e2, e3⟩ := letTo_some.mp hl
      exact ⟨((ok.s hin.1).next _ e1).2, e3⟩
theorem same_kinds {B : Basin} {F : Kind → Int} {X : Kind → Bool} : ∀ {ks : List Kind} {vs' : List ArcV}, ks.Nodup → Same (ks.map (arcOf B F X)) vs' → ∃ F', vs' = ks.map (arcOf B F' X) ∧ ∀ k ∈ ks, X k = true → F' k = F k
  | [], vs', _, h => ⟨F, List.eq_nil_of_length_eq_zero (by simpa using h.len), fun k hk => by cases hk⟩
  | k :: ks, [], _, h => by have := h.len; simp at this
  | k :: ks, v :: vs', nd, h => by
    have n := List.nodup_cons.mp nd
    obtain ⟨F', e, hF⟩ := same_kinds (vs' := vs') n.2 ⟨by have := h.len; simpa using this, fun i x y hx hy => h.at_ (i + 1) x y (by simpa using hx) (by simpa using hy)⟩
    have h0 := h.at_ 0 _ v rfl rfl
    refine ⟨fun j => if j = k then v.flow else F' j, ?_, fun j hj hX => ?_⟩
    · rw [List.map_cons]
      congr 1
      · obtain ⟨t, hd, m, f, x⟩ := v
        show _ = arcOf B (fun j => if j = k then f else F' j) X k
        unfold arcOf
        dsimp only
        rw [if_pos rfl]
        obtain ⟨a1, a2, a3, a4, _⟩ := h0
        simp only [arcOf] at a1 a2 a3 a4
        rw [a1, a2, a3, a4]
      · rw [e]
        refine List.map_congr_left fun j hj => ?_
        unfold arcOf
        dsimp only
        rw [if_neg (fun z : j = k => n.1 (z ▸ hj))]
    · by_cases z : j = k
      · subst z
        exact (if_pos rfl).trans (h0.flow hX)
      · dsimp only
        rw [if_neg z]
        rcases List.mem_cons.mp hj with y | y
        · exact absurd y z
        · exact hF j y hX
theorem map_set {α : Type} {f : Kind → α} {y : α} : ∀ {ks : List Kind} {i : Nat} {k : Kind}, ks.Nodup → ks[i]? = some k → (ks.map f).set i y = ks.map fun j => if j = k then y else f j
  | [], _, _, _, h => by cases h
  | j :: ks, 0, k, nd, h => by
    cases h
    have n := List.nodup_cons.mp nd
    rw [List.map_cons, List.set_cons_zero, List.map_cons, if_pos rfl]
    congr 1
    exact List.map_congr_left fun x hx => (if_neg fun z : x = j => n.1 (z ▸ hx)).symm
  | j :: ks, i + 1, k, nd, h => by
    have n := List.nodup_cons.mp nd
    have h : ks[i]? = some k := by simpa using h
    rw [List.map_cons, List.set_cons_succ, List.map_cons, map_set n.2 h, if_neg (fun z : j = k => n.1 (z ▸ List.mem_of_getElem? h))]
section
variable {P : Program} {w : World} {K : PySem.W.Frag} {mg : Str → Option Value} {base : Heap}
abbrev Net (K : PySem.W.Frag) (μ : Mu) (n : NetA) (B : Basin) (A : Kind → Addr) (F : Kind → Int) (X : Kind → Bool) : Prop := NetK K μ n B B.cells A F X
theorem Net.len {μ : Mu} {n : NetA} {B : Basin} (ok : B.Ok) {A : Kind → Addr} : ((ksOf B).map A).length ≤ 18 := by
  rw [List.length_map]
  have h1 := kinds_len B B.cells
  rw [cells_len] at h1
  have h2 := ok.six
  show (kinds B B.cells).length ≤ 18
  omega
theorem we_push {ρ : List (Option D)} {μ : Mu} {n : NetA} {B : Basin} {A : Kind → Addr} {F : Kind → Int} {X : Kind → Bool} {t : TA} {ta : TE} {Q : D → Mu → Prop} {b e : Pl} {most : Int} (ok : B.Ok) (N : Net K μ n B A F X) (hF : FlowOk B F) (hb : PlIn B b) (h0 : 0 ≤ most) (hx : Ev K ta ρ μ (.raw (.ref n.x))) (h : EvA K t ρ μ [placeD b, placeD e, .int most])
    (p : ∀ (t : Int) (F' : Kind → Int) (μ' : Mu), 0 ≤ t → t ≤ most → (∀ k ∈ ksOf B, X k = true → F' k = F k) → FlowOk B F' → (∀ p, netF B F' p = netF B F p + (if p = e then t else 0) - (if p = b then t else 0)) → (∀ c, c ∉ (ksOf B).map A → μ' c = μ c) → Net K μ' n B A F' X → Q (.int t) μ') : WE K (tMeth (He.ga K "Network") "push" (lift K (S_Network_push K)) [] E0 ta t) ρ μ Q := by
  refine we_meth (hx.go ⟨n.x, _, rfl, N.S.ins, rfl, h.go ⟨n, B, _, _, b, e, most, rfl, ok, N.S, Nat.le_trans (Net.len (μ := μ) (n := n) ok) (by omega), ends_of ok, allOk_of.mpr hF, hb, h0, fun t vs' μ' a1 a2 a3 a4 a5 a6 a7 => ?_⟩⟩) mono_Network_push
  obtain ⟨F', rfl, hX⟩ := same_kinds (ks_nodup B) a3
  have nd := N.S.nd
  simp only [List.nodup_cons, List.mem_cons, not_or] at nd
  refine p t F' μ' a1 a2 hX (allOk_of.mp a4) (fun q => by rw [← netF_of (X := X), a5 q, netF_of]) a6 ⟨a7, (a6 _ nd.2.1.2.2).trans N.st, (a6 _ nd.2.2.1.2).trans N.re⟩
theorem sc_led : FnScope ["basin", "rights", "many", "network", "found", "claim"] ["basin", "rights", "many"] (defScope s_led) := ⟨rfl, rfl, rfl, by decide +kernel, rfl, by decide +kernel, by decide +kernel⟩
-- led: 0 basin, 1 rights, 2 many, 3 network, 4 found, 5 claim
def dueAt (B : Basin) (R : List Right) (cs : List Claim) (am : List Int) (c : Cell) : Int := ((cs.zip am).map fun z => if claimCell B R z.1 = c then z.2 else 0).sum
def S_led (K : PySem.W.Frag) : Spec := fun ds μ Q => ∃ (B : Basin) (R : List Right), ds = [basinD B, rightsD R, .int ((claimsOf B R).length : Int)] ∧ B.Ok ∧ RightsOk B R ∧
  ∀ (n : NetA) (A : Kind → Addr) (F : Kind → Int) (am : List Int) (μ' : Mu), μ.sub μ' → am.length = (claimsOf B R).length → (∀ (i : Nat) c x, (claimsOf B R)[i]? = some c → am[i]? = some x → 0 ≤ x ∧ x ≤ claimSize B R c) → FlowOk B F → (∀ c, netF B F (.cell c) = dueAt B R (claimsOf B R) am c) → Net K μ' n B A F (fun _ => false) →
    (∀ b, μ b ≠ none → b ∉ (ksOf B).map A) → Q (.tup [.raw (.ref n.x), .lst (am.map .int)]) μ'
theorem len_led : (S_led K).len 3 := fun ds μ Q h => by obtain ⟨_, _, rfl, _⟩ := h; rfl
theorem mono_led : Mono (S_led K) := fun ds μ P P' f h => by obtain ⟨B, R, e, h1, h2, q⟩ := h; exact ⟨B, R, e, h1, h2, fun n A F am μ' a b c d e g h => f _ _ (q n A F am μ' a b c d e g h)⟩
theorem claimsOf_len {B : Basin} {R : List Right} (ok : B.Ok) (rok : RightsOk B R) : (claimsOf B R).length ≤ 15 := by
  unfold claimsOf
  rw [List.length_append, List.length_map, List.length_range, List.length_flatten, List.map_map]
  have h2 : ∀ n : Nat, ((List.range n).map (List.length ∘ fun r => (List.range B.months).map fun m => Claim.right r m)).sum = n * B.months := fun n => by
    induction n with
    | zero => simp
    | succ n ih => rw [List.range_succ, List.map_append, List.sum_append, ih, Nat.succ_mul]; simp
  rw [h2]
  have h3 : R.length * B.months ≤ 3 * 4 := Nat.mul_le_mul rok.1 ok.m4
  have h4 := ok.n3
  omega
theorem claims_ok {B : Basin} {R : List Right} {c : Claim} (h : c ∈ claimsOf B R) : claimOk B R c := by
  unfold claimsOf at h
  rcases List.mem_append.mp h with e | e
  · obtain ⟨l, hl, hc⟩ := List.mem_flatten.mp e
    obtain ⟨r, hr, rfl⟩ := List.mem_map.mp hl
    obtain ⟨m, hm, rfl⟩ := List.mem_map.mp hc
    exact ⟨List.mem_range.mp hr, List.mem_range.mp hm⟩
  · obtain ⟨s, hs, rfl⟩ := List.mem_map.mp e
    exact List.mem_range.mp hs
theorem size_nn {B : Basin} {R : List Right} (ok : B.Ok) (rok : RightsOk B R) {c : Claim} (h : claimOk B R c) : 0 ≤ claimSize B R c := by
  cases c with
  | right r m =>
    have hr := rok.at h.1
    show 0 ≤ ((rAt R r).demands[m]?).getD 0
    rw [List.getElem?_eq_getElem (by rw [hr.len]; exact h.2)]
    exact (hr.dem _ (List.getElem_mem _)).1
  | room s => exact (ok.s h).room0
theorem claimCell_src (B : Basin) (R : List Right) (c : Claim) : placeD (.cell (claimCell B R c)) = cellD (claimCell B R c) := rfl
theorem supply_nn {B : Basin} (ok : B.Ok) {c : Cell} (h : B.In c) : 0 ≤ B.supply c := by
  have s := ok.s h.1
  have h1 : 0 ≤ B.inf c := by
    unfold Basin.inf
    rw [List.getElem?_eq_getElem (by rw [s.len]; exact h.2)]
    exact (s.inf _ (List.getElem_mem _)).1
  unfold Basin.supply
  split
  · have := s.held0; omega
  · omega
theorem flow0 {B : Basin} (ok : B.Ok) : FlowOk B (fun _ => 0) := fun k hk => by
  have hin : B.In k.cell := mem_cells.mp (mem_kinds.mp hk).1
  refine ⟨Int.le_refl _, fun m hm => ?_⟩
  cases k with
  | src c => cases hm; exact supply_nn ok hin
  | sto c => cases hm; exact (ok.s hin.1).room0
  | rel c => exact (ok.s hin.1).reach m hm
theorem net0 {B : Basin} {p : Pl} : netF B (fun _ => 0) p = 0 := by
  unfold netF
  have : (ksOf B).map (kNet B (fun _ => 0) p) = (ksOf B).map fun _ => 0 := List.map_congr_left fun k _ => by simp [kNet]
  rw [this]
  generalize ksOf B = l
  induction l with
  | nil => rfl
  | cons a l ih => rw [List.map_cons, List.sum_cons, ih]; rfl
theorem dueAt_snoc {B : Basin} {R : List Right} {cs : List Claim} {am : List Int} {c : Claim} {x : Int} {ce : Cell} (h : cs.length = am.length) : dueAt B R (cs ++ [c]) (am ++ [x]) ce = dueAt B R cs am ce + if claimCell B R c = ce then x else 0 := by
  unfold dueAt
  rw [List.zip_append h, List.map_append, List.sum_append]; simp
theorem c_led (Fx : Fx K mg) : Cal P w K mg base 6 "led" (S_led K) := by
  have hlen : Spec.len (S_led K) 3 := len_led
  obtain ⟨fd, F⟩ := Fx.c.def_ 31 (d := d_led) rfl
  refine ⟨_, fd, ["basin", "rights", "many"], fnok F sc_led hlen (fun cdv A outer s H E hr => ?_), Fx.glo 18, F.kp, FunD.bindsN F fun _ _ _ _ _ _ us hl => match us, hl with | [_, _, _], _ => rfl⟩
  have hu := hu_of hr
  have nd := sc_led.nd
  refine ⟨_, (pss_cons (ps_set (i := 3) nd rfl (by first | exact Or.inl rfl | exact Or.inr rfl) (k_mak (m_Network Fx) hr (by decide) rfl (pa_cons (pv 0) pa_nil)))
      (pss_cons (ps_set (i := 4) nd rfl (by first | exact Or.inl rfl | exact Or.inr rfl) (pe_lst pa_nil))
      (pss_cons (ps_for PassesOwn.never rfl (k_tup_ (K := K) (pe_slice (k_sl (K := K)) (k_cal (c_claims Fx) hr (by decide) rfl (pa_cons (pv 0) (pa_cons (pv 1) pa_nil))) po_none (po_some (pv 2)))) (pg_name (i := 5) nd rfl (by first | exact Or.inl rfl | exact Or.inr rfl)) (pss_one (ps_expr (pe_bm PySem.F.plainAttrs_list PySem.F.slot_list_append PySem.F.type_list_append mt_append (pv 4) (pa_cons (k_met (c_Network_push Fx) hr (by decide) (pv 3) (pa_cons (k_gS (Fx.str 48) rfl) (pa_cons (k_cal (c_claim_cell Fx) hr (by decide) rfl (pa_cons (pv 0) (pa_cons (pv 1) (pa_cons (pv 5) pa_nil)))) (pa_cons (k_cal (c_claim_size Fx) hr (by decide) rfl (pa_cons (pv 0) (pa_cons (pv 1) (pa_cons (pv 5) pa_nil)))) pa_nil)))) pa_nil)))))
      (pss_one (ps_ret (pe_tup (pa_cons (pv 3) (pa_cons (pv 4) pa_nil)))))))), fun ds μ Pq hS => ?_⟩
  obtain ⟨B, R, rfl, ok, rok, q⟩ := hS
  have hcl := claimsOf_len ok rok
  refine pw_seq (pw_set (we_make ((ea_cons (V' 0) ea_nil).go fun x hx => ⟨x, B, rfl, ok, Mu.upd_same, fun n A μ1 hn fr1 Fr N1 => ⟨rfl, ?_⟩⟩) mono_Network_init))
  subst hn
  have sub1 : μ.sub μ1 := fun b o e => by
    have h1 : b ≠ n.x := fun z => by rw [z, hx] at e; cases e
    rw [fr1 b h1 (by rw [Mu.upd_ne h1, e]; simp), Mu.upd_ne h1]; exact e
  refine q_new fun f hf => ?_
  have hf0 : μ f = none := by
    cases e : μ f with
    | none => rfl
    | some o => rw [sub1 f o e] at hf; cases hf
  have N2 : Net K (μ1.upd f (.lst [])) n B A (fun _ => 0) (fun _ => false) := by
    have fr : ∀ b o, μ1 b = some o → (μ1.upd f (.lst [])) b = some o := fun b o e => by
      rw [Mu.upd_ne (fun z => by rw [z, hf] at e; cases e)]; exact e
    exact ⟨N1.S.fr fr, fr _ _ N1.st, fr _ _ N1.re⟩
  have nfx : f ≠ n.x := fun e => by rw [e, N1.S.ins] at hf; cases hf
  have cinv : ∀ b, μ b ≠ none → b ≠ f := fun b hb e => hb (by rw [e]; exact hf0)
  have arcoff : ∀ b, μ b ≠ none → b ∉ (ksOf B).map A := fun b hb z => by
    obtain ⟨k, hk, rfl⟩ := List.mem_map.mp z
    have h1 := Fr k hk
    have h2 : A k ≠ n.x := fun e => by rw [e, hx] at hb; exact hb rfl
    rw [Mu.upd_ne h2] at h1
    exact hb h1
  refine pw_seq (pw_for (fun i ρ μ' => ∃ (F : Kind → Int) (am : List Int), am.length = i ∧ (∀ (j : Nat) c x, (claimsOf B R)[j]? = some c → am[j]? = some x → 0 ≤ x ∧ x ≤ claimSize B R c) ∧ FlowOk B F ∧ (∀ c, netF B F (.cell c) = dueAt B R ((claimsOf B R).take i) am c) ∧ Net K μ' n B A F (fun _ => false) ∧ μ.sub μ' ∧ μ' f = some (.lst (am.map .int)) ∧ ∃ a, ρ = [some (basinD B), some (rightsD R), some (.int ((claimsOf B R).length : Int)), some (.raw (.ref n.x)), some (.raw (.ref f)), a]) ?_)
  have ecut : cutD ((claimsOf B R).map claimD) none (some ((claimsOf B R).length : Int)) = (claimsOf B R).map claimD := by
    unfold cutD
    rw [HT.sIx_none, HT.sIx_nat, List.length_map, Nat.min_self, List.drop_zero, Nat.sub_zero]
    exact List.take_of_length_le (by rw [List.length_map]; exact Nat.le_refl _)
  have eit : Ev K (tSl (rSlA K) (tCall (lift K S_claims) [] E0 (tCons (tVar 0) (tCons (tVar 1) tNil))) tNoPart (tPart (tVar 2))) [some (basinD B), some (rightsD R), some (.int ((claimsOf B R).length : Int)), some (.raw (.ref n.x)), some (.raw (.ref f)), none] (μ1.upd f (.lst [])) (.tup ((claimsOf B R).map claimD)) := by
    rw [← ecut]
    exact ev_sl (ev_call (ea_cons (V' 0) (ea_cons (V' 1) ea_nil)) ⟨B, R, rfl, ok, rok.1, rfl, rfl⟩ mono_claims) eo_none (eo_some (V' 2))
  refine wi_tupE eit ⟨⟨fun _ => 0, [], rfl, fun j c x _ h => (by cases h), flow0 ok, fun c => by rw [net0]; rfl, N2, fun b o e => by rw [Mu.upd_ne (cinv b (by rw [e]; simp))]; exact sub1 b o e, Mu.upd_same, none, rfl⟩, fun _ _ _ _ => trivial, ?_, ?_⟩
  · rintro i d ρ μ3 hd ⟨F, am, hl, hb, hF, hN, N, sub3, hm, a, rfl⟩
    rw [List.getElem?_map] at hd
    cases hc : (claimsOf B R)[i]? with
    | none => rw [hc] at hd; cases hd
    | some c =>
      rw [hc] at hd; cases hd
      have cok := claims_ok (List.mem_of_getElem? hc)
      have hi := (List.getElem?_eq_some_iff.mp hc).1
      have nn := size_nn ok rok cok
      have es : ∀ μ, Ev K (tC (.str "source")) [some (basinD B), some (rightsD R), some (.int ((claimsOf B R).length : Int)), some (.raw (.ref n.x)), some (.raw (.ref f)), some (claimD c)] μ (placeD .src) := fun μ => ev_str (i := "source")
      have ec : ∀ μ, Ev K (tCall (lift K S_claim_cell) [] E0 (tCons (tVar 0) (tCons (tVar 1) (tCons (tVar 5) tNil)))) [some (basinD B), some (rightsD R), some (.int ((claimsOf B R).length : Int)), some (.raw (.ref n.x)), some (.raw (.ref f)), some (claimD c)] μ (placeD (.cell (claimCell B R c))) := fun μ =>
        ev_call (ea_cons (V' 0) (ea_cons (V' 1) (ea_cons (V' 5) ea_nil))) ⟨B, R, c, rfl, ok, rok, cok, rfl, rfl⟩ mono_claim_cell
      have ez : ∀ μ, Ev K (tCall (lift K S_claim_size) [] E0 (tCons (tVar 0) (tCons (tVar 1) (tCons (tVar 5) tNil)))) [some (basinD B), some (rightsD R), some (.int ((claimsOf B R).length : Int)), some (.raw (.ref n.x)), some (.raw (.ref f)), some (claimD c)] μ (.int (claimSize B R c)) := fun μ =>
        ev_call (ea_cons (V' 0) (ea_cons (V' 1) (ea_cons (V' 5) ea_nil))) ⟨B, R, c, rfl, ok, rok, cok, rfl, rfl⟩ mono_claim_size
      refine wg_name (pw_drop (we_append ((V' 4).go ⟨f, _, rfl, hm, we_push (b := .src) ok N hF trivial nn (V' 3) (ea_cons (es _) (ea_cons (ec _) (ea_cons (ez _) ea_nil))) fun t F' μ4 t0 t1 _ hF' hN' fr4 N4 => ?_⟩)))
      have nfa : f ∉ (ksOf B).map A := fun z => by
        obtain ⟨j, hj⟩ := List.mem_iff_getElem?.mp z
        rw [List.getElem?_map] at hj
        cases hk : (ksOf B)[j]? with
        | none => rw [hk] at hj; cases hj
        | some k =>
          have := N.S.at_ j f (arcOf B F (fun _ => false) k) (by rw [List.getElem?_map]; exact hj) (by rw [List.getElem?_map, hk]; rfl)
          unfold ArcAt at this
          rw [hm] at this; cases this
      have hm4 : μ4 f = some (.lst (am.map .int)) := (fr4 f nfa).trans hm
      refine ⟨am.map .int, hm4, sz_lt (by rw [List.length_map]; omega), F', am ++ [t], by rw [List.length_append, hl]; rfl, ?_, hF', ?_, ?_, ?_, ?_, some (claimD c), rfl⟩
      · intro j c' x hj hx
        by_cases hji : j < am.length
        · rw [List.getElem?_append_left hji] at hx
          exact hb j c' x hj hx
        · rw [List.getElem?_append_right (by omega)] at hx
          cases hk : j - am.length with
          | zero =>
            rw [hk] at hx; cases hx
            have : j = i := by omega
            subst this
            rw [hc] at hj; cases hj
            exact ⟨t0, t1⟩
          | succ k => rw [hk] at hx; cases hx
      · intro ce
        have e1 : (claimsOf B R).take (i + 1) = (claimsOf B R).take i ++ [c] := by rw [List.take_succ, hc]; rfl
        rw [hN', hN, e1, dueAt_snoc (by rw [List.length_take]; omega)]
        have e2 : (if Pl.cell ce = Pl.src then t else 0) = 0 := if_neg (by simp)
        rw [e2, Int.sub_zero]
        congr 1
        by_cases h : claimCell B R c = ce
        · rw [if_pos h, if_pos (by rw [h])]
        · rw [if_neg h, if_neg (fun z => h (by cases z; rfl))]
      · have fr : ∀ b o, μ4 b = some o → b ≠ f → (μ4.upd f (.lst (am.map D.int ++ [.int t]))) b = some o := fun b o e h => by rw [Mu.upd_ne h]; exact e
        have nd := N4.S.nd
        refine ⟨⟨fr _ _ N4.S.ins (Ne.symm nfx), fr _ _ N4.S.ls (fun e => ?_), N4.S.len, fun j b v h1 h2 => fr _ _ (N4.S.at_ j b v h1 h2) (fun e => nfa (e ▸ List.mem_of_getElem? h1)), nd⟩, fr _ _ N4.st (fun e => ?_), fr _ _ N4.re (fun e => ?_)⟩
        · have := N1.S.ls; rw [e, hf] at this; cases this
        · have := N4.st; rw [e, hm4] at this; cases this
        · have := N4.re; rw [e, hm4] at this; cases this
      · intro b o e
        rw [Mu.upd_ne (cinv b (by rw [e]; simp)), fr4 b (arcoff b (by rw [e]; simp))]
        exact sub3 b o e
      · rw [Mu.upd_same, List.map_append]; rfl
  · rintro ρ μ3 ⟨F, am, hl, hb, hF, hN, N, sub3, hm, a, rfl⟩
    rw [List.length_map] at hl
    rw [List.length_map, List.take_length] at hN
    refine pw_freezeL (i := 4) rfl hm ?_
    refine s_retS (ev_tup (ea_cons (V' 3) (ea_cons (V' 4) ea_nil))) (Mu.sub.refl _) (q n A F am _ (fun b o e => ?_) hl hb hF hN ?_ arcoff)
    · show (if b = f then none else μ3 b) = some o
      rw [if_neg (cinv b (by rw [e]; simp))]; exact sub3 b o e
    · have fr : ∀ b o, μ3 b = some o → o ≠ .lst (am.map .int) ∨ b ≠ f → (fun b => if b = f then none else μ3 b) b = some o := fun b o e h => by
        show (if b = f then none else μ3 b) = some o
        rw [if_neg (fun z => by
          subst z
          rcases h with h | h
          · rw [hm] at e; exact h (Option.some.inj e).symm
          · exact h rfl)]
        exact e
      have nls : n.ls ≠ f := fun e => by have := N1.S.ls; rw [e, hf] at this; cases this
      exact ⟨⟨fr _ _ N.S.ins (.inl (by simp)), fr _ _ N.S.ls (.inr nls), N.S.len, fun j b v h1 h2 => fr _ _ (N.S.at_ j b v h1 h2) (.inl (by simp)), N.S.nd⟩, fr _ _ N.st (.inl (by simp)), fr _ _ N.re (.inl (by simp))⟩
end
end Hw
set_option Elab.async false
set_option linter.all false
set_option maxRecDepth 100000
set_option maxHeartbeats 4000000
/-! Lessen. -/
namespace Hw
open PySem PySem.Spec L2
def updF {α : Type} (F : Kind → α) (k : Kind) (y : α) : Kind → α := fun j => if j = k then y else F j
section
variable {P : Program} {w : World} {K : PySem.W.Frag} {mg : Str → Option Value} {base : Heap}
theorem Net.at {μ : Mu} {n : NetA} {B : Basin} {A : Kind → Addr} {F : Kind → Int} {X : Kind → Bool} (N : Net K μ n B A F X) {k : Kind} (hk : k ∈ ksOf B) : ArcAt K μ (A k) (arcOf B F X k) := by
  obtain ⟨i, hi⟩ := List.mem_iff_getElem?.mp hk
  exact N.S.at_ i _ _ (by rw [List.getElem?_map, hi]; rfl) (by rw [List.getElem?_map, hi]; rfl)
theorem Net.set {μ : Mu} {n : NetA} {B : Basin} {A : Kind → Addr} {F F' : Kind → Int} {X X' : Kind → Bool} (N : Net K μ n B A F X) {k : Kind} (hk : k ∈ ksOf B) (h : ∀ j, j ≠ k → F' j = F j ∧ X' j = X j) :
    Net K (μ.upd (A k) (.ins (He.ga K "Arc") (arcFs (arcOf B F' X' k)))) n B A F' X' ∧ ∀ p, netF B F' p = netF B F p - kNet B F p k + kNet B F' p k := by
  obtain ⟨i, hi⟩ := List.mem_iff_getElem?.mp hk
  have ha : ((ksOf B).map A)[i]? = some (A k) := by rw [List.getElem?_map, hi]; rfl
  have hv : ((ksOf B).map (arcOf B F X))[i]? = some (arcOf B F X k) := by rw [List.getElem?_map, hi]; rfl
  have e : ((ksOf B).map (arcOf B F X)).set i (arcOf B F' X' k) = (ksOf B).map (arcOf B F' X') := by
    rw [map_set (ks_nodup B) hi]
    refine List.map_congr_left fun j _ => ?_
    by_cases z : j = k
    · rw [if_pos z, z]
    · rw [if_neg z]
      unfold arcOf
      rw [(h j z).1, (h j z).2]
  have S := N.S.setA (v' := arcOf B F' X' k) ha
  rw [e] at S
  have am : A k ∈ (ksOf B).map A := List.mem_of_getElem? ha
  have nd := N.S.nd
  simp only [List.nodup_cons, List.mem_cons, not_or] at nd
  refine ⟨⟨S, (Mu.upd_ne (fun z => nd.2.1.2.2 (by rw [z]; exact am))).trans N.st, (Mu.upd_ne (fun z => nd.2.2.1.2 (by rw [z]; exact am))).trans N.re⟩, fun p => ?_⟩
  have := net_set (p := p) (v' := arcOf B F' X' k) hv
  rw [e, netF_of, netF_of] at this
  exact this
theorem sc_lessen : FnScope ["network", "arc"] ["network", "arc"] (defScope s_lessen) := ⟨rfl, rfl, rfl, by decide +kernel, rfl, by decide +kernel, by decide +kernel⟩
-- lessen: 0 network, 1 arc
def S_lessen (K : PySem.W.Frag) : Spec := fun ds μ Q => ∃ (n : NetA) (B : Basin) (A : Kind → Addr) (F : Kind → Int) (X : Kind → Bool) (k : Kind), ds = [.raw (.ref n.x), .raw (.ref (A k))] ∧ B.Ok ∧ k ∈ ksOf B ∧ Net K μ n B A F X ∧ FlowOk B F ∧
  ∀ (F' : Kind → Int) (X' : Kind → Bool) (μ' : Mu), FlowOk B F' → (∀ p, netF B F' p = netF B F p) → (∀ c, c ∉ (ksOf B).map A → μ' c = μ c) → Net K μ' n B A F' X' → Q .non μ'
theorem len_lessen : (S_lessen K).len 2 := fun ds μ Q h => by obtain ⟨_, _, _, _, _, _, rfl, _⟩ := h; rfl
theorem mono_lessen : Mono (S_lessen K) := fun ds μ P P' f h => by
  obtain ⟨n, B, A, F, X, k, e, h1, h2, h3, h4, q⟩ := h
  exact ⟨n, B, A, F, X, k, e, h1, h2, h3, h4, fun F' X' μ' a b c d => f _ _ (q F' X' μ' a b c d)⟩
theorem c_lessen (Fx : Fx K mg) : Cal P w K mg base 5 "lessen" (S_lessen K) := by
  have hlen : Spec.len (S_lessen K) 2 := len_lessen
  obtain ⟨fd, F⟩ := Fx.c.def_ 32 (d := d_lessen) rfl
  refine ⟨_, fd, ["network", "arc"], fnok F sc_lessen hlen (fun cdv A outer s H E hr => ?_), Fx.glo 19, F.kp, FunD.bindsN F fun _ _ _ _ _ _ us hl => match us, hl with | [_, _], _ => rfl⟩
  have hu := hu_of hr
  have nd := sc_lessen.nd
  refine ⟨_, (pss_cons (ps_fld (pv 1) pe_bl rfl)
      (pss_one (ps_fldaug (pv 1) (k_met (c_Network_push Fx) hr (by decide) (pv 0) (pa_cons (k_fld (K := K) (pv 1) rfl) (pa_cons (k_fld (K := K) (pv 1) rfl) (pa_cons (k_fld (K := K) (pv 1) rfl) pa_nil)))) in_sub))), fun ds μ Pq hS => ?_⟩
  obtain ⟨n, B, A, F, X, k, rfl, ok, hk, N, hF, q⟩ := hS
  have cl := (Fx.cls 63)
  have am : A k ∈ (ksOf B).map A := List.mem_map.mpr ⟨k, hk, rfl⟩
  refine q_fld ev_bl (V' 1) (N.at hk) cl (Fx.noat 69) ?_
  have N1 := (N.set (F' := F) (X' := updF X k true) hk (fun j hj => ⟨rfl, if_neg hj⟩)).1
  have e1 : arcFs (arcOf B F (updF X k true) k) = [(("tail" : Str), placeD k.tail), ("head", placeD (k.head B)), ("most", optD .int (k.most B)), ("flow", .int (F k)), ("is_fixed", .bl true)] := by
    unfold arcFs arcOf updF
    dsimp only
    rw [if_pos rfl]
  have e2 : putD "is_fixed" (.bl true) (arcFs (arcOf B F X k)) = arcFs (arcOf B F (updF X k true) k) := by rw [e1]; rfl
  rw [e2]
  have hA1 := N1.at hk
  have hFk := hF k hk
  refine s_fldaug (fun i j => i - j) (fun i j H Q h => ⟨i, j, rfl, rfl, h⟩) (n := F k) (V' 1) hA1 cl (Fx.noat 68) rfl (we_push (b := k.tail) (e := k.head B) ok N1 hF ((ends_of (F := F) (X := X) ok _ (List.mem_map.mpr ⟨k, hk, rfl⟩)).1) hFk.1 (V' 0) (ea_cons (ev_fld (V' 1) hA1 cl (Fx.noat 65) rfl) (ea_cons (ev_fld (V' 1) hA1 cl (Fx.noat 66) rfl) (ea_cons (ev_fld (V' 1) hA1 cl (Fx.noat 68) rfl) ea_nil))) fun t F' μ2 t0 t1 hX hF' hN' fr2 N2 => ?_)
  have hFk' : F' k = F k := hX k hk (if_pos rfl)
  refine ⟨t, _, rfl, N2.at hk, of_decide_eq_true rfl, ?_⟩
  obtain ⟨N3, hN3⟩ := N2.set (F' := updF F' k (F k - t)) (X' := updF X k true) hk (fun j hj => ⟨if_neg hj, rfl⟩)
  have e3 : putD "flow" (.int (F k - t)) (arcFs (arcOf B F' (updF X k true) k)) = arcFs (arcOf B (updF F' k (F k - t)) (updF X k true) k) := by
    have : (updF F' k (F k - t)) k = F k - t := if_pos rfl
    show _ = [(("tail" : Str), placeD k.tail), ("head", placeD (k.head B)), ("most", optD .int (k.most B)), ("flow", D.int ((updF F' k (F k - t)) k)), ("is_fixed", D.bl ((updF X k true) k))]
    rw [this]; rfl
  rw [e3]
  refine ⟨_, Mu.sub.refl _, q (updF F' k (F k - t)) (updF X k true) _ (fun j hj => ?_) (fun p => ?_) (fun c hc => ?_) N3⟩
  · unfold updF
    by_cases z : j = k
    · rw [if_pos z]
      subst z
      refine ⟨by omega, fun m hm => ?_⟩
      have := hFk.2 m hm
      omega
    · rw [if_neg z]; exact hF' j hj
  · rw [hN3 p, hN' p]
    have : (updF F' k (F k - t)) k = F k - t := if_pos rfl
    unfold kNet
    rw [this, hFk']
    by_cases c1 : k.head B = p
    · rw [if_pos c1, if_pos c1, if_pos c1.symm]
      by_cases c2 : k.tail = p
      · rw [if_pos c2, if_pos c2, if_pos c2.symm]; omega
      · rw [if_neg c2, if_neg c2, if_neg (Ne.symm c2)]; omega
    · rw [if_neg c1, if_neg c1, if_neg (Ne.symm c1)]
      by_cases c2 : k.tail = p
      · rw [if_pos c2, if_pos c2, if_pos c2.symm]; omega
      · rw [if_neg c2, if_neg c2, if_neg (Ne.symm c2)]; omega
  · rw [Mu.upd_ne (fun z => hc (by rw [z]; exact am)), fr2 c hc, Mu.upd_ne (fun z => hc (by rw [z]; exact am))]
theorem sc_rows_of : FnScope ["basin", "amounts", "months", "sites", "month", "number"] ["basin", "amounts"] (defScope s_rows_of) := ⟨rfl, rfl, rfl, by decide +kernel, rfl, by decide +kernel, by decide +kernel⟩
-- rows_of: 0 basin, 1 amounts, 2 months, 3 sites, 4 month, 5 number
def S_rows_of : Spec := fun ds μ Q => ∃ (B : Basin) (a : Addr) (dom : Cell → Prop) (f : Cell → Int) (n : Nat), ds = [basinD B, .raw (.ref a)] ∧ B.Ok ∧ Tbl D.int μ a dom f n ∧
  ∀ t : List (List Int), Tab B.sites.length B.months t → (∀ k m, k < B.sites.length → m < B.months → (dom (k, m) → get2 t k m = f (k, m)) ∧ (¬ dom (k, m) → get2 t k m = 0)) → Q (tabD t) μ
theorem len_rows_of : S_rows_of.len 2 := fun ds μ Q h => by obtain ⟨_, _, _, _, _, rfl, _⟩ := h; rfl
theorem mono_rows_of : Mono S_rows_of := fun ds μ P P' f h => by
  obtain ⟨B, a, dom, g, n, e, h1, h2, q⟩ := h
  exact ⟨B, a, dom, g, n, e, h1, h2, fun t x y => f _ _ (q t x y)⟩
/-- a table by a function -/
def tabOf (n m : Nat) (f : Nat → Nat → Int) : List (List Int) := (List.range n).map fun i => (List.range m).map (f i)
theorem tabOf_tab {n m : Nat} {f : Nat → Nat → Int} : Tab n m (tabOf n m f) := ⟨by simp [tabOf], fun r hr => by
  obtain ⟨i, _, rfl⟩ := List.mem_map.mp hr
  simp⟩
theorem tabOf_get {n m : Nat} {f : Nat → Nat → Int} {i j : Nat} (hi : i < n) (hj : j < m) : get2 (tabOf n m f) i j = f i j := by
  unfold get2 tabOf
  rw [List.getElem?_map, List.getElem?_range hi]
  show (((List.range m).map (f i))[j]?).getD 0 = _
  rw [List.getElem?_map, List.getElem?_range hj]; rfl
theorem tabOf_D {n m : Nat} {f : Nat → Nat → Int} : tabD (tabOf n m f) = .tup ((List.range n).map fun i => .tup ((List.range m).map fun j => .int (f i j))) := by
  unfold tabD tabOf intsD
  rw [List.map_map]
  congr 1
  refine List.map_congr_left fun i _ => ?_
  rw [Function.comp_apply, List.map_map]; rfl
theorem c_rows_of (Fx : Fx K mg) : Cal P w K mg base 1 "rows_of" S_rows_of := by
  have hlen : Spec.len S_rows_of 2 := len_rows_of
  obtain ⟨fd, F⟩ := Fx.c.def_ 33 (d := d_rows_of) rfl
  refine ⟨_, fd, ["basin", "amounts"], fnok F sc_rows_of hlen (fun cdv A outer s H E hr => ?_), Fx.glo 20, F.kp, FunD.bindsN F fun _ _ _ _ _ _ us hl => match us, hl with | [_, _], _ => rfl⟩
  have hu := hu_of hr
  have nd := sc_rows_of.nd
  refine ⟨_, (pss_cons (ps_asg (pv 0) (pg_tup rfl (pgs_cons (pg_name (i := 2) nd rfl (by first | exact Or.inl rfl | exact Or.inr rfl)) (pgs_cons (pg_name (i := 3) nd rfl (by first | exact Or.inl rfl | exact Or.inr rfl)) pgs_nil))))
      (pss_one (ps_ret (pe_callTy (k_tuple (K := K)) (by rfl) (Fx.free 101) (by decide +kernel) (pa_cons (pe_lc (own := [("number", 5)]) (g := (gName 5)) (tt := tYes) rfl nd (pi_range1 rfl (Fx.free 98) (pa_cons (pe_callB (k_len (K := K)) (by rfl) (Fx.free 97) PySem.boot_len (pa_cons (pv 3) pa_nil)) pa_nil)) (blkOk_by (by kernel_rfl)) (fun _ _ _ _ _ => by exact (pg_name (i := 5) nd rfl (by first | exact Or.inl rfl | exact Or.inr rfl))) (fun _ _ _ _ _ => by exact pts_nil) (fun _ _ _ _ _ => by exact (pe_callTy (k_tuple (K := K)) (by rfl) (Fx.free 101) (by decide +kernel) (pa_cons (pe_lc (own := [("month", 4)]) (g := (gName 4)) (tt := tYes) rfl nd (pi_range1 rfl (Fx.free 98) (pa_cons (pv 2) pa_nil)) (blkOk_by (by kernel_rfl)) (fun _ _ _ _ _ => by exact (pg_name (i := 4) nd rfl (by first | exact Or.inl rfl | exact Or.inr rfl))) (fun _ _ _ _ _ => by exact pts_nil) (fun _ _ _ _ _ => by exact (pe_dget2 hu (pv 1) (pe_tup (pa_cons (pv 5) (pa_cons (pv 4) pa_nil))) pe_int ⟨by rfl, by rfl, by rfl, by rfl⟩))) pa_nil)))) pa_nil))))), fun ds μ Pq hS => ?_⟩
  obtain ⟨B, a, dom, f, n, rfl, ok, ⟨m, hm, hz, hl⟩, q⟩ := hS
  have hm4 := ok.m4
  have hn3 := ok.n3
  refine q_two (V' 0) rfl ?_
  have key : ∀ k j, ∃ x : Int, (look m (cellK (k, j))).getD (.int 0) = .int x ∧ (dom (k, j) → x = f (k, j)) ∧ (¬ dom (k, j) → x = 0) := fun k j => by
    by_cases d : dom (k, j)
    · exact ⟨f (k, j), by rw [(hl (k, j)).1 d]; rfl, fun _ => rfl, fun h => absurd d h⟩
    · exact ⟨0, by rw [(hl (k, j)).2 d]; rfl, fun h => absurd h d, fun _ => rfl⟩
  have q' := q (tabOf B.sites.length B.months fun k j => (key k j).choose) tabOf_tab (fun k j hk hj => by
    rw [tabOf_get hk hj]
    exact (key k j).choose_spec.2)
  rw [tabOf_D] at q'
  refine s_ret (ev_tupleOf (ev_lcR (n := B.sites.length) (fun k => .tup ((List.range B.months).map fun j => .int (key k j).choose)) (ea_cons (ev_len (V' 3) (.inl rfl)) ea_nil) (by omega) (fun k hk => ?_)) (.inl rfl)) q'
  refine ev_tupleOf (ev_lcR (n := B.months) (fun j => .int (key k j).choose) (ea_cons (V' 2) ea_nil) (by omega) (fun j hj => ?_)) (.inl rfl)
  rw [← (key k j).choose_spec.1]
  exact ev_dget2 (V' 1) (ev_tup (ea_cons (V' 5) (ea_cons (V' 4) ea_nil))) ev_int (.inr ⟨a, rfl, hm⟩) (keys2 k j)
end
end Hw
set_option Elab.async false
set_option linter.all false
set_option maxRecDepth 100000
set_option maxHeartbeats 4000000
set_option pp.maxSteps 400
/-! for k, v in d.items(), keys tuples. -/
namespace Hw
open PySem PySem.Spec L2 PyProof.Rows
section
variable {X : Cx} {pins : List (Addr × Obj)} {σ : L2.St} {H : Hp} {s : Shared} {d : Addr} {o : Obj}
theorem frz_items {kvs : List (List Key × V)} (I : Inv X pins σ H s) (h : H d = some (.frz o (.dT kvs))) : (d == sysModules) = false ∧ ∃ (es : Array DictEntry) (ep : Nat), o.data = .dict es ep ∧ DT.Raw s.heap d es ep ∧ es.size = kvs.length ∧
    ∀ (i : Nat) (hi : i < es.size) (k : List Key) (v : V), kvs[i]? = some (k, v) → ∃ q, es[i].key = .ref q ∧ H q = some (.tup (k.map kV)) ∧ RelV v es[i].val := by
  have ⟨at_d, _, nosys, xs, held, o', es, ep, at_d', exact_, data, row, _⟩ := I.hok d _ h
  obtain rfl : o = o' := Option.some.inj (at_d.symm.trans at_d')
  have many := (size_of_entries row).trans (Paired.length held).symm
  refine ⟨nosys, es, ep, data, ⟨o, at_d, exact_, data⟩, many, fun i hi k v e => ?_⟩
  obtain ⟨⟨k', q, u⟩, hb, e1, e2, e3⟩ := paired_get held e
  have both : es[i] = _ := Option.some.inj ((Array.getElem?_eq_getElem hi).symm.trans ((entry_at row i).trans (congrArg _ hb)))
  exact ⟨q, by rw [both]; rfl, e2, by rw [both]; exact e3⟩
end
def ItiT (d : Addr) (o : Obj) (kvs : List (List Key × V)) : It :=
  ⟨fun i H => H d = some (.frz o (.dT kvs)) ∧ i < kvs.length, fun i H x H' => ∃ T q k v, kvs[i]? = some (k, v) ∧ x = .ref T ∧ H T = none ∧ H q = some (.tup (k.map kV)) ∧ H' = L2.upd H T (.tup [.ref q, v]), fun i H => H d = some (.frz o (.dT kvs)) ∧ kvs.length ≤ i⟩
section
variable {P : Program} {w : World} {K : PySem.W.Frag} {d : Addr} {o : Obj}
theorem turn_itemsT {es : Array DictEntry} {ep : Nat} {kvs : List (List Key × V)} {elts : List Expr} {kk : Nat} {tpos : Pos} (it : Addr) (hod : o.data = .dict es ep) :
    Turn P w K (.Tuple elts kk tpos) (ItiT d o kvs) [it] it (fun i h => ∃ ok ov, IsItemIter h it d i es.size ep ok ov) where
  mem := List.mem_singleton.mpr rfl
  obj := fun i h ⟨ok, ov, e⟩ b hb => by
    cases List.mem_singleton.mp hb
    exact ⟨_, e, fun v z => nomatch z⟩
  keep := fun i h h' ⟨ok, ov, e⟩ k => ⟨ok, ov, k it (List.mem_singleton.mpr rfl) _ e⟩
  item := by
    rintro X rfl rfl rfl hc i pins s σ H E I hf ⟨ok, ov, he⟩ ⟨hd, hi⟩
    obtain ⟨hs, es', ep', hdt, hr, hz, ent⟩ := frz_items I hd
    have e2 : es' = es ∧ ep' = ep := by rw [hod] at hdt; cases hdt; exact ⟨rfl, rfl⟩
    obtain ⟨rfl, rfl⟩ := e2
    obtain ⟨⟨k, v⟩, hkv⟩ : ∃ p, kvs[i]? = some p := ⟨_, List.getElem?_eq_getElem hi⟩
    obtain ⟨q, hq, hqt, hv⟩ := ent i (by omega) k v hkv
    have lt : it < s.heap.objs.size := Heap.lt_size he
    refine DT.nextI he hr (by omega) fun h' ho hT hz' hk => ⟨_, rfl, wpAny_letOwnedTupleGo_items (s := { s with heap := h' }) ho fun h'' he' sb => ?_⟩
    have new2 : h''.get? s.heap.objs.size = some { cls := .type "tuple", data := .seq #[es'[i].key, es'[i].val] } := (sb.2 _ (Nat.ne_of_gt lt)).trans hT
    have I1 : Inv X pins σ (L2.upd H s.heap.objs.size (.tup [.ref q, v])) { s with heap := h'' } :=
      I.turnedNew (t' := s.toks) (ch := [it]) (fun b ob hb e => (sb.2 b (fun z => hb (List.mem_singleton.mpr z))).trans (hk b ob (fun z => hb (List.mem_singleton.mpr z)) e)) hf (Nat.le_refl _)
        ⟨show 2 ≤ sizeLine by decide, [es'[i].key, es'[i].val], .cons hq (.cons hv .nil), ⟨_, new2, rfl, _, rfl⟩⟩
    refine ⟨.ref s.heap.objs.size, _, I1, rfl, ⟨_, q, k, v, hkv, rfl, I.hok.fresh (Nat.le_refl _), hqt, rfl⟩, ⟨_, _, he'⟩, fun b hb => ?_⟩
    cases List.mem_singleton.mp hb
    rw [L2.upd_ne (Nat.ne_of_lt lt)]
    exact (hf it (List.mem_singleton.mpr rfl)).1
  done := by
    rintro X rfl rfl rfl hc i pins s σ H E I hf ⟨ok, ov, he⟩ ⟨hd, hi⟩
    obtain ⟨f0, f1, f2, f3, f4, f5⟩ := hf it (List.mem_singleton.mpr rfl)
    obtain ⟨hs, es', ep', hdt, hr, hz, ent⟩ := frz_items I hd
    have e2 : es' = es ∧ ep' = ep := by rw [hod] at hdt; cases hdt; exact ⟨rfl, rfl⟩
    obtain ⟨rfl, rfl⟩ := e2
    exact DT.endI (I.ok.hd hc) he hr (by omega) fun h' eb => ⟨rfl, I.turned (t' := s.toks) (fun b ob hb e => eb b ob hb e) f0 f1 f3 f4 f5⟩
  self := fun A i s Q E ⟨_, _, e⟩ h => PySem.W.kcp_self e h
def iItemsT (td : TE) : TI := fun σ H R => td σ H fun x H1 => ∃ d o kvs, x = .ref d ∧ H1 d = some (.frz o (.dT kvs)) ∧ R (ItiT d o kvs) H1
theorem pi_itemsT {X : Cx} {e : Expr} {td : TE} {apos cpos tpos : Pos} {elts : List Expr} {kk : Nat} (he : PE X e td) (hbase : attributeBase e "items" X.env (eval e X.env) = eval e X.env := by rfl) (hline : (apos.endLine == cpos.line) = true := by rfl) :
    PI X (.Tuple elts kk tpos) (.Call (.Attribute e "items" apos) [] [] cpos) (iItemsT td) := by
  refine ⟨fun pins s σ H R I h => wpAny_Call_method (T := "dict") (id := "dict.items") hbase rfl hline F.plainAttrs_dict F.slot_dict_items F.type_dict_items (thn (he.run pins s σ H _ I h) fun u s1 ⟨x, H1, I1, rx, d, o, kvs, ex, hd, q⟩ => ?_)⟩
  subst ex
  cases (show u = Value.ref d from rx)
  obtain ⟨hs, es, ep, hdt, hr, hz, ent⟩ := frz_items I1 hd
  refine ⟨hr.typeIs, fun b e => by cases e; obtain ⟨ob, h1, h2, _⟩ := hr; exact ⟨ob, h1, h2.2.1⟩, ?_⟩
  refine Calls.callWith_builtin rfl (PySem.evalArgs_none (DT.callItems hs hr ?_))
  have hr2 : DT.Raw (s1.heap.push { cls := .type "dict_items", data := .fields #[.ref d] }) d es ep := hr.push _
  have I2 : Inv X pins σ H1 { s1 with heap := s1.heap.push { cls := .type "dict_items", data := .fields #[.ref d] } } := I1.kept (t' := s1.toks) fun b ob q => Heap.get?_push_of_some _ q
  refine DT.iterI (d := d) ⟨_, Heap.get?_push_size _ rfl, rfl, rfl⟩ hr2 (pi_one (tk := s1.toks) I2 _ (turn_itemsT _ hdt) ⟨.none, .none, Heap.get?_push_size _ rfl⟩ q)
end
end Hw
set_option Elab.async false
set_option linter.all false
set_option maxRecDepth 100000
set_option maxHeartbeats 4000000
set_option pp.maxSteps 400
/-! {k: a.f for k, a in d.items()}: a new dict of the fields. -/
namespace Hw
open PySem PySem.Spec L2
section
variable {K : PySem.W.Frag} {G G' H H' G0 H0 : Hp} {σ σ' : L2.St} {ρ ρ' : List (Option D)} {μ μ' : Mu} {td : TE} {P : D → Mu → Prop}
abbrev FE := List Key × Addr × Int
def feIn (L : List FE) : List (List Key × D) := L.map fun e => (e.1, .raw (.ref e.2.1))
def feOut (L : List FE) : List (List Key × D) := L.map fun e => (e.1, .int e.2.2)
theorem MsIs.raws : ∀ {L : List FE} {kvs : List (List Key × V)}, MsIs K G (feIn L) kvs → kvs = L.map fun e => (e.1, V.ref e.2.1)
  | [], _, h => by cases h; rfl
  | e :: L, _, h => by
    obtain ⟨x, r, rfl, i, l⟩ := h
    cases i
    rw [MsIs.raws l]; rfl
theorem MsIs.ints : ∀ (L : List FE), MsIs K G (feOut L) (L.map fun e => (e.1, V.int e.2.2))
  | [] => rfl
  | e :: L => ⟨_, _, rfl, rfl, MsIs.ints L⟩
theorem we_fieldItems {p C : Addr} {f : Str} {i j : Nat} {L : List FE} (hij : i ≠ j) (hi : i < ρ.length) (hj : j < ρ.length) (cl : Cls K C) (na : NoAttr K C f) (nd : (L.map (·.1)).Nodup) (hz : L.length ≤ 1000) (hm : μ p = some (.dct (feIn L)))
    (he : ∀ μ', (∀ b, b ≠ p → μ' b = μ b) → Ev K td ρ μ' (.raw (.ref p))) (ha : ∀ e ∈ L, ∃ fs, μ e.2.1 = some (.ins C fs) ∧ fs.lookup f = some (.int e.2.2))
    (q : ∀ D, μ D = none → P (.raw (.ref D)) (μ.upd D (.dct (feOut L)))) : WE K (tLockE (tDcT (iItemsT td) (gTup K 2 (gCons (gName i) (gCons (gName j) gNil))) tYes (tVar i) (tFld K (tVar j) f) [i, j])) ρ μ P := fun G0 H0 G H σ A Q hQ => by
  obtain ⟨r1, r2, kvs, r3, r4⟩ := A.rep p _ hm
  have ek := r4.raws
  refine ⟨p, .dT kvs, r3, trivial, fun od => ?_⟩
  -- the state without p, which is locked
  have sub : Mu.sub (fun b => if b = p then none else μ b) μ := fun b o e => by
    have e' : (if b = p then none else μ b) = some o := e
    split at e'
    · cases e'
    · exact e'
  have mp : (fun b => if b = p then none else μ b) p = none := if_pos rfl
  have A1 := (A.drop sub).hidden (D := p) (o := .frz od (.dT kvs)) r2 r1 mp
  have A2 := A1.guard r1 L2.upd_same mp
  generalize hμ : (fun b => if b = p then none else μ b) = ν at A1 A2 mp sub
  have hν : ∀ b, b ≠ p → ν b = μ b := fun b hb => by rw [← hμ]; exact if_neg hb
  refine he ν hν _ _ _ _ σ A2 _ fun v d ν' G1 H1 pp e1 A3 i3 => ?_
  obtain ⟨rfl, rfl⟩ := pp
  cases i3
  have hp1 : H1 p = some (.frz od (.dT kvs)) := A3.h p _ L2.upd_same
  refine ⟨p, od, kvs, rfl, hp1, fun D hD => ?_⟩
  have Dp : D ≠ p := fun z => by rw [z, hp1] at hD; cases hD
  have arc : ∀ e ∈ L, ∃ dx gs, H1 e.2.1 = some (.ins C dx gs) ∧ gs.lookup f = some (.int e.2.2) := fun e hme => by
    obtain ⟨fs, h1, h2⟩ := ha e hme
    have hne : e.2.1 ≠ p := fun z => by rw [z, hm] at h1; cases h1
    have h3 : ν' e.2.1 = some (.ins C fs) := by rw [hν _ hne, h1]
    obtain ⟨_, _, dx, gs, g1, g2⟩ := A3.rep _ _ h3
    obtain ⟨x, g3, g4⟩ := g2.look h2
    cases g4
    exact ⟨dx, gs, g1, g3⟩
  have kl : kvs.length = L.length := by rw [ek, List.length_map]
  have wl : (wipe σ [i, j]).length = ρ.length := by rw [wipe_length]; exact A3.sl.1
  refine ⟨fun n m Hn => m = L.length - n ∧ n ≤ L.length ∧ (∀ b, b ≠ D → H1 b ≠ none → Hn b = H1 b) ∧ Hn D = some (.dT ((L.take n).map fun e => (e.1, V.int e.2.2))), ⟨_, rfl, Nat.zero_le _, fun b hb _ => L2.upd_ne hb, L2.upd_same⟩, ?_⟩
  rintro n m Hn ⟨rfl, hle, hk, hD2⟩
  have hpn : Hn p = some (.frz od (.dT kvs)) := by rw [hk p (Ne.symm Dp) (by rw [hp1]; simp), hp1]
  by_cases hlt : n < L.length
  · refine .inr ⟨⟨hpn, by omega⟩, fun H' => n + 1 ≤ L.length ∧ (∀ b, b ≠ D → H1 b ≠ none → H' b = H1 b) ∧ H' D = some (.dT ((L.take (n + 1)).map fun e => (e.1, V.int e.2.2))), fun H' z => ⟨L.length - (n + 1), by omega, rfl, z⟩, fun x H' y => ?_⟩
    obtain ⟨T, qa, k, v, hkv, rfl, hT, hq, rfl⟩ := y
    have hL : L[n]? = some L[n] := List.getElem?_eq_getElem hlt
    generalize L[n] = e at hL
    have em : e ∈ L := List.mem_of_getElem? hL
    rw [ek, List.getElem?_map, hL] at hkv
    cases hkv
    obtain ⟨dx, gs, g1, g2⟩ := arc e em
    have TD : T ≠ D := fun z => by rw [z, hD2] at hT; cases hT
    have eD : e.2.1 ≠ D := fun z => by rw [z, hD] at g1; cases g1
    have eT : e.2.1 ≠ T := fun z => by
      have := hk e.2.1 eD (by rw [g1]; simp)
      rw [z, hT] at this
      rw [z] at g1; rw [g1] at this; cases this
    have qT : qa ≠ T := fun z => by rw [z, hT] at hq; cases hq
    refine ⟨T, [.ref qa, .ref e.2.1], rfl, SqT.of L2.upd_same, rfl, _, _, rfl, _, _, rfl, rfl, ?_⟩
    refine ⟨by rw [wipe_set (by simp), wipe_set (by simp), wipe_wipe], ?_⟩
    unfold tYes
    dsimp only
    rw [if_pos rfl]
    refine ⟨.ref qa, by rw [List.getElem?_set_ne (Ne.symm hij), List.getElem?_set_self (by rw [wl]; exact hi)], .ref e.2.1, by rw [List.getElem?_set_self (by rw [List.length_set, wl]; exact hj)], e.2.1, C, dx, gs, .int e.2.2, rfl, by rw [L2.upd_ne eT, hk _ eD (by rw [g1]; simp), g1], cl, na, g2, ?_⟩
    have tk : L.take (n + 1) = L.take n ++ [e] := by rw [List.take_succ, hL]; rfl
    refine ⟨_, e.1, qa, rfl, by rw [L2.upd_ne qT]; exact hq, by rw [L2.upd_ne (Ne.symm TD)]; exact hD2, ?_, hlt, fun b hb hn => ?_, ?_⟩
    · rw [List.length_map, List.length_take]
      exact sz_lt (by omega)
    · have hbT : b ≠ T := fun z => by
        have := hk b hb hn
        rw [z, hT] at this
        rw [z] at hn; exact hn this.symm
      rw [L2.upd_ne hb, L2.upd_ne hbT, hk b hb hn]
    · rw [L2.upd_same, tk, List.map_append]
      have nk : e.1 ∉ (L.take n).map (·.1) := fun z => by
        obtain ⟨a, ha1, ha2⟩ := List.mem_map.mp z
        obtain ⟨l, hl⟩ := List.mem_iff_getElem?.mp ha1
        have hln : l < n := by
          have := (List.getElem?_eq_some_iff.mp hl).1
          rw [List.length_take] at this; omega
        rw [List.getElem?_take_of_lt hln] at hl
        have x1 : (L.map (·.1))[l]? = some e.1 := by rw [List.getElem?_map, hl]; exact congrArg some ha2
        have x2 : (L.map (·.1))[n]? = some e.1 := by rw [List.getElem?_map, hL]; rfl
        have := (List.getElem?_inj (List.getElem?_eq_some_iff.mp x1).1 nd).mp (x1.trans x2.symm)
        omega
      have pn : putK ((L.take n).map fun e => (e.1, V.int e.2.2)) e.1 (.int e.2.2) = ((L.take n).map fun e => (e.1, V.int e.2.2)) ++ [(e.1, .int e.2.2)] := by
        unfold putK
        rw [if_neg]
        rw [List.any_eq_true]
        rintro ⟨a, h1, h2⟩
        obtain ⟨c, hc, rfl⟩ := List.mem_map.mp h1
        exact nk (List.mem_map.mpr ⟨c, hc, of_decide_eq_true h2⟩)
      rw [pn]; rfl
  · have en : n = L.length := by omega
    subst en
    rw [List.take_length] at hD2
    refine .inl ⟨⟨hpn, by omega⟩, hpn, ?_⟩
    obtain ⟨U1, U2, U3, U4⟩ := A1.unguard r2 r1 A3
    have nuD : ν' D = none := A3.muNone hD
    have muD : μ D = none := by rw [← hν D Dp]; exact nuD
    refine hQ _ (.raw (.ref D)) (μ.upd D (.dct (feOut L))) G1 _ (q D muD) e1 ⟨U1.g, fun b o e => ?_, fun b o e => ?_, U1.new, U1.sl, fun b mo e => ?_⟩ rfl
    · have h1 := U1.gh b o e
      have hbp : b ≠ p := fun z => by rw [z, U2] at e; cases e
      have hbD : b ≠ D := fun z => by rw [z, hD] at h1; cases h1
      rw [L2.upd_ne hbp, hk b hbD (by rw [h1]; simp), h1]
    · have h1 := U1.h b o e
      have hbp : b ≠ p := fun z => by rw [z, r2] at e; cases e
      have hbD : b ≠ D := fun z => by rw [z, hD] at h1; cases h1
      rw [L2.upd_ne hbp, hk b hbD (by rw [h1]; simp), h1]
    · by_cases zD : b = D
      · subst zD
        rw [Mu.upd_same] at e; cases e
        exact ⟨U1.gh.off hD, U1.h.off hD, _, (L2.upd_ne Dp).trans hD2, MsIs.ints L⟩
      · rw [Mu.upd_ne zD] at e
        by_cases zp : b = p
        · subst zp
          rw [hm] at e; cases e
          exact ⟨U2, r2, kvs, L2.upd_same, r4.mono e1⟩
        · obtain ⟨s1, s2, s3⟩ := U1.rep b mo (by rw [hν b zp]; exact e)
          obtain ⟨o, ho⟩ := s3.there
          exact ⟨s1, s2, s3.mono (Ex.refl _) (by rw [L2.upd_ne zp, hk b zD (by rw [ho]; simp)])⟩
end
end Hw
set_option Elab.async false
set_option linter.all false
set_option maxRecDepth 100000
set_option maxHeartbeats 4000000
/-! The operation. -/
namespace Hw
open PySem PySem.Spec L2
structure PlanGood (B : Basin) (R : List Right) (p : Plan) : Prop where
  sh : p.Shape B R
  fault : planFault B R p = none
  del0 : ∀ i j, 0 ≤ get2 p.del i j
  rel0 : ∀ i j, 0 ≤ get2 p.rel i j
  sto0 : ∀ i j, 0 ≤ get2 p.sto i j
structure OpPlan (B : Basin) (R : List Right) (F : Kind → Int) (f : Claim → Int) (p : Plan) : Prop where
  sh : p.Shape B R
  del : ∀ r m, r < R.length → m < B.months → get2 p.del r m = f (.right r m)
  rel : ∀ k m, k < B.sites.length → m < B.months → get2 p.rel k m = if B.letTo (k, m) ≠ none then F (.rel (k, m)) else 0
  sto : ∀ k m, k < B.sites.length → m < B.months → get2 p.sto k m = if m + 1 < B.months then F (.sto (k, m)) else f (.room k)
theorem list_fun {α β : Type} [DecidableEq α] : ∀ {l : List α} {am : List β} (d : β), l.Nodup → am.length = l.length → ∃ f : α → β, am = l.map f
  | [], [], d, _, _ => ⟨fun _ => d, rfl⟩
  | [], _ :: _, _, _, h => by cases h
  | a :: l, [], _, _, h => by cases h
  | a :: l, x :: am, d, nd, h => by
    have n := List.nodup_cons.mp nd
    obtain ⟨f, e⟩ := list_fun (l := l) (am := am) d n.2 (by simpa using h)
    refine ⟨fun b => if b = a then x else f b, ?_⟩
    rw [List.map_cons, if_pos rfl, e]
    congr 1
    exact List.map_congr_left fun b hb => (if_neg fun z : b = a => n.1 (z ▸ hb)).symm
instance : DecidableEq Claim := fun a b => match a, b with
  | .right r m, .right s n => if h : r = s ∧ m = n then .isTrue (by rw [h.1, h.2]) else .isFalse (fun e => h (by cases e; exact ⟨rfl, rfl⟩))
  | .room s, .room t => if h : s = t then .isTrue (by rw [h]) else .isFalse (fun e => h (by cases e; rfl))
  | .right _ _, .room _ => .isFalse (fun e => by cases e)
  | .room _, .right _ _ => .isFalse (fun e => by cases e)
theorem claims_nodup (B : Basin) (R : List Right) : (claimsOf B R).Nodup := by
  unfold claimsOf
  refine List.nodup_append.mpr ⟨?_, ?_, ?_⟩
  · have key : ∀ n, ((List.range n).map fun r => (List.range B.months).map fun m => Claim.right r m).flatten.Nodup := fun n => by
      induction n with
      | zero => exact List.nodup_nil
      | succ n ih =>
        rw [List.range_succ, List.map_append, List.flatten_append]
        refine List.nodup_append.mpr ⟨ih, ?_, ?_⟩
        · simp only [List.map_cons, List.map_nil, List.flatten_cons, List.flatten_nil, List.append_nil]
          refine List.Pairwise.map _ (fun a b h => ?_) (List.nodup_range (n := B.months))
          intro e; cases e; exact h rfl
        · intro a ha b hb e
          simp only [List.map_cons, List.map_nil, List.flatten_cons, List.flatten_nil, List.append_nil, List.mem_map, List.mem_range, List.mem_flatten] at ha hb
          obtain ⟨l, ⟨m, hm, rfl⟩, hl⟩ := ha
          obtain ⟨k, hk, rfl⟩ := List.mem_map.mp hl
          obtain ⟨k2, hk2, rfl⟩ := hb
          cases e; omega
    exact key _
  · refine List.Pairwise.map _ (fun a b h => ?_) (List.nodup_range (n := B.sites.length))
    intro e; cases e; exact h rfl
  · intro a ha b hb e
    obtain ⟨l, hl, h2⟩ := List.mem_flatten.mp ha
    obtain ⟨r, _, rfl⟩ := List.mem_map.mp hl
    obtain ⟨m, _, rfl⟩ := List.mem_map.mp h2
    obtain ⟨s, _, rfl⟩ := List.mem_map.mp hb
    cases e
theorem look_tblL {A : Cell → Addr} (c : Cell) : ∀ cs : List Cell, look (tblL A cs) (cellK c) = if c ∈ cs then some (.raw (.ref (A c))) else none
  | [] => rfl
  | d :: cs => by
    have ih := look_tblL (A := A) c cs
    unfold tblL at ih ⊢
    rw [List.map_cons]
    by_cases e : d = c
    · rw [look_pos (p := (cellK d, D.raw (.ref (A d)))) (by rw [e]), if_pos (by simp [e]), e]
    · rw [look_neg (p := (cellK d, D.raw (.ref (A d)))) (fun z => e (cellK_inj z)), ih]
      by_cases h : c ∈ cs
      · rw [if_pos h, if_pos (List.mem_cons_of_mem _ h)]
      · rw [if_neg h, if_neg (fun z => (List.mem_cons.mp z).elim (fun y => e y.symm) h)]
section
variable {K : PySem.W.Frag} {ρ : List (Option D)} {μ : Mu} {ta tb : TE} {x y : D}
theorem ev_din {m : List (List Key × D)} {k : List Key} (h1 : Ev K tb ρ μ y) (h2 : Ev K ta ρ μ x) (hd : DctIn μ x m) (hk : keysOf y = some k) : Ev K (tDIn tb ta) ρ μ (.bl (look m k).isSome) := we_din (h1.go (h2.go ⟨m, k, hd, hk, rfl, rfl⟩))
end
section
variable {P : Program} {w : World} {K : PySem.W.Frag} {mg : Str → Option Value} {base : Heap}
theorem NetK.fr {μ μ' : Mu} {n : NetA} {B : Basin} {cs : List Cell} {A : Kind → Addr} {F : Kind → Int} {X : Kind → Bool} (N : NetK K μ n B cs A F X) (h : ∀ b o, μ b = some o → μ' b = some o) : NetK K μ' n B cs A F X := ⟨N.S.fr h, h _ _ N.st, h _ _ N.re⟩
theorem look_cells {h : Cell → D} (c : Cell) : ∀ cs : List Cell, look (cs.map fun c => (cellK c, h c)) (cellK c) = if c ∈ cs then some (h c) else none
  | [] => rfl
  | d :: cs => by
    have ih := look_cells (h := h) c cs
    rw [List.map_cons]
    by_cases e : d = c
    · rw [look_pos (p := (cellK d, h d)) (by rw [e]), if_pos (by simp [e]), e]
    · rw [look_neg (p := (cellK d, h d)) (fun z => e (cellK_inj z)), ih]
      by_cases z : c ∈ cs
      · rw [if_pos z, if_pos (List.mem_cons_of_mem _ z)]
      · rw [if_neg z, if_neg (fun y => (List.mem_cons.mp y).elim (fun y => e y.symm) z)]
/-- a dict of the flows -/
theorem flow_items {ρ : List (Option D)} {μ : Mu} {td : TE} {Q : D → Mu → Prop} {n : NetA} {B : Basin} {A : Kind → Addr} {F : Kind → Int} {X : Kind → Bool} {kd : Cell → Kind} {cs : List Cell} {p : Addr} {i j : Nat} (cl : Cls K (He.ga K "Arc")) (na : NoAttr K (He.ga K "Arc") "flow") (N : Net K μ n B A F X) (hij : i ≠ j) (hi : i < ρ.length) (hj : j < ρ.length) (hcs : cs.Nodup) (hz : cs.length ≤ 1000) (hk : ∀ c ∈ cs, kd c ∈ ksOf B)
    (hm : μ p = some (.dct (tblL (fun c => A (kd c)) cs))) (he : ∀ μ', (∀ b, b ≠ p → μ' b = μ b) → Ev K td ρ μ' (.raw (.ref p)))
    (q : ∀ T μ', μ T = none → (∀ b, b ≠ T → μ' b = μ b) → Tbl D.int μ' T (fun c => c ∈ cs) (fun c => F (kd c)) 1000 → Q (.raw (.ref T)) μ') : WE K (tLockE (tDcT (iItemsT td) (gTup K 2 (gCons (gName i) (gCons (gName j) gNil))) tYes (tVar i) (tFld K (tVar j) "flow") [i, j])) ρ μ Q := by
  have e1 : feIn (cs.map fun c => (cellK c, A (kd c), F (kd c))) = tblL (fun c => A (kd c)) cs := by
    unfold feIn tblL
    rw [List.map_map]; rfl
  have e2 : feOut (cs.map fun c => (cellK c, A (kd c), F (kd c))) = cs.map fun c => (cellK c, D.int (F (kd c))) := by
    unfold feOut
    rw [List.map_map]; rfl
  refine we_fieldItems (L := cs.map fun c => (cellK c, A (kd c), F (kd c))) hij hi hj cl na ?_ (by rw [List.length_map]; exact hz) (by rw [e1]; exact hm) he (fun e hme => ?_) (fun T hT => ?_)
  · rw [List.map_map]
    exact List.Pairwise.map _ (fun a b h z => h (cellK_inj z)) hcs
  · obtain ⟨c, hc, rfl⟩ := List.mem_map.mp hme
    exact ⟨_, N.at (hk c hc), rfl⟩
  · rw [e2]
    refine q T _ hT (fun b hb => Mu.upd_ne hb) ⟨_, Mu.upd_same, by rw [List.length_map]; exact hz, fun c => ⟨fun h => ?_, fun h => ?_⟩⟩
    · rw [look_cells, if_pos h]
    · rw [look_cells, if_neg h]
theorem sc_operation : FnScope ["basin", "rights", "every", "network", "amounts", "arcs", "cell", "releases", "arc", "storages", "deliveries", "claim", "amount", "got", "month", "number"] ["basin", "rights"] (defScope s_operation) := ⟨rfl, rfl, rfl, by decide +kernel, rfl, by decide +kernel, by decide +kernel⟩
-- operation: 0 basin, 1 rights, 2 every, 3 network, 4 amounts, 5 arcs, 6 cell, 7 releases, 8 arc, 9 storages, 10 deliveries, 11 claim, 12 amount, 13 got, 14 month, 15 number
def S_operation : Spec := fun ds μ Q => ∃ (B : Basin) (R : List Right), ds = [basinD B, rightsD R] ∧ B.Ok ∧ RightsOk B R ∧
  ∀ (F : Kind → Int) (f : Claim → Int) (p : Plan), FlowOk B F → (∀ c ∈ claimsOf B R, 0 ≤ f c ∧ f c ≤ claimSize B R c) → (∀ c, netF B F (.cell c) = dueAt B R (claimsOf B R) ((claimsOf B R).map f) c) → OpPlan B R F f p → Q (planD p) μ
theorem len_operation : S_operation.len 2 := fun ds μ Q h => by obtain ⟨_, _, rfl, _⟩ := h; rfl
theorem mono_operation : Mono S_operation := fun ds μ P P' f h => by obtain ⟨B, R, e, h1, h2, q⟩ := h; exact ⟨B, R, e, h1, h2, fun F g p a b c d => f _ _ (q F g p a b c d)⟩
theorem c_operation (Fx : Fx K mg) : Cal P w K mg base 7 "operation" S_operation := by
  have hlen : Spec.len S_operation 2 := len_operation
  obtain ⟨fd, F⟩ := Fx.c.def_ 34 (d := d_operation) rfl
  refine ⟨_, fd, ["basin", "rights"], fnok F sc_operation hlen (fun cdv A outer s H E hr => ?_), Fx.glo 21, F.kp, FunD.bindsN F fun _ _ _ _ _ _ us hl => match us, hl with | [_, _], _ => rfl⟩
  have hu := hu_of hr
  have nd := sc_operation.nd
  refine ⟨_, (pss_cons (ps_set (i := 2) nd rfl (by first | exact Or.inl rfl | exact Or.inr rfl) (k_cal (c_claims Fx) hr (by decide) rfl (pa_cons (pv 0) (pa_cons (pv 1) pa_nil))))
      (pss_cons (ps_asg (k_cal (c_led Fx) hr (by decide) rfl (pa_cons (pv 0) (pa_cons (pv 1) (pa_cons (pe_callB (k_len (K := K)) (by rfl) (Fx.free 97) PySem.boot_len (pa_cons (pv 2) pa_nil)) pa_nil)))) (pg_tup rfl (pgs_cons (pg_name (i := 3) nd rfl (by first | exact Or.inl rfl | exact Or.inr rfl)) (pgs_cons (pg_name (i := 4) nd rfl (by first | exact Or.inl rfl | exact Or.inr rfl)) pgs_nil))))
      (pss_cons (ps_for PassesOwn.never rfl (k_tup_ (K := K) (pe_tup (pa_cons (k_fld (K := K) (pv 3) rfl) (pa_cons (k_fld (K := K) (pv 3) rfl) pa_nil)))) (pg_name (i := 5) nd rfl (by first | exact Or.inl rfl | exact Or.inr rfl)) (pss_one (ps_for PassesOwn.never rfl (k_list_ (K := K) (k_cal (c_cells Fx) hr (by decide) rfl (pa_cons (pv 0) pa_nil))) (pg_name (i := 6) nd rfl (by first | exact Or.inl rfl | exact Or.inr rfl)) (pss_one (ps_if (pt_cmp (pc_din hu (pv 6) (pv 5))) (pss_one (ps_expr (k_cal (c_lessen Fx) hr (by decide) rfl (pa_cons (pv 3) (pa_cons (pe_dget hu (pv 5) (pv 6) (fun _ _ => rfl)) pa_nil))))) pss_nil)))))
      (pss_cons (ps_lock (ps_setDcT (i := 7) (own := [("cell", 6), ("arc", 8)]) (g := (gTup K 2 (gCons (gName 6) (gCons (gName 8) gNil)))) (tt := tYes) hu rfl nd rfl rfl (sw_dict rfl rfl rfl (by decide +kernel)) (pi_itemsT (k_fld (K := K) (pv 3) rfl)) (blkOk_by (by kernel_rfl)) (fun _ _ _ _ _ => by exact (pg_tup rfl (pgs_cons (pg_name (i := 6) nd rfl (by first | exact Or.inl rfl | exact Or.inr rfl)) (pgs_cons (pg_name (i := 8) nd rfl (by first | exact Or.inl rfl | exact Or.inr rfl)) pgs_nil)))) (fun _ _ _ _ _ => by exact pts_nil) (fun _ _ _ _ _ => by exact (pv 6)) (fun _ _ _ _ _ => by exact (k_fld (K := K) (pv 8) rfl))))
      (pss_cons (ps_lock (ps_setDcT (i := 9) (own := [("cell", 6), ("arc", 8)]) (g := (gTup K 2 (gCons (gName 6) (gCons (gName 8) gNil)))) (tt := tYes) hu rfl nd rfl rfl (sw_dict rfl rfl rfl (by decide +kernel)) (pi_itemsT (k_fld (K := K) (pv 3) rfl)) (blkOk_by (by kernel_rfl)) (fun _ _ _ _ _ => by exact (pg_tup rfl (pgs_cons (pg_name (i := 6) nd rfl (by first | exact Or.inl rfl | exact Or.inr rfl)) (pgs_cons (pg_name (i := 8) nd rfl (by first | exact Or.inl rfl | exact Or.inr rfl)) pgs_nil)))) (fun _ _ _ _ _ => by exact pts_nil) (fun _ _ _ _ _ => by exact (pv 6)) (fun _ _ _ _ _ => by exact (k_fld (K := K) (pv 8) rfl))))
      (pss_cons (ps_set (i := 10) nd rfl (by first | exact Or.inl rfl | exact Or.inr rfl) pe_dnewT)
      (pss_cons (ps_for PassesOwn.never rfl (pi_zipTL rfl (Fx.free 105) (pa_cons (pv 2) (pa_cons (pv 4) pa_nil))) (pg_tup rfl (pgs_cons (pg_name (i := 11) nd rfl (by first | exact Or.inl rfl | exact Or.inr rfl)) (pgs_cons (pg_name (i := 12) nd rfl (by first | exact Or.inl rfl | exact Or.inr rfl)) pgs_nil))) (pss_one (ps_if (pt_cmpR op_eq (pe_ix (k_ix (K := K)) (pv 11) pe_int (fun _ _ => rfl)) pe_str (nomark _)) (pss_one (ps_dput hu (pv 10) (pe_tup (pa_cons (pe_ix (k_ix (K := K)) (pv 11) pe_int (fun _ _ => rfl)) (pa_cons (pe_ix (k_ix (K := K)) (pv 11) pe_int (fun _ _ => rfl)) pa_nil))) (pv 12) rfl)) (pss_one (ps_dput hu (pv 9) (pe_tup (pa_cons (pe_ix (k_ix (K := K)) (pv 11) pe_int (fun _ _ => rfl)) (pa_cons (pe_op op_sub (pe_ix (k_ix (K := K)) (pv 0) pe_int (fun _ _ => rfl)) pe_int) pa_nil))) (pv 12) rfl)))))
      (pss_cons (ps_set (i := 13) nd rfl (by first | exact Or.inl rfl | exact Or.inr rfl) (pe_callTy (k_tuple (K := K)) (by rfl) (Fx.free 101) (by decide +kernel) (pa_cons (pe_lc (own := [("number", 15)]) (g := (gName 15)) (tt := tYes) rfl nd (pi_range1 rfl (Fx.free 98) (pa_cons (pe_callB (k_len (K := K)) (by rfl) (Fx.free 97) PySem.boot_len (pa_cons (pv 1) pa_nil)) pa_nil)) (blkOk_by (by kernel_rfl)) (fun _ _ _ _ _ => by exact (pg_name (i := 15) nd rfl (by first | exact Or.inl rfl | exact Or.inr rfl))) (fun _ _ _ _ _ => by exact pts_nil) (fun _ _ _ _ _ => by exact (pe_callTy (k_tuple (K := K)) (by rfl) (Fx.free 101) (by decide +kernel) (pa_cons (pe_lc (own := [("month", 14)]) (g := (gName 14)) (tt := tYes) rfl nd (pi_range1 rfl (Fx.free 98) (pa_cons (pe_ix (k_ix (K := K)) (pv 0) pe_int (fun _ _ => rfl)) pa_nil)) (blkOk_by (by kernel_rfl)) (fun _ _ _ _ _ => by exact (pg_name (i := 14) nd rfl (by first | exact Or.inl rfl | exact Or.inr rfl))) (fun _ _ _ _ _ => by exact pts_nil) (fun _ _ _ _ _ => by exact (pe_dget hu (pv 10) (pe_tup (pa_cons (pv 15) (pa_cons (pv 14) pa_nil))) (fun _ _ => rfl)))) pa_nil)))) pa_nil)))
      (pss_one (ps_ret (pe_tup (pa_cons (pv 13) (pa_cons (k_cal (c_rows_of Fx) hr (by decide) rfl (pa_cons (pv 0) (pa_cons (pv 7) pa_nil))) (pa_cons (k_cal (c_rows_of Fx) hr (by decide) rfl (pa_cons (pv 0) (pa_cons (pv 9) pa_nil))) pa_nil)))))))))))))), fun ds μ Pq hS => ?_⟩
  obtain ⟨B, R, rfl, ok, rok, q⟩ := hS
  have cl := (Fx.cls 73)
  have cla := (Fx.cls 63)
  have hcl := claimsOf_len ok rok
  have h6 := ok.six
  refine q_set (ev_call (ea_cons (V' 0) (ea_cons (V' 1) ea_nil)) ⟨B, R, rfl, ok, rok.1, rfl, rfl⟩ mono_claims) ?_
  refine pw_seq (pw_asg (we_call ((ea_cons (V' 0) (ea_cons (V' 1) (ea_cons (ev_len (V' 2) (.inl rfl) (by rw [List.length_map])) ea_nil))).go ⟨B, R, rfl, ok, rok, fun n A F am μ1 sub1 hl hb hF hN N off => wg_tup rfl (wgs_cons (wg_name (wgs_cons (wg_name (wgs_nil ?_)))))⟩) mono_led))
  obtain ⟨f, rfl⟩ := list_fun (l := claimsOf B R) (am := am) 0 (claims_nodup B R) hl
  have hb' : ∀ c ∈ claimsOf B R, 0 ≤ f c ∧ f c ≤ claimSize B R c := fun c hc => by
    obtain ⟨i, hi⟩ := List.mem_iff_getElem?.mp hc
    exact hb i c (f c) hi (by rw [List.getElem?_map, hi]; rfl)
  -- both dicts of arcs
  refine pw_seq (pw_for (fun i ρ μ' => ∃ F' X', FlowOk B F' ∧ (∀ p, netF B F' p = netF B F p) ∧ (∀ c, c ∉ (ksOf B).map A → μ' c = μ1 c) ∧ Net K μ' n B A F' X' ∧ ∃ a5 a6, ρ = [some (basinD B), some (rightsD R), some (.tup ((claimsOf B R).map claimD)), some (.raw (.ref n.x)), some (.lst (((claimsOf B R).map f).map .int)), a5, a6, none, none, none, none, none, none, none, none, none]) ?_)
  refine wi_tupE (ev_tup (ea_cons (ev_fld (V' 3) N.S.ins cl (Fx.noat 77) rfl) (ea_cons (ev_fld (V' 3) N.S.ins cl (Fx.noat 76) rfl) ea_nil))) ⟨⟨F, _, hF, fun _ => rfl, fun _ _ => rfl, N, none, none, rfl⟩, fun _ _ _ _ => trivial, ?_, ?_⟩
  · rintro i d ρ μ2 hd ⟨F1, X1, hF1, hN1, fr1, N1, a5, a6, rfl⟩
    obtain ⟨kd, cs, ad, rfl, hkd, htab⟩ : ∃ (kd : Cell → Kind) (cs : List Cell) (ad : Addr), d = .raw (.ref ad) ∧ (∀ c ∈ cs, kd c ∈ ksOf B) ∧ ∀ F X μ', Net K μ' n B A F X → μ' ad = some (.dct (tblL (fun c => A (kd c)) cs)) := by
      match i, hd with
      | 0, hd =>
        cases hd
        refine ⟨.rel, relCells B B.cells, n.re, rfl, fun c hc => ?_, fun F X μ' N => N.re⟩
        obtain ⟨h1, h2⟩ := List.mem_filter.mp hc
        refine mem_kinds.mpr ⟨h1, ?_⟩
        unfold kindsOf Kind.cell
        rw [if_pos (c := B.letTo c ≠ none) (of_decide_eq_true h2)]; simp
      | 1, hd =>
        cases hd
        refine ⟨.sto, stoCells B B.cells, n.st, rfl, fun c hc => ?_, fun F X μ' N => N.st⟩
        obtain ⟨h1, h2⟩ := List.mem_filter.mp hc
        refine mem_kinds.mpr ⟨h1, ?_⟩
        unfold kindsOf Kind.cell
        rw [if_pos (of_decide_eq_true h2)]; simp
    refine wg_name (pw_for (fun j ρ μ' => ∃ F' X', FlowOk B F' ∧ (∀ p, netF B F' p = netF B F p) ∧ (∀ c, c ∉ (ksOf B).map A → μ' c = μ1 c) ∧ Net K μ' n B A F' X' ∧ ∃ a6, ρ = [some (basinD B), some (rightsD R), some (.tup ((claimsOf B R).map claimD)), some (.raw (.ref n.x)), some (.lst (((claimsOf B R).map f).map .int)), some (.raw (.ref ad)), a6, none, none, none, none, none, none, none, none, none]) ?_)
    refine wi_lstE (ev_call (ea_cons (V' 0) ea_nil) ⟨B, rfl, ok, rfl, rfl⟩ mono_cells) ⟨⟨F1, X1, hF1, hN1, fr1, N1, _, rfl⟩, fun _ _ _ _ => trivial, ?_, ?_⟩
    · rintro j d ρ μ3 hd2 ⟨F2, X2, hF2, hN2, fr2, N2, a6', rfl⟩
      rw [List.getElem?_map] at hd2
      cases hc : B.cells[j]? with
      | none => rw [hc] at hd2; cases hd2
      | some c =>
        rw [hc] at hd2; cases hd2
        refine wg_name (s_when (et_B (ev_din (V' (d := cellD c) 6) (V' 5) (.inr ⟨ad, rfl, htab _ _ _ N2⟩) (cellK_of c))) (fun h => ?_) (fun _ => ⟨F2, X2, hF2, hN2, fr2, N2, some (cellD c), rfl⟩))
        rw [look_tblL] at h
        have hcc : c ∈ cs := by
          by_cases z : c ∈ cs
          · exact z
          · rw [if_neg z] at h; cases h
        have hl2 : look (tblL (fun c => A (kd c)) cs) (cellK c) = some (.raw (.ref (A (kd c)))) := by rw [look_tblL, if_pos hcc]
        refine pw_drop (we_call ((ea_cons (V' 3) (ea_cons (ev_dget (V' 5) (V' (d := cellD c) 6) (.inr ⟨ad, rfl, htab _ _ _ N2⟩) (cellK_of c) hl2) ea_nil)).go ⟨n, B, A, F2, X2, kd c, rfl, ok, hkd c hcc, N2, hF2, fun F3 X3 μ4 b1 b2 b3 b4 => ⟨F3, X3, b1, fun p => by rw [b2 p, hN2 p], fun x hx => by rw [b3 x hx, fr2 x hx], b4, some (cellD c), rfl⟩⟩) mono_lessen)
    · rintro ρ μ3 ⟨F2, X2, hF2, hN2, fr2, N2, a6', rfl⟩
      exact ⟨F2, X2, hF2, hN2, fr2, N2, _, _, rfl⟩
  · rintro ρ μ2 ⟨F2, X2, hF2, hN2, fr2, N2, a5, a6, rfl⟩
    have sub2 : μ.sub μ2 := fun b o e => by rw [fr2 b (off b (by rw [e]; simp))]; exact sub1 b o e
    have hNN : ∀ c, netF B F2 (.cell c) = dueAt B R (claimsOf B R) ((claimsOf B R).map f) c := fun c => by rw [hN2, hN]
    have hrk : ∀ c ∈ relCells B B.cells, Kind.rel c ∈ ksOf B := fun c hc => by
      obtain ⟨h1, h2⟩ := List.mem_filter.mp hc
      refine mem_kinds.mpr ⟨h1, ?_⟩
      unfold kindsOf Kind.cell
      rw [if_pos (c := B.letTo c ≠ none) (of_decide_eq_true h2)]; simp
    have hsk : ∀ c ∈ stoCells B B.cells, Kind.sto c ∈ ksOf B := fun c hc => by
      obtain ⟨h1, h2⟩ := List.mem_filter.mp hc
      refine mem_kinds.mpr ⟨h1, ?_⟩
      unfold kindsOf Kind.cell
      rw [if_pos (of_decide_eq_true h2)]; simp
    have hrl : (relCells B B.cells).length ≤ 1000 := by
      have h1 := List.length_filter_le (fun c : Cell => decide (B.letTo c ≠ none)) B.cells
      rw [cells_len] at h1
      unfold relCells; omega
    have hsl : (stoCells B B.cells).length ≤ 1000 := by
      have h1 := List.length_filter_le (fun c : Cell => decide (c.2 + 1 < B.months)) B.cells
      rw [cells_len] at h1
      unfold stoCells; omega
    have nd2 := N2.S.nd
    simp only [List.nodup_cons, List.mem_cons, not_or] at nd2
    obtain ⟨⟨x1, x2, _⟩, _⟩ := nd2
    have up : ∀ {μ μ' : Mu} {T : Addr}, μ T = none → (∀ b, b ≠ T → μ' b = μ b) → μ.sub μ' := fun hT hfr b o e => by
      rw [hfr b (fun z => by rw [z, hT] at e; cases e)]; exact e
    refine pw_seq (show PW K (tAsg (tLockE _) _) _ _ _ from pw_asg (flow_items (kd := .rel) (p := n.re) cla (Fx.noat 68) N2 (by decide) (of_decide_eq_true rfl) (of_decide_eq_true rfl) (List.Pairwise.filter _ (cells_nodup B)) hrl hrk N2.re (fun μ' h => ev_fld (V' 3) ((h _ x2).trans N2.S.ins) cl (Fx.noat 77) rfl) fun D1 μ3 h1 fr3 T1 => wg_name ?_))
    have N3 := N2.fr (up h1 fr3)
    refine pw_seq (show PW K (tAsg (tLockE _) _) _ _ _ from pw_asg (flow_items (kd := .sto) (p := n.st) cla (Fx.noat 68) N3 (by decide) (of_decide_eq_true rfl) (of_decide_eq_true rfl) (List.Pairwise.filter _ (cells_nodup B)) hsl hsk N3.st (fun μ' h => ev_fld (V' 3) ((h _ x1).trans N3.S.ins) cl (Fx.noat 76) rfl) fun D2 μ4 h2 fr4 T2 => wg_name ?_))
    have d12 : D1 ≠ D2 := fun e => by
      obtain ⟨m, hm, _⟩ := T1
      rw [e, h2] at hm; cases hm
    have T1 := T1.fr (fr4 D1 d12)
    refine q_newD fun D3 h3 => ?_
    have d13 : D1 ≠ D3 := fun e => by
      obtain ⟨m, hm, _⟩ := T1
      rw [e, h3] at hm; cases hm
    have d23 : D2 ≠ D3 := fun e => by
      obtain ⟨m, hm, _⟩ := T2
      rw [e, h3] at hm; cases hm
    have T1 := T1.fr (Mu.upd_ne (μ := μ4) (o := .dct []) d13)
    have T2 := T2.fr (Mu.upd_ne (μ := μ4) (o := .dct []) d23)
    have sub5 : μ.sub (μ4.upd D3 (.dct [])) := ((sub2.trans (up h1 fr3)).trans (up h2 fr4)).trans (up h3 fun b hb => Mu.upd_ne hb)
    have of3 : ∀ b, μ b ≠ none → b ≠ D2 ∧ b ≠ D3 := fun b hb => by
      cases e : μ b with
      | none => exact absurd e hb
      | some o =>
        refine ⟨fun z => ?_, fun z => ?_⟩
        · have := (sub2.trans (up h1 fr3)) b o e
          rw [z, h2] at this; cases this
        · have := ((sub2.trans (up h1 fr3)).trans (up h2 fr4)) b o e
          rw [z, h3] at this; cases this
    refine pw_seq (pw_for (fun i ρ μ' => μ.sub μ' ∧ Tbl D.int μ' D1 (fun c => c ∈ relCells B B.cells) (fun c => F2 (.rel c)) 1000 ∧
        Tbl D.int μ' D2 (fun c => c ∈ stoCells B B.cells ∨ (c.2 = B.months - 1 ∧ Claim.room c.1 ∈ (claimsOf B R).take i)) (fun c => if c.2 + 1 < B.months then F2 (.sto c) else f (.room c.1)) (1000 + i) ∧
        Tbl D.int μ' D3 (fun c => Claim.right c.1 c.2 ∈ (claimsOf B R).take i) (fun c => f (.right c.1 c.2)) i ∧
        ∃ a11 a12, ρ = [some (basinD B), some (rightsD R), some (.tup ((claimsOf B R).map claimD)), some (.raw (.ref n.x)), some (.lst (((claimsOf B R).map f).map .int)), a5, a6, some (.raw (.ref D1)), none, some (.raw (.ref D2)), some (.raw (.ref D3)), a11, a12, none, none, none]) ?_)
    refine wi_zipTL (ea_cons (V' 2) (ea_cons (V' 4) ea_nil)) (by simp) ⟨⟨sub5, T1, ?_, ?_, _, _, rfl⟩, fun _ _ _ _ => trivial, ?_, ?_⟩
    · refine T2.cong (fun c => ⟨fun h => h.elim id fun h => (by cases h.2), .inl⟩) (fun c hc => ?_) (by omega)
      have := of_decide_eq_true (List.mem_filter.mp hc).2
      exact if_pos this
    · exact (Tbl.new (f := fun _ : Cell => (0 : Int))).cong (fun c => ⟨fun h => (by cases h), fun h => h.elim⟩) (fun _ h => h.elim) (Nat.le_refl _)
    · rintro i d ρ μ6 hd ⟨sub6, S1, S2, S3, a11, a12, rfl⟩
      obtain ⟨x, y, hx, hy, rfl⟩ := zipD_get hd
      rw [List.getElem?_map] at hx
      cases hc : (claimsOf B R)[i]? with
      | none => rw [hc] at hx; cases hx
      | some c =>
        rw [hc] at hx; cases hx
        rw [List.getElem?_map, List.getElem?_map, hc] at hy
        cases hy
        have hi := (List.getElem?_eq_some_iff.mp hc).1
        have htk : (claimsOf B R).take (i + 1) = (claimsOf B R).take i ++ [c] := by rw [List.take_succ, hc]; rfl
        have cok := claims_ok (List.mem_of_getElem? hc)
        rw [htk]
        refine wg_tup rfl (wgs_cons (wg_name (wgs_cons (wg_name (wgs_nil ?_)))))
        cases c with
        | right r m =>
          refine pw_ifE (et_test (ev_eqS (ev_ix (V' 11) ev_int) ev_str)) (fun _ => ?_) (fun h => absurd h (by decide +kernel))
          obtain ⟨tb, hm3, hz3, hk3⟩ := S3
          refine pw_dput ((V' 12).go ((V' 10).go ((ev_tup (ea_cons (ev_ix (V' 11) ev_int) (ea_cons (ev_ix (V' 11) ev_int) ea_nil))).go ⟨D3, tb, cellK (r, m), rfl, hm3, rfl, sz_lt (by omega), ?_, S1.fr (Mu.upd_ne d13), ?_, ?_, _, _, rfl⟩)))
          · exact fun b o e => by rw [Mu.upd_ne (of3 b (by rw [e]; simp)).2]; exact sub6 b o e
          · refine (S2.fr (Mu.upd_ne d23)).cong (fun x => ?_) (fun _ _ => rfl) (by omega)
            simp [List.mem_append]
          · refine (Tbl.put (c := (r, m)) (y := f (.right r m)) hz3 hk3).cong (fun x => ?_) (fun x _ => ?_) (by omega)
            · obtain ⟨x1, x2⟩ := x
              simp only [List.mem_append, List.mem_singleton, Claim.right.injEq, Prod.mk.injEq]
              exact Or.comm
            · by_cases z : x = (r, m)
              · rw [if_pos z, z]
              · rw [if_neg z]
        | room s =>
          have hm1 := ok.m1
          refine pw_ifE (et_test (ev_eqS (ev_ix (V' 11) ev_int) ev_str)) (fun h => absurd h (by decide +kernel)) (fun _ => ?_)
          obtain ⟨tb, hm2, hz2, hk2⟩ := S2
          have e2 : ((B.months - 1 : Nat) : Int) = (B.months : Int) - 1 := by omega
          have e3 : keysOf (.tup [.int (s : Int), .int ((B.months : Int) - 1)]) = some (cellK (s, B.months - 1)) := by rw [← e2]; rfl
          refine pw_dput ((V' 12).go ((V' 9).go ((ev_tup (ea_cons (ev_ix (V' 11) ev_int) (ea_cons (ev_sub (ev_ix (V' 0) ev_int) ev_int) ea_nil))).go ⟨D2, tb, cellK (s, B.months - 1), rfl, hm2, e3, sz_lt (by omega), ?_, S1.fr (Mu.upd_ne d12), ?_, ?_, _, _, rfl⟩)))
          · exact fun b o e => by rw [Mu.upd_ne (of3 b (by rw [e]; simp)).1]; exact sub6 b o e
          · refine (Tbl.put (c := (s, B.months - 1)) (y := f (.room s)) hz2 hk2).cong (fun x => ?_) (fun x _ => ?_) (by omega)
            · obtain ⟨x1, x2⟩ := x
              simp only [List.mem_append, List.mem_singleton, Claim.room.injEq, Prod.mk.injEq]
              constructor
              · rintro (h | ⟨h1, h2 | h2⟩)
                · exact .inr (.inl h)
                · exact .inr (.inr ⟨h1, h2⟩)
                · exact .inl ⟨h2, h1⟩
              · rintro (⟨h1, h2⟩ | h | ⟨h1, h2⟩)
                · exact .inr ⟨h2, .inr h1⟩
                · exact .inl h
                · exact .inr ⟨h1, .inl h2⟩
            · by_cases z : x = (s, B.months - 1)
              · rw [if_pos z, z, if_neg (by show ¬ (B.months - 1 + 1 < B.months); omega)]
              · rw [if_neg z]
          · refine (S3.fr (Mu.upd_ne (Ne.symm d23))).cong (fun x => ?_) (fun _ _ => rfl) (by omega)
            simp [List.mem_append]
    · rintro ρ μ6 ⟨sub6, S1, S2, S3, a11, a12, rfl⟩
      have hlen : (zipD ((claimsOf B R).map claimD) (((claimsOf B R).map f).map D.int)).length = (claimsOf B R).length := by simp [zipD]
      rw [hlen, List.take_length] at S2 S3
      have hm4 := ok.m4
      have hR3 := rok.1
      have inR : ∀ r m, r < R.length → m < B.months → Claim.right r m ∈ claimsOf B R := fun r m h1 h2 => by
        unfold claimsOf
        exact List.mem_append_left _ (List.mem_flatten.mpr ⟨_, List.mem_map.mpr ⟨r, List.mem_range.mpr h1, rfl⟩, List.mem_map.mpr ⟨m, List.mem_range.mpr h2, rfl⟩⟩)
      have inS : ∀ s, s < B.sites.length → Claim.room s ∈ claimsOf B R := fun s h1 => by
        unfold claimsOf
        exact List.mem_append_right _ (List.mem_map.mpr ⟨s, List.mem_range.mpr h1, rfl⟩)
      refine q_set (d := tabD (tabOf R.length B.months fun r m => f (.right r m))) ?_ ?_
      · rw [tabOf_D]
        refine ev_tupleOf (ev_lcR (n := R.length) (fun r => .tup ((List.range B.months).map fun m => .int (f (.right r m)))) (ea_cons (ev_len (V' 1) (.inl rfl)) ea_nil) (by omega) (fun r hr => ?_)) (.inl rfl)
        refine ev_tupleOf (ev_lcR (n := B.months) (fun m => .int (f (.right r m))) (ea_cons (ev_ix (V' 0) ev_int) ea_nil) (by omega) (fun m hm => ?_)) (.inl rfl)
        exact ev_tbl (g := D.int) (f := fun c => f (.right c.1 c.2)) (c := (r, m)) (V' 10) (ev_tup (ea_cons (V' 15) (ea_cons (V' 14) ea_nil))) (keys2 r m) S3 (inR r m hr hm)
      · refine pw_ret (we_tup (wa_cons ((V' 13).go (wa_cons (we_call ((ea_cons (V' 0) (ea_cons (V' 7) ea_nil)).go ⟨B, D1, _, _, _, rfl, ok, S1, fun t1 ht1 hg1 => wa_cons (we_call ((ea_cons (V' 0) (ea_cons (V' 9) ea_nil)).go ⟨B, D2, _, _, _, rfl, ok, S2, fun t2 ht2 hg2 => wa_nil ⟨sz_of (by simp), μ, sub6, ?_⟩⟩) mono_rows_of)⟩) mono_rows_of)))))
        refine q F2 f ⟨tabOf R.length B.months fun r m => f (.right r m), t1, t2⟩ hF2 hb' hNN ⟨⟨tabOf_tab, ht1, ht2⟩, fun r m h1 h2 => tabOf_get h1 h2, fun k m h1 h2 => ?_, fun k m h1 h2 => ?_⟩
        · have hin : (k, m) ∈ B.cells := mem_cells.mpr ⟨h1, h2⟩
          by_cases z : B.letTo (k, m) ≠ none
          · rw [if_pos z]
            exact (hg1 k m h1 h2).1 (List.mem_filter.mpr ⟨hin, decide_eq_true z⟩)
          · rw [if_neg z]
            exact (hg1 k m h1 h2).2 (fun y => z (of_decide_eq_true (List.mem_filter.mp y).2))
        · have hin : (k, m) ∈ B.cells := mem_cells.mpr ⟨h1, h2⟩
          refine (hg2 k m h1 h2).1 ?_
          by_cases z : m + 1 < B.months
          · exact .inl (List.mem_filter.mpr ⟨hin, decide_eq_true z⟩)
          · exact .inr ⟨by show m = B.months - 1; omega, inS k h1⟩
end
end Hw
set_option Elab.async false
set_option linter.all false
set_option maxRecDepth 100000
set_option maxHeartbeats 4000000
/-! Parcels of a right plan. -/
namespace Hw
open PySem PySem.Spec L2
def S0 : TrS := ⟨fun _ => [], fun _ => [], fun _ => [], fun _ => []⟩
def traceTo (B : Basin) (R : List Right) (p : Plan) (i : Nat) : TrS := (B.cells.take i).foldl (traceStep B R p) S0
def traceAll (B : Basin) (R : List Right) (p : Plan) : TrS := B.cells.foldl (traceStep B R p) S0
def lostOf (B : Basin) (S : TrS) (c : Cell) : Row := if B.letTo c = none then S.lts c else []
def parcelsD (B : Basin) (R : List Right) (S : TrS) : D := .tup [tupsD R.length B.months S.giv, .tup ((List.range B.sites.length).map fun k => .tup ((S.sto (k, B.months - 1)).map parD)), tupsD B.sites.length B.months S.spi, tupsD B.sites.length B.months (lostOf B S)]
def cellBefore (a b : Cell) : Prop := a.2 < b.2 ∨ (a.2 = b.2 ∧ a.1 < b.1)
theorem cells_order (B : Basin) : B.cells.Pairwise cellBefore := by
  unfold Basin.cells
  rw [List.pairwise_flatten]
  refine ⟨fun l hl => ?_, ?_⟩
  · obtain ⟨m, _, rfl⟩ := List.mem_map.mp hl
    exact List.Pairwise.map _ (fun a b h => .inr ⟨rfl, h⟩) (List.pairwise_lt_range (n := B.sites.length))
  · refine List.Pairwise.map _ (fun a b h x hx y hy => ?_) (List.pairwise_lt_range (n := B.months))
    obtain ⟨k, _, rfl⟩ := List.mem_map.mp hx
    obtain ⟨j, _, rfl⟩ := List.mem_map.mp hy
    exact .inl h
theorem take_before {B : Basin} {i : Nat} {c o : Cell} (hc : B.cells[i]? = some c) (ho : B.In o) (h : cellBefore o c) : o ∈ B.cells.take i := by
  obtain ⟨j, hj⟩ := List.mem_iff_getElem?.mp (mem_cells.mpr ho)
  have hji : j < i := by
    rcases Nat.lt_trichotomy j i with z | z | z
    · exact z
    · subst z
      rw [hc] at hj; cases hj
      rcases h with h | h <;> omega
    · have hp := cells_order B
      rw [List.pairwise_iff_getElem] at hp
      have h1 := (List.getElem?_eq_some_iff.mp hc)
      have h2 := (List.getElem?_eq_some_iff.mp hj)
      obtain ⟨l1, e1⟩ := h1
      obtain ⟨l2, e2⟩ := h2
      have := hp i j l1 l2 z
      rw [e1, e2] at this
      unfold cellBefore at h this
      omega
  exact List.mem_iff_getElem?.mpr ⟨j, by rw [List.getElem?_take_of_lt hji]; exact hj⟩
def rowB : Nat → Nat
  | 0 => 0
  | i + 1 => 3 * rowB i + 2
theorem rowB_mono : ∀ {i j : Nat}, i ≤ j → rowB i ≤ rowB j := fun {i j} h => by
  induction h with
  | refl => exact Nat.le_refl _
  | step _ ih => show _ ≤ 3 * rowB _ + 2; omega
structure RowsLe (S : TrS) (M : Nat) : Prop where
  giv : ∀ x, (S.giv x).length ≤ M
  lts : ∀ x, (S.lts x).length ≤ M
  sto : ∀ x, (S.sto x).length ≤ M
  spi : ∀ x, (S.spi x).length ≤ M
theorem flat_len {α β : Type} {f : α → List β} {M : Nat} : ∀ l : List α, (∀ x, (f x).length ≤ M) → (l.map f).flatten.length ≤ l.length * M
  | [], _ => by simp
  | a :: l, h => by
    have h1 := flat_len l h
    have h2 := h a
    rw [List.map_cons, List.flatten_cons, List.length_append, List.length_cons, Nat.succ_mul]; omega
theorem ups_len {B : Basin} {c : Cell} : (B.ups c).length ≤ c.1 := by
  unfold Basin.ups
  have := List.length_filterMap_le (fun j => if (B.at j).next = some c.1 ∧ (B.at j).travel ≤ c.2 then some (j, c.2 - (B.at j).travel) else none) (List.range c.1)
  rw [List.length_range] at this
  exact this
theorem rowIn_len {B : Basin} {S : TrS} {c : Cell} {M : Nat} (h : RowsLe S M) (hc : c.1 ≤ 2) : (rowIn B S c).length ≤ 3 * M + 2 := by
  unfold rowIn
  have h1 := flat_len (B.ups c) h.lts
  have h2 := ups_len (B := B) (c := c)
  have h3 : (B.ups c).length * M ≤ 2 * M := Nat.mul_le_mul (by omega) (Nat.le_refl _)
  rw [List.length_append, List.length_append]
  split
  · have := h.sto (c.1, c.2 - 1)
    show _ + _ + 1 ≤ _
    omega
  · show 1 + _ + 1 ≤ _
    omega
theorem updC_len {f : Rows} {c : Cell} {r : Row} {M N : Nat} (h : ∀ x, (f x).length ≤ M) (hr : r.length ≤ N) (hM : M ≤ N) : ∀ x, (updC f c r x).length ≤ N := fun x => by
  unfold updC
  split
  · exact hr
  · exact Nat.le_trans (h x) hM
theorem giveAll_giv {R : List Right} {p : Plan} {c : Cell} {s : Rows × Row} {N : Nat} (h : ∀ x, (s.1 x).length ≤ N) (hr : s.2.length ≤ N) : ∀ i, (∀ x, ((giveAll R p c s i).1 x).length ≤ N) ∧ (giveAll R p c s i).2.length ≤ N
  | 0 => ⟨h, hr⟩
  | i + 1 => by
    obtain ⟨h1, h2⟩ := giveAll_giv (R := R) (p := p) (c := c) h hr i
    rw [giveAll_succ]
    refine ⟨?_, Nat.le_trans giveStep_len h2⟩
    unfold giveStep
    split
    · refine updC_len h1 (Nat.le_trans (joinRow_len _) ?_) (Nat.le_refl _)
      rw [(partRow_len _ _).1]; exact h2
    · exact h1
theorem trace_le {B : Basin} {R : List Right} {p : Plan} {S : TrS} {c : Cell} {M : Nat} (h : RowsLe S M) (hc : c.1 ≤ 2) : RowsLe (traceStep B R p S c) (3 * M + 2) := by
  have h1 : (rowAt B S c).length ≤ 3 * M + 2 := Nat.le_trans (joinRow_len _) (rowIn_len h hc)
  have h2 := giveAll_giv (R := R) (p := p) (c := c) (s := (S.giv, rowAt B S c)) (N := 3 * M + 2) (fun x => Nat.le_trans (h.giv x) (by omega)) h1 R.length
  unfold traceStep
  generalize giveAll R p c (S.giv, rowAt B S c) R.length = g at h2
  have h3 := partRow_len g.2 (get2 p.rel c.1 c.2)
  have h4 := joinRow_len (partRow g.2 (get2 p.rel c.1 c.2)).front
  have h5 := joinRow_len (partRow g.2 (get2 p.rel c.1 c.2)).rest
  have h6 := partRow_len (joinRow (partRow g.2 (get2 p.rel c.1 c.2)).rest) (get2 p.sto c.1 c.2)
  have h7 := joinRow_len (partRow (joinRow (partRow g.2 (get2 p.rel c.1 c.2)).rest) (get2 p.sto c.1 c.2)).front
  have h8 := joinRow_len (partRow (joinRow (partRow g.2 (get2 p.rel c.1 c.2)).rest) (get2 p.sto c.1 c.2)).rest
  have h9 := h2.2
  exact ⟨h2.1, updC_len h.lts (by omega) (by omega), updC_len h.sto (by omega) (by omega), updC_len h.spi (by omega) (by omega)⟩
theorem traceTo_succ {B : Basin} {R : List Right} {p : Plan} {i : Nat} {c : Cell} (hc : B.cells[i]? = some c) : traceTo B R p (i + 1) = traceStep B R p (traceTo B R p i) c := foldl_take _ _ _ _ _ hc
theorem traceTo_le {B : Basin} (ok : B.Ok) {R : List Right} {p : Plan} : ∀ i, i ≤ B.cells.length → RowsLe (traceTo B R p i) (rowB i)
  | 0, _ => ⟨fun _ => Nat.le_refl _, fun _ => Nat.le_refl _, fun _ => Nat.le_refl _, fun _ => Nat.le_refl _⟩
  | i + 1, h => by
    have hc : B.cells[i]? = some (B.cells[i]'(by omega)) := List.getElem?_eq_getElem _
    generalize B.cells[i]'(by omega) = c at hc
    rw [traceTo_succ hc]
    have hin := mem_cells.mp (List.mem_of_getElem? hc)
    have h3 := ok.n3
    have h4 := hin.1
    exact trace_le (traceTo_le ok i (by omega)) (by omega)
section
variable {P : Program} {w : World} {K : PySem.W.Frag} {mg : Str → Option Value} {base : Heap}
theorem TrSt.cong {μ : Mu} {d : Ads} {dg dc dg' dc' : Cell → Prop} {S : TrS} {n n' : Nat} (h : TrSt μ d dg dc S n) (h1 : ∀ c, dg' c ↔ dg c) (h2 : ∀ c, dc' c ↔ dc c) (hn : n ≤ n') : TrSt μ d dg' dc' S n' :=
  ⟨h.g.cong h1 (fun _ _ => rfl) hn, h.l.cong h2 (fun _ _ => rfl) hn, h.s.cong h2 (fun _ _ => rfl) hn, h.sp.cong h2 (fun _ _ => rfl) hn⟩
theorem sc_parcels : FnScope ["basin", "rights", "plan", "tracing", "cell", "months", "sites", "lost", "given", "stored", "number"] ["basin", "rights", "plan"] (defScope s_parcels) := ⟨rfl, rfl, rfl, by decide +kernel, rfl, by decide +kernel, by decide +kernel⟩
-- parcels: 0 basin, 1 rights, 2 plan, 3 tracing, 4 cell, 5 months, 6 sites, 7 lost, 8 given, 9 stored, 10 number
def S_parcels : Spec := fun ds μ Q => ∃ (B : Basin) (R : List Right) (p : Plan), ds = [basinD B, rightsD R, planD p] ∧ B.Ok ∧ RightsOk B R ∧ p.Shape B R ∧ planFault B R p = none ∧ Q (parcelsD B R (traceAll B R p)) μ
theorem len_parcels : S_parcels.len 3 := fun ds μ Q h => by obtain ⟨_, _, _, rfl, _⟩ := h; rfl
theorem mono_parcels : Mono S_parcels := fun ds μ P P' f h => by obtain ⟨B, R, p, e, h1, h2, h3, h4, q⟩ := h; exact ⟨B, R, p, e, h1, h2, h3, h4, f _ _ q⟩
theorem c_parcels (Fx : Fx K mg) : Cal P w K mg base 9 "parcels" S_parcels := by
  have hlen : Spec.len S_parcels 3 := len_parcels
  obtain ⟨fd, F⟩ := Fx.c.def_ 20 (d := d_parcels) rfl
  refine ⟨_, fd, ["basin", "rights", "plan"], fnok F sc_parcels hlen (fun cdv A outer s H E hr => ?_), Fx.glo 16, F.kp, FunD.bindsN F fun _ _ _ _ _ _ us hl => match us, hl with | [_, _, _], _ => rfl⟩
  have hu := hu_of hr
  have nd := sc_parcels.nd
  refine ⟨_, (pss_cons (ps_if (pt_cmp (pc_notN (k_cal (c_plan_fault Fx) hr (by decide) rfl (pa_cons (pv 0) (pa_cons (pv 1) (pa_cons (pv 2) pa_nil)))))) (pss_one ps_never) pss_nil)
      (pss_cons (ps_set (i := 3) nd rfl (by first | exact Or.inl rfl | exact Or.inr rfl) (k_mak (m_Tracing Fx) hr (by decide) rfl (pa_cons (pv 0) (pa_cons (pv 1) (pa_cons (pv 2) pa_nil)))))
      (pss_cons (ps_for PassesOwn.never rfl (k_list_ (K := K) (k_cal (c_cells Fx) hr (by decide) rfl (pa_cons (pv 0) pa_nil))) (pg_name (i := 4) nd rfl (by first | exact Or.inl rfl | exact Or.inr rfl)) (pss_one (ps_expr (k_met (c_Tracing_trace Fx) hr (by decide) (pv 3) (pa_cons (pv 4) pa_nil)))))
      (pss_cons (ps_asg (pv 0) (pg_tup rfl (pgs_cons (pg_name (i := 5) nd rfl (by first | exact Or.inl rfl | exact Or.inr rfl)) (pgs_cons (pg_name (i := 6) nd rfl (by first | exact Or.inl rfl | exact Or.inr rfl)) pgs_nil))))
      (pss_cons (ps_setDcT (i := 7) (own := [("cell", 4)]) (g := (gName 4)) (tt := tYes) hu rfl nd rfl rfl (sw_dict rfl rfl rfl (by decide +kernel)) (k_list_ (K := K) (k_cal (c_cells Fx) hr (by decide) rfl (pa_cons (pv 0) pa_nil))) (blkOk_by (by kernel_rfl)) (fun _ _ _ _ _ => by exact (pg_name (i := 4) nd rfl (by first | exact Or.inl rfl | exact Or.inr rfl))) (fun _ _ _ _ _ => by exact pts_nil) (fun _ _ _ _ _ => by exact (pv 4)) (fun _ _ _ _ _ => by exact (k_met (c_Tracing_lost Fx) hr (by decide) (pv 3) (pa_cons (pv 4) pa_nil))))
      (pss_cons (ps_set (i := 8) nd rfl (by first | exact Or.inl rfl | exact Or.inr rfl) (k_cal (c_tuples Fx) hr (by decide) rfl (pa_cons (k_fld (K := K) (pv 3) rfl) (pa_cons (pe_callB (k_len (K := K)) (by rfl) (Fx.free 97) PySem.boot_len (pa_cons (pv 1) pa_nil)) (pa_cons (pv 5) pa_nil)))))
      (pss_cons (ps_set (i := 9) nd rfl (by first | exact Or.inl rfl | exact Or.inr rfl) (pe_callTy (k_tuple (K := K)) (by rfl) (Fx.free 101) (by decide +kernel) (pa_cons (pe_lc (own := [("number", 10)]) (g := (gName 10)) (tt := tYes) rfl nd (pi_range1 rfl (Fx.free 98) (pa_cons (pe_callB (k_len (K := K)) (by rfl) (Fx.free 97) PySem.boot_len (pa_cons (pv 6) pa_nil)) pa_nil)) (blkOk_by (by kernel_rfl)) (fun _ _ _ _ _ => by exact (pg_name (i := 10) nd rfl (by first | exact Or.inl rfl | exact Or.inr rfl))) (fun _ _ _ _ _ => by exact pts_nil) (fun _ _ _ _ _ => by exact (pe_callTy (k_tuple (K := K)) (by rfl) (Fx.free 101) (by decide +kernel) (pa_cons (pe_dget hu (k_fld (K := K) (pv 3) rfl) (pe_tup (pa_cons (pv 10) (pa_cons (pe_op op_sub (pv 5) pe_int) pa_nil))) (fun _ _ => rfl)) pa_nil)))) pa_nil)))
      (pss_one (ps_ret (pe_tup (pa_cons (pv 8) (pa_cons (pv 9) (pa_cons (k_cal (c_tuples Fx) hr (by decide) rfl (pa_cons (k_fld (K := K) (pv 3) rfl) (pa_cons (pe_callB (k_len (K := K)) (by rfl) (Fx.free 97) PySem.boot_len (pa_cons (pv 6) pa_nil)) (pa_cons (pv 5) pa_nil)))) (pa_cons (k_cal (c_tuples Fx) hr (by decide) rfl (pa_cons (pv 7) (pa_cons (pe_callB (k_len (K := K)) (by rfl) (Fx.free 97) PySem.boot_len (pa_cons (pv 6) pa_nil)) (pa_cons (pv 5) pa_nil)))) pa_nil)))))))))))))), fun ds μ Pq hS => ?_⟩
  obtain ⟨B, R, p, rfl, ok, rok, sh, hf, q⟩ := hS
  have cl := (Fx.cls 50)
  have h6 := ok.six
  have hcl : B.cells.length ≤ 6 := by rw [cells_len]; exact h6
  have hm1 := ok.m1
  refine q_when (et_B (ev_notN (ev_call (ea_cons (V' 0) (ea_cons (V' 1) (ea_cons (V' 2) ea_nil))) ⟨B, R, p, rfl, ok, rok, sh, rfl, rfl⟩ mono_plan_fault))) (fun z => by rw [hf] at z; cases z) (fun _ => ?_)
  refine pw_seq (pw_set (we_make ((ea_cons (V' 0) (ea_cons (V' 1) (ea_cons (V' 2) ea_nil))).go fun x hx => ⟨x, B, R, p, rfl, Mu.upd_same, fun d μ1 hdx hnew fr1 TI TS => ⟨rfl, ?_⟩⟩) mono_Tracing_init))
  subst hdx
  have sub1 : μ.sub μ1 := fun b o e => by
    have h1 : b ≠ d.x := fun z => by rw [z, hx] at e; cases e
    have h2 : ¬ d.new b := fun z => by
      have := hnew b z
      rw [Mu.upd_ne h1, e] at this; cases this
    rw [fr1 b h1 h2, Mu.upd_ne h1]; exact e
  have off : ∀ b o, μ b = some o → ¬ d.new b := fun b o e z => by
    have h1 : b ≠ d.x := fun y => by rw [y, hx] at e; cases e
    have := hnew b z
    rw [Mu.upd_ne h1, e] at this; cases this
  refine pw_seq (pw_for (fun i ρ μ' => (∀ b, ¬ d.new b → μ' b = μ1 b) ∧ TrIn K μ' d B R p ∧ TrSt μ' d (fun x => x.1 < R.length ∧ ((rAt R x.1).site, x.2) ∈ B.cells.take i) (fun x => x ∈ B.cells.take i) (traceTo B R p i) (10 * i) ∧ ∃ a, ρ = [some (basinD B), some (rightsD R), some (planD p), some (.raw (.ref d.x)), a, none, none, none, none, none, none]) ?_)
  refine wi_lstE (ev_call (ea_cons (V' 0) ea_nil) ⟨B, rfl, ok, rfl, rfl⟩ mono_cells) ⟨⟨fun _ _ => rfl, TI, TS.cong (fun c => ⟨fun h => (by cases h.2), fun h => h.elim⟩) (fun c => ⟨fun h => (by cases h), fun h => h.elim⟩) (Nat.le_refl _), none, rfl⟩, fun _ _ _ _ => trivial, ?_, ?_⟩
  · rintro i e ρ μ3 he ⟨fr, TI3, TS3, a, rfl⟩
    rw [List.getElem?_map] at he
    cases hc : B.cells[i]? with
    | none => rw [hc] at he; cases he
    | some c =>
      rw [hc] at he; cases he
      have hi := (List.getElem?_eq_some_iff.mp hc).1
      have hin : B.In c := mem_cells.mp (List.mem_of_getElem? hc)
      have htk : B.cells.take (i + 1) = B.cells.take i ++ [c] := by rw [List.take_succ, hc]; rfl
      have hR3 := rok.1
      have hc2 : c.1 ≤ 2 := by have h3 := ok.n3; have h4 := hin.1; omega
      have hlen : (rowIn B (traceTo B R p i) c).length ≤ 10000 := by
        have h1 := rowIn_len (B := B) (traceTo_le ok (R := R) (p := p) i (by omega)) hc2
        have h2 := rowB_mono (i := i) (j := 6) (by omega)
        have h3 : rowB 6 = 728 := rfl
        omega
      refine wg_name (pw_drop (we_meth ((V' 3).go ⟨d.x, _, rfl, TI3.ins, rfl, (ea_cons (V' 4) ea_nil).go ⟨d, B, R, p, traceTo B R p i, _, _, 10 * i, c, rfl, ok, rok, sh, hin, TI3, TS3, fun h => take_before hc ⟨hin.1, by show c.2 - 1 < B.months; have := hin.2; omega⟩ (.inl (by show c.2 - 1 < c.2; omega)), fun o ho => ?_, hlen, by omega, fun μ4 fr4 TI4 TS4 => ⟨fun b hb => by rw [fr4 b hb, fr b hb], TI4, ?_, some (cellD c), rfl⟩⟩⟩) mono_Tracing_trace))
      · have h1 := mem_letFrom.mp ((mem_ups ok hin).mp ho)
        obtain ⟨e1, e2, e3⟩ := letTo_some.mp h1.2
        have h2 := ((ok.s h1.1.1).next _ e1).1
        refine take_before hc h1.1 ?_
        unfold cellBefore
        omega
      · rw [traceTo_succ hc, htk]
        refine TS4.cong (fun x => ?_) (fun x => ?_) (by omega)
        · obtain ⟨x1, x2⟩ := x
          obtain ⟨c1, c2⟩ := c
          simp only [List.mem_append, List.mem_singleton, Prod.mk.injEq]
          constructor
          · rintro ⟨h1, h2 | ⟨h2, h3⟩⟩
            · exact .inl ⟨h1, h2⟩
            · exact .inr ⟨h3, h1, h2⟩
          · rintro (⟨h1, h2⟩ | ⟨h1, h2, h3⟩)
            · exact ⟨h1, .inl h2⟩
            · exact ⟨h2, .inr ⟨h3, h1⟩⟩
        · simp only [List.mem_append, List.mem_singleton]
          exact Or.comm
  · rintro ρ μ3 ⟨fr, TI3, TS3, a, rfl⟩
    have hall : traceTo B R p (B.cells.map cellD).length = traceAll B R p := by
      unfold traceTo traceAll
      rw [List.length_map, List.take_length]
    rw [hall, List.length_map, List.take_length] at TS3
    have sub3 : μ.sub μ3 := fun b o e => by rw [fr b (off b o e)]; exact sub1 b o e
    generalize traceAll B R p = S at TS3 q
    refine q_two (V' 0) rfl ?_
    refine pw_seq (pw_asg (we_dcT (fun i acc μ' => μ' = μ3 ∧ acc = (B.cells.take i).map fun c => (cellK c, rowD (lostOf B S c))) gok_name (wi_lstE (ev_call (ea_cons (V' 0) ea_nil) ⟨B, rfl, ok, rfl, rfl⟩ mono_cells) ⟨⟨rfl, rfl⟩, fun i acc μ' h => ⟨trivial, by rw [h.2, List.length_map, List.length_take]; omega⟩, sz_of (by rw [List.length_map]; omega), ?_, ?_⟩)))
    · rintro i e acc μ' he ⟨rfl, rfl⟩
      rw [List.getElem?_map] at he
      cases hc : B.cells[i]? with
      | none => rw [hc] at he; cases he
      | some c =>
        rw [hc] at he; cases he
        have hin : B.In c := mem_cells.mp (List.mem_of_getElem? hc)
        refine wg_name (WT.yes ⟨fun _ => (V' (d := cellD c) 4).go (we_meth ((V' 3).go ⟨d.x, _, rfl, TI3.ins, rfl, (ea_cons (V' 4) ea_nil).go ⟨d, B, R, p, S, _, _, _, c, rfl, ok, hin, TI3, TS3, List.mem_of_getElem? hc, cellK c, rfl, rfl, ?_⟩⟩) mono_Tracing_lost), fun h => by cases h⟩)
        have htk : B.cells.take (i + 1) = B.cells.take i ++ [c] := by rw [List.take_succ, hc]; rfl
        rw [htk, List.map_append, put_new]
        · rfl
        · rw [List.map_map]
          intro z
          obtain ⟨o, ho, eo⟩ := List.mem_map.mp z
          have eo := cellK_inj eo
          subst eo
          obtain ⟨j, hj⟩ := List.mem_iff_getElem?.mp ho
          have hji : j < i := by
            have := (List.getElem?_eq_some_iff.mp hj).1
            rw [List.length_take] at this; omega
          rw [List.getElem?_take_of_lt hji] at hj
          have := (List.getElem?_inj (List.getElem?_eq_some_iff.mp hj).1 (cells_nodup B)).mp (hj.trans hc.symm)
          omega
    · rintro acc μ' ⟨rfl, rfl⟩ T hT
      rw [List.length_map, List.take_length]
      have h4 := ok.m4
      have h5 := ok.n3
      have hR3 := rok.1
      have nT : ∀ b o, μ' b = some o → b ≠ T := fun b o e z => by rw [z, hT] at e; cases e
      obtain ⟨mg, hmg, _⟩ := TS3.g
      obtain ⟨ms, hms, _⟩ := TS3.s
      obtain ⟨mp, hmp, _⟩ := TS3.sp
      generalize hμ4 : μ'.upd T (.dct (B.cells.map fun c => (cellK c, rowD (lostOf B S c)))) = μ4
      have up : ∀ b o, μ' b = some o → μ4 b = some o := fun b o e => by rw [← hμ4, Mu.upd_ne (nT b o e)]; exact e
      have same : ∀ b o, μ' b = some o → μ4 b = μ' b := fun b o e => by rw [up b o e, e]
      have TI4 : TrIn K μ4 d B R p := TI3.fr (same _ _ TI3.ins)
      have Tg := TS3.g.fr (same _ _ hmg)
      have Ts := TS3.s.fr (same _ _ hms)
      have Tp := TS3.sp.fr (same _ _ hmp)
      have Tl : Tbl rowD μ4 T (fun c => c ∈ B.cells) (lostOf B S) 1000 := by
        refine ⟨_, by rw [← hμ4, Mu.upd_same], by rw [List.length_map]; omega, fun c => ⟨fun h => ?_, fun h => ?_⟩⟩
        · rw [look_cells, if_pos h]
        · rw [look_cells, if_neg h]
      have inC : ∀ k m, k < B.sites.length → m < B.months → (k, m) ∈ B.cells := fun k m h1 h2 => mem_cells.mpr ⟨h1, h2⟩
      refine wg_name ?_
      refine q_set (ev_call (ea_cons (ev_fld (V' 3) TI4.ins cl (Fx.noat 55) rfl) (ea_cons (ev_len (V' 1) (.inl rfl)) (ea_cons (V' 5) ea_nil))) ⟨d.g, R.length, B.months, _, _, _, rfl, by omega, by omega, Tg, fun r m h1 h2 => ⟨h1, inC _ _ (rok.at h1).site h2⟩, rfl, rfl⟩ mono_tuples) ?_
      refine q_set (d := .tup ((List.range B.sites.length).map fun k => .tup ((S.sto (k, B.months - 1)).map parD))) (ev_tupleOf (ev_lcR (n := B.sites.length) (fun k => .tup ((S.sto (k, B.months - 1)).map parD)) (ea_cons (ev_len (V' 6) (.inl rfl)) ea_nil) (by omega) (fun k hk => ?_)) (.inl rfl)) ?_
      · have e2 : ((B.months - 1 : Nat) : Int) = (B.months : Int) - 1 := by omega
        have e3 : keysOf (.tup [.int (k : Int), .int ((B.months : Int) - 1)]) = some (cellK (k, B.months - 1)) := by rw [← e2]; rfl
        exact ev_tupleOf (ev_tbl (ev_fld (V' 3) TI4.ins cl (Fx.noat 57) rfl) (ev_tup (ea_cons (V' 10) (ea_cons (ev_sub (V' 5) ev_int) ea_nil))) e3 Ts (inC _ _ hk (by omega))) (.inl rfl)
      refine s_retS (ev_tup (ea_cons (V' 8) (ea_cons (V' 9) (ea_cons (ev_call (ea_cons (ev_fld (V' 3) TI4.ins cl (Fx.noat 58) rfl) (ea_cons (ev_len (V' 6) (.inl rfl)) (ea_cons (V' 5) ea_nil))) ⟨d.sp, B.sites.length, B.months, _, _, _, rfl, by omega, by omega, Tp, inC, rfl, rfl⟩ mono_tuples) (ea_cons (ev_call (ea_cons (V' 7) (ea_cons (ev_len (V' 6) (.inl rfl)) (ea_cons (V' 5) ea_nil))) ⟨T, B.sites.length, B.months, _, _, _, rfl, by omega, by omega, Tl, inC, rfl, rfl⟩ mono_tuples) ea_nil))))) (fun b o e => up b o (sub3 b o e)) q
end
end Hw
set_option Elab.async false
set_option linter.all false
set_option maxRecDepth 100000
set_option maxHeartbeats 4000000
/-! The law's own look: joined, used, cells, receives, plan_fault. -/
namespace Hw
open PySem PySem.Spec L2
def RowNN (r : Row) : Prop := ∀ p ∈ r, 0 ≤ p.2
theorem joinStep_pos {acc : Row} {p : Org × Int} (ha : ∀ q ∈ acc, 0 < q.2) : ∀ q ∈ joinStep acc p, 0 < q.2 := by
  unfold joinStep
  split
  · rename_i h0
    cases hl : acc.getLast? with
    | none => intro q hq; rcases List.mem_append.mp hq with z | z; exact ha q z; rw [List.mem_singleton] at z; rw [z]; exact h0
    | some l =>
      simp only
      have hlm : l ∈ acc := List.mem_of_getLast? hl
      split
      · intro q hq
        rcases List.mem_append.mp hq with z | z
        · exact ha q ((List.dropLast_sublist acc).subset z)
        · rw [List.mem_singleton] at z; rw [z]
          have := ha l hlm
          show 0 < l.2 + p.2; omega
      · intro q hq
        rcases List.mem_append.mp hq with z | z
        · exact ha q z
        · rw [List.mem_singleton] at z; rw [z]; exact h0
  · exact ha
theorem joinRow_pos (r : Row) : ∀ q ∈ joinRow r, 0 < q.2 := by
  have : ∀ (r acc : Row), (∀ q ∈ acc, 0 < q.2) → ∀ q ∈ r.foldl joinStep acc, 0 < q.2 := fun r => by
    induction r with
    | nil => intro acc h; exact h
    | cons p r ih => intro acc h; exact ih _ (joinStep_pos h)
  exact this r [] (fun q hq => by cases hq)
theorem joinRow_nn (r : Row) : RowNN (joinRow r) := fun q hq => by have := joinRow_pos r q hq; omega
theorem partRow_nn {r : Row} {a : Int} (hr : RowNN r) (ha : 0 ≤ a) : RowNN (partRow r a).front ∧ RowNN (partRow r a).rest ∧ 0 ≤ (partRow r a).left := by
  have : ∀ (r : Row) (s : Parts), RowNN r → RowNN s.front → RowNN s.rest → 0 ≤ s.left → RowNN (r.foldl partStep s).front ∧ RowNN (r.foldl partStep s).rest ∧ 0 ≤ (r.foldl partStep s).left := fun r => by
    induction r with
    | nil => intro s _ h1 h2 h3; exact ⟨h1, h2, h3⟩
    | cons p r ih =>
      intro s hr h1 h2 h3
      have hp := hr p (List.mem_cons_self ..)
      refine ih (partStep s p) (fun q hq => hr q (List.mem_cons_of_mem _ hq)) ?_ ?_ ?_
      · intro q hq
        rcases List.mem_append.mp hq with z | z
        · exact h1 q z
        · rw [List.mem_singleton] at z; rw [z]; show 0 ≤ min p.2 s.left; omega
      · intro q hq
        rcases List.mem_append.mp hq with z | z
        · exact h2 q z
        · rw [List.mem_singleton] at z; rw [z]; show 0 ≤ p.2 - min p.2 s.left; omega
      · show 0 ≤ s.left - min p.2 s.left; omega
  exact this r ⟨[], [], a⟩ hr (fun q hq => by cases hq) (fun q hq => by cases hq) ha
section
variable {P : Program} {w : World} {K : PySem.W.Frag} {mg : Str → Option Value} {base : Heap}
theorem wg_unl {ρ : List (Option D)} {μ : Mu} {Ψ : List (Option D) → Mu → Prop} {gs : TGs} {ds : List D} {n : Nat} (hn : ds.length = n) (h : WGs K gs ds ρ μ Ψ) : WG K (gUnl K n gs) (.lst ds) ρ μ Ψ := fun G0 H0 G H σ v A i Q q => by
  obtain ⟨a, xs, rfl, e, l⟩ := i
  exact ⟨a, xs, rfl, SqL.of (A.gh _ _ e), by rw [l.len]; exact hn, h G0 H0 G H σ xs A l Q q⟩
theorem sc_law_joined : FnScope ["_law_row", "_law_found", "_law_origin", "_law_amount"] ["_law_row"] (defScope s_law_joined) := ⟨rfl, rfl, rfl, by decide +kernel, rfl, by decide +kernel, by decide +kernel⟩
-- _law_joined: 0 _law_row, 1 _law_found, 2 _law_origin, 3 _law_amount
def S_law_joined : Spec := fun ds μ Q => ∃ (r : Row), ds = [rowD r] ∧ r.length ≤ 10000 ∧ RowNN r ∧ Q (rowD (joinRow r)) μ
theorem len_law_joined : S_law_joined.len 1 := fun ds μ Q h => by obtain ⟨_, rfl, _⟩ := h; rfl
theorem mono_law_joined : Mono S_law_joined := fun ds μ P P' f h => by obtain ⟨r, e, h, h2, q⟩ := h; exact ⟨r, e, h, h2, f _ _ q⟩
theorem c_law_joined (Fx : Fx K mg) : Cal P w K mg base 1 "_law_joined" S_law_joined := by
  have hlen : Spec.len S_law_joined 1 := len_law_joined
  obtain ⟨fd, F⟩ := Fx.c.def_ 51 (d := d_law_joined) rfl
  refine ⟨_, fd, ["_law_row"], fnok F sc_law_joined hlen (fun cdv A outer s H E hr => ?_), Fx.glo 33, F.kp, FunD.bindsN F fun _ _ _ _ _ _ us hl => match us, hl with | [_], _ => rfl⟩
  have hu := hu_of hr
  have nd := sc_law_joined.nd
  refine ⟨_, (pss_cons (ps_set (i := 1) nd rfl (by first | exact Or.inl rfl | exact Or.inr rfl) (pe_lst pa_nil))
      (pss_cons (ps_for PassesOwn.never rfl (k_list_ (K := K) (pv 0)) (pg_tup rfl (pgs_cons (pg_name (i := 2) nd rfl (by first | exact Or.inl rfl | exact Or.inr rfl)) (pgs_cons (pg_name (i := 3) nd rfl (by first | exact Or.inl rfl | exact Or.inr rfl)) pgs_nil))) (pss_one (ps_if (PW.pt (pw_and (pt_cmpR op_gt (pe_callB (k_len (K := K)) (by rfl) (Fx.free 97) PySem.boot_len (pa_cons (pv 1) pa_nil)) pe_int (nomark _)) (pw_and1 (pt_cmpR (k_eqD (K := K) hr.units) (pe_ix (k_ix (K := K)) (pe_ix (k_ix (K := K)) (pv 1) (pe_un un_neg pe_int) (fun _ _ => rfl)) pe_int (fun _ _ => rfl)) (pv 2) (nomark _))))) (pss_one (ps_asg (pe_tup (pa_cons (pv 2) (pa_cons (pe_op op_add (pe_ix (k_ix (K := K)) (pe_ix (k_ix (K := K)) (pv 1) (pe_un un_neg pe_int) (fun _ _ => rfl)) pe_int (fun _ _ => rfl)) (pv 3)) pa_nil))) (pg_sub (pv 1) (pe_un un_neg pe_int) set_list))) (pss_one (ps_if (pt_cmpR op_gt (pv 3) pe_int (nomark _)) (pss_one (ps_expr (pe_bm PySem.F.plainAttrs_list PySem.F.slot_list_append PySem.F.type_list_append mt_append (pv 1) (pa_cons (pe_tup (pa_cons (pv 2) (pa_cons (pv 3) pa_nil))) pa_nil)))) pss_nil)))))
      (pss_one (ps_ret (pv 1))))), fun ds μ Pq hS => ?_⟩
  obtain ⟨r, rfl, hr, hnn, q⟩ := hS
  refine q_new fun a ha => ?_
  refine pw_seq (pw_for (fun i ρ μ' => μ' = μ.upd a (.lst ((joinRow (r.take i)).map parD)) ∧ ∃ b c, ρ = [some (rowD r), some (.raw (.ref a)), b, c]) ?_)
  refine wi_lstE (V' (d := rowD r) 0) ⟨⟨rfl, _, _, rfl⟩, fun _ _ _ _ => trivial, ?_, ?_⟩
  · rintro i d ρ μ3 hd ⟨rfl, b, c, rfl⟩
    rw [List.getElem?_map] at hd
    cases hp : r[i]? with
    | none => rw [hp] at hd; cases hd
    | some p =>
      rw [hp] at hd; cases hd
      obtain ⟨o, am⟩ := p
      have hj : joinRow (r.take (i + 1)) = joinStep (joinRow (r.take i)) (o, am) := foldl_take _ _ _ _ _ hp
      have h0am : 0 ≤ am := hnn _ (List.mem_of_getElem? hp)
      have hlen : (joinRow (r.take i)).length < 100000 := by
        have h1 := joinRow_len (r.take i)
        rw [List.length_take] at h1
        omega
      generalize joinRow (r.take i) = acc at hj hlen
      rw [hj]
      refine wg_tup rfl (wgs_cons (wg_name (wgs_cons (wg_name (wgs_nil ?_)))))
      refine PW.to (ρ' := [some (rowD r), some (.raw (.ref a)), some (orgD o), some (.int am)]) (μ' := μ.upd a (.lst ((joinStep acc (o, am)).map parD))) ?_ ⟨rfl, _, _, rfl⟩
      have elf : (0 < am → joinStep acc (o, am) = acc ++ [(o, am)]) → (¬ 0 < am → joinStep acc (o, am) = acc) → PW K (tIfS (tTest (tOp (rI0 fun i j => .bl (decide (j < i))) (tVar 3) (tC (.int 0)))) (tDrop (tBM K "list" rAppend (tVar 1) (tCons (tTup (tCons (tVar 2) (tCons (tVar 3) tNil))) tNil))) tNext) [some (rowD r), some (.raw (.ref a)), some (orgD o), some (.int am)] (μ.upd a (.lst (acc.map parD))) (fun o' => o' = .nx [some (rowD r), some (.raw (.ref a)), some (orgD o), some (.int am)] (μ.upd a (.lst ((joinStep acc (o, am)).map parD)))) := fun e1 e2 => by
        refine pw_ifE (et_test (ev_gt (V' 3) ev_int)) (fun h => ?_) (fun h => pw_next ?_)
        · rw [e1 (of_decide_eq_true h)]
          refine s_app (ds := acc.map parD) (V' 1) Mu.upd_same (ev_tup (ea_cons (V' 2) (ea_cons (V' 3) ea_nil))) (sz_lt (by rw [List.length_map]; exact hlen)) ?_
          rw [Mu.upd_upd, List.map_append]; rfl
        · rw [e2 (of_decide_eq_false h)]
      have off0 : ¬ 0 < am → joinStep acc (o, am) = acc := fun h => by unfold joinStep; rw [if_neg h]
      rcases nil_or_snoc acc with e | ⟨ini, l, e⟩
      · subst e
        have t0 : EvT K (tTest (tOp (rI0 fun i j => .bl (decide (j < i))) (tCB (rLen K) (tCons (tVar 1) tNil)) (tC (.int 0)))) [some (rowD r), some (.raw (.ref a)), some (orgD o), some (.int am)] (μ.upd a (.lst (([] : Row).map parD))) false := by
          have := et_test (ev_gt (ev_len (n := 0) (V' (K := K) (ρ := [some (rowD r), some (.raw (.ref a)), some (orgD o), some (.int am)]) (μ := μ.upd a (.lst (([] : Row).map parD))) 1) (.inr (.inr (.inr ⟨a, rfl, Mu.upd_same⟩))) rfl) (ev_int (i := 0)))
          exact this
        refine pw_ifE (b := false && false) (et_and t0 (fun h => by cases h)) (fun h => by cases h) (fun _ => elf (fun h => ?_) off0)
        unfold joinStep
        rw [if_pos h]; rfl
      · subst e
        have hm : (μ.upd a (.lst ((ini ++ [l]).map parD))) a = some (.lst (ini.map parD ++ [parD l])) := by rw [Mu.upd_same, List.map_append]; rfl
        have last : Ev K (tOp (rIx K) (tVar 1) (tUn (rU fun i => .int (-i)) (tC (.int 1)))) [some (rowD r), some (.raw (.ref a)), some (orgD o), some (.int am)] (μ.upd a (.lst ((ini ++ [l]).map parD))) (parD l) := ev_ixC (V' 1) (ev_neg ev_int) hm (atI_last _ _)
        have t1 : EvT K (tTest (tOp (rI0 fun i j => .bl (decide (j < i))) (tCB (rLen K) (tCons (tVar 1) tNil)) (tC (.int 0)))) [some (rowD r), some (.raw (.ref a)), some (orgD o), some (.int am)] (μ.upd a (.lst ((ini ++ [l]).map parD))) true := by
          have := et_test (ev_gt (ev_len (n := ini.length + 1) (V' (K := K) (ρ := [some (rowD r), some (.raw (.ref a)), some (orgD o), some (.int am)]) (μ := μ.upd a (.lst ((ini ++ [l]).map parD))) 1) (.inr (.inr (.inr ⟨a, rfl, hm⟩))) (by simp)) (ev_int (i := 0)))
          have e : decide ((0 : Int) < ((ini.length + 1 : Nat) : Int)) = true := decide_eq_true (by omega)
          rw [e] at this
          exact this
        refine pw_ifE (b := true && decide (l.1 = o)) (et_and t1 (fun _ => et_test (ev_eqD (ev_ix last ev_int) (V' 2) (eqv_org _ _) (ok_org _) (ok_org _) (sh_org _) (sh_org _)))) (fun h => ?_) (fun h => elf (fun h0 => ?_) off0)
        · have h1 : l.1 = o := by simpa using h
          have es : joinStep (ini ++ [l]) (o, am) = ini ++ [(o, l.2 + am)] := by
            unfold joinStep
            by_cases h0 : 0 < am
            · rw [if_pos h0, List.getLast?_concat]
              simp [h1]
            · have : am = 0 := by omega
              subst this
              rw [if_neg h0, Int.add_zero, ← h1]
          rw [es]
          refine pw_asg (Ev.go (ev_tup (ea_cons (V' 2) (ea_cons (ev_add (ev_ix last ev_int) (V' 3)) ea_nil))) (wg_subL (Ev.go (V' 1) (Ev.go (ev_neg ev_int) ⟨a, _, _, _, rfl, rfl, hm, ixN_last _ _, ?_⟩))))
          rw [Mu.upd_upd, List.length_map, ← List.length_map (f := parD), set_last, List.map_append]; rfl
        · have h1 : ¬ l.1 = o := by simpa using h
          unfold joinStep
          rw [if_pos h0, List.getLast?_concat]
          simp [h1]
  · rintro ρ μ3 ⟨rfl, b, c, rfl⟩
    rw [List.length_map, List.take_length]
    exact pw_freezeL (i := 1) rfl Mu.upd_same (s_retS (V' 1) (Mu.sub_off ha) q)
theorem sc_law_used : FnScope ["_law_row", "_law_amount", "_law_front", "_law_left", "_law_origin", "_law_many", "_law_part"] ["_law_row", "_law_amount"] (defScope s_law_used) := ⟨rfl, rfl, rfl, by decide +kernel, rfl, by decide +kernel, by decide +kernel⟩
-- _law_used: 0 _law_row, 1 _law_amount, 2 _law_front, 3 _law_left, 4 _law_origin, 5 _law_many, 6 _law_part
def S_law_used : Spec := fun ds μ Q => ∃ (r : Row) (am : Int), ds = [rowD r, .int am] ∧ r.length ≤ 10000 ∧ RowNN r ∧ 0 ≤ am ∧ Q (.lst [rowD (joinRow (partRow r am).front), rowD (joinRow (partRow r am).rest)]) μ
theorem len_law_used : S_law_used.len 2 := fun ds μ Q h => by obtain ⟨_, _, rfl, _⟩ := h; rfl
theorem mono_law_used : Mono S_law_used := fun ds μ P P' f h => by obtain ⟨r, a, e, h, h2, h3, q⟩ := h; exact ⟨r, a, e, h, h2, h3, f _ _ q⟩
theorem c_law_used (Fx : Fx K mg) : Cal P w K mg base 2 "_law_used" S_law_used := by
  have hlen : Spec.len S_law_used 2 := len_law_used
  obtain ⟨fd, F⟩ := Fx.c.def_ 52 (d := d_law_used) rfl
  refine ⟨_, fd, ["_law_row", "_law_amount"], fnok F sc_law_used hlen (fun cdv A outer s H E hr => ?_), Fx.glo 34, F.kp, FunD.bindsN F fun _ _ _ _ _ _ us hl => match us, hl with | [_, _], _ => rfl⟩
  have hu := hu_of hr
  have nd := sc_law_used.nd
  refine ⟨_, (pss_cons (ps_set (i := 2) nd rfl (by first | exact Or.inl rfl | exact Or.inr rfl) (pe_lst pa_nil))
      (pss_cons (ps_set (i := 3) nd rfl (by first | exact Or.inl rfl | exact Or.inr rfl) (pe_lst pa_nil))
      (pss_cons (ps_for PassesOwn.never rfl (k_list_ (K := K) (pv 0)) (pg_tup rfl (pgs_cons (pg_name (i := 4) nd rfl (by first | exact Or.inl rfl | exact Or.inr rfl)) (pgs_cons (pg_name (i := 5) nd rfl (by first | exact Or.inl rfl | exact Or.inr rfl)) pgs_nil))) (pss_cons (ps_set (i := 6) nd rfl (by first | exact Or.inl rfl | exact Or.inr rfl) (pe_callB (call_minA rfl) (by rfl) (Fx.free 103) (by decide +kernel) (pa_cons (pv 5) (pa_cons (pv 1) pa_nil))))
      (pss_cons (ps_set (i := 1) nd rfl (by first | exact Or.inl rfl | exact Or.inr rfl) (pe_op op_sub (pv 1) (pv 6)))
      (pss_cons (ps_expr (pe_bm PySem.F.plainAttrs_list PySem.F.slot_list_append PySem.F.type_list_append mt_append (pv 2) (pa_cons (pe_tup (pa_cons (pv 4) (pa_cons (pv 6) pa_nil))) pa_nil)))
      (pss_one (ps_expr (pe_bm PySem.F.plainAttrs_list PySem.F.slot_list_append PySem.F.type_list_append mt_append (pv 3) (pa_cons (pe_tup (pa_cons (pv 4) (pa_cons (pe_op op_sub (pv 5) (pv 6)) pa_nil))) pa_nil))))))))
      (pss_one (ps_ret (pe_lst (pa_cons (k_cal (c_law_joined Fx) hr (by decide) rfl (pa_cons (pv 2) pa_nil)) (pa_cons (k_cal (c_law_joined Fx) hr (by decide) rfl (pa_cons (pv 3) pa_nil)) pa_nil)))))))), fun ds μ Pq hS => ?_⟩
  obtain ⟨r, am, rfl, hr, hnn, h0, q⟩ := hS
  refine q_new fun a ha => q_new fun b hb => ?_
  have hab : a ≠ b := fun e => by rw [← e, Mu.upd_same] at hb; cases hb
  have hb0 : μ b = none := by rw [Mu.upd_ne (Ne.symm hab)] at hb; exact hb
  refine pw_seq (pw_for (fun i ρ μ' => μ' = (μ.upd a (.lst ((partRow (r.take i) am).front.map parD))).upd b (.lst ((partRow (r.take i) am).rest.map parD)) ∧ ∃ u v x, ρ = [some (rowD r), some (.int (partRow (r.take i) am).left), some (.raw (.ref a)), some (.raw (.ref b)), u, v, x]) ?_)
  refine wi_lstE (V' (d := rowD r) 0) ⟨⟨rfl, _, _, _, rfl⟩, fun _ _ _ _ => trivial, ?_, ?_⟩
  · rintro i d ρ μ3 hd ⟨rfl, u, v, x, rfl⟩
    rw [List.getElem?_map] at hd
    cases hp : r[i]? with
    | none => rw [hp] at hd; cases hd
    | some p =>
      rw [hp] at hd; cases hd
      obtain ⟨o, z⟩ := p
      have hj : partRow (r.take (i + 1)) am = partStep (partRow (r.take i) am) (o, z) := foldl_take _ _ _ _ _ hp
      have hlen := partRow_len (r.take i) am
      rw [List.length_take] at hlen
      generalize partRow (r.take i) am = s at hj hlen
      rw [hj]
      refine wg_tup rfl (wgs_cons (wg_name (wgs_cons (wg_name (wgs_nil ?_)))))
      refine q_set (ev_min2 (V' 5) (V' 1)) (q_set (ev_sub (V' 1) (V' 6)) ?_)
      refine q_app (ds := s.front.map parD) (V' 2) (by rw [Mu.upd_ne hab, Mu.upd_same]) (ev_tup (ea_cons (V' 4) (ea_cons (V' 6) ea_nil))) (sz_lt (by rw [List.length_map]; omega)) ?_
      refine s_app (ds := s.rest.map parD) (V' 3) (by rw [Mu.upd_ne (Ne.symm hab), Mu.upd_same]) (ev_tup (ea_cons (V' 4) (ea_cons (ev_sub (V' 5) (V' 6)) ea_nil))) (sz_lt (by rw [List.length_map]; omega)) ?_
      refine ⟨?_, _, _, _, rfl⟩
      rw [Mu.upd_comm (Ne.symm hab), Mu.upd_upd, Mu.upd_upd]
      show _ = (μ.upd a (.lst ((s.front ++ [(o, min z s.left)]).map parD))).upd b (.lst ((s.rest ++ [(o, z - min z s.left)]).map parD))
      rw [List.map_append, List.map_append]; rfl
  · rintro ρ μ3 ⟨rfl, u, v, x, rfl⟩
    rw [List.length_map, List.take_length]
    have hlen := partRow_len r am
    have hpn := partRow_nn hnn h0
    refine pw_freezeL (i := 3) rfl Mu.upd_same (pw_freezeL (i := 2) (a := a) (ds := (partRow r am).front.map parD) rfl ?_ ?_)
    · rw [if_neg hab, Mu.upd_ne hab, Mu.upd_same]
    refine s_retS (ev_lst (ea_cons (ev_call (ea_cons (V' (d := rowD (partRow r am).front) 2) ea_nil) ⟨_, rfl, by omega, hpn.1, rfl, rfl⟩ mono_law_joined) (ea_cons (ev_call (ea_cons (V' (d := rowD (partRow r am).rest) 3) ea_nil) ⟨_, rfl, by omega, hpn.2.1, rfl, rfl⟩ mono_law_joined) ea_nil))) ?_ q
    intro c o e
    have h1 : c ≠ a := fun z => by rw [z, ha] at e; cases e
    have h2 : c ≠ b := fun z => by rw [z, hb0] at e; cases e
    show (if c = a then none else if c = b then none else _) = some o
    rw [if_neg h1, if_neg h2, Mu.upd_ne h2, Mu.upd_ne h1]; exact e
end
end Hw
set_option Elab.async false
set_option linter.all false
set_option maxRecDepth 100000
set_option maxHeartbeats 4000000
/-! The law's look at plans. -/
namespace Hw
open PySem PySem.Spec L2
def upTerm (B : Basin) (p : Plan) (c : Cell) (j : Nat) : Int := if (B.at j).next = some c.1 ∧ (B.at j).travel ≤ c.2 then get2 p.rel j (c.2 - (B.at j).travel) else 0
theorem sum_fm {α : Type} {f : Nat → Option α} {g : α → Int} : ∀ l : List Nat, ((l.filterMap f).map g).sum = (l.map fun j => match f j with
  | some x => g x
  | none => 0).sum
  | [] => rfl
  | a :: l => by
    rw [List.map_cons, List.sum_cons, ← sum_fm l, List.filterMap_cons]
    cases f a with
    | none => simp
    | some x => simp
theorem perm_sum {l m : List Int} (h : l.Perm m) : l.sum = m.sum := by
  induction h with
  | nil => rfl
  | cons x _ ih => rw [List.sum_cons, List.sum_cons, ih]
  | swap x y l => rw [List.sum_cons, List.sum_cons, List.sum_cons, List.sum_cons]; omega
  | trans _ _ h1 h2 => exact h1.trans h2
theorem recv_ups {B : Basin} (ok : B.Ok) {p : Plan} {c : Cell} (hc : B.In c) : ((B.letFrom c).map fun o => get2 p.rel o.1 o.2).sum = ((List.range c.1).map (upTerm B p c)).sum := by
  have hp : (B.letFrom c).Perm (B.ups c) := by
    refine (List.perm_ext_iff_of_nodup (List.Pairwise.filter _ (cells_nodup B)) ?_).mpr fun o => (mem_ups ok hc).symm
    refine List.Pairwise.imp ?_ (ups_rise B c)
    intro a b h e
    rw [e] at h; omega
  rw [perm_sum (hp.map fun o => get2 p.rel o.1 o.2)]
  unfold Basin.ups
  rw [sum_fm]
  congr 1
  refine List.map_congr_left fun j _ => ?_
  unfold upTerm
  by_cases h : (B.at j).next = some c.1 ∧ (B.at j).travel ≤ c.2
  · rw [if_pos h, if_pos h]
  · rw [if_neg h, if_neg h]
section
variable {P : Program} {w : World} {K : PySem.W.Frag} {mg : Str → Option Value} {base : Heap}
theorem ev_eqO {ρ : List (Option D)} {μ : Mu} {ta tb : TE} {o : Option Nat} {k : Nat} (ha : Ev K ta ρ μ (optD (fun j => .str (nm j)) o)) (hb : Ev K tb ρ μ (.str (nm k))) : Ev K (tOp rEq ta tb) ρ μ (.bl (decide (o = some k))) := by
  cases o with
  | none => exact ev_op ha hb (ro_eq (a := .non) (b := .str (nm k)) rfl rfl rfl ⟨by simp, rfl⟩)
  | some j =>
    have e : decide (nm j = nm k) = decide (some j = some k) := by
      rw [decide_eq_decide]
      exact ⟨fun h => by rw [nm_inj h], fun h => by rw [Option.some.inj h]⟩
    have := ev_eqS (K := K) ha hb
    rw [e] at this; exact this
theorem sc_law_cells : FnScope ["_law_basin_here", "_law_found", "_law_m", "_law_k"] ["_law_basin_here"] (defScope s_law_cells) := ⟨rfl, rfl, rfl, by decide +kernel, rfl, by decide +kernel, by decide +kernel⟩
-- _law_cells: 0 _law_basin_here, 1 _law_found, 2 _law_m, 3 _law_k
def S_law_cells : Spec := fun ds μ Q => ∃ (B : Basin), ds = [basinD B] ∧ B.Ok ∧ Q (cellsD B.cells) μ
theorem len_law_cells : S_law_cells.len 1 := fun ds μ Q h => by obtain ⟨_, rfl, _⟩ := h; rfl
theorem mono_law_cells : Mono S_law_cells := fun ds μ P P' f h => by obtain ⟨r, e, h, q⟩ := h; exact ⟨r, e, h, f _ _ q⟩
theorem c_law_cells (Fx : Fx K mg) : Cal P w K mg base 1 "_law_cells" S_law_cells := by
  have hlen : Spec.len S_law_cells 1 := len_law_cells
  obtain ⟨fd, F⟩ := Fx.c.def_ 48 (d := d_law_cells) rfl
  refine ⟨_, fd, ["_law_basin_here"], fnok F sc_law_cells hlen (fun cdv A outer s H E hr => ?_), Fx.glo 30, F.kp, FunD.bindsN F fun _ _ _ _ _ _ us hl => match us, hl with | [_], _ => rfl⟩
  have hu := hu_of hr
  have nd := sc_law_cells.nd
  refine ⟨_, (pss_cons (ps_set (i := 1) nd rfl (by first | exact Or.inl rfl | exact Or.inr rfl) (pe_lst pa_nil))
      (pss_cons (ps_for PassesOwn.never rfl (pi_range1 rfl (Fx.free 98) (pa_cons (pe_ix (k_ix (K := K)) (pv 0) pe_int (fun _ _ => rfl)) pa_nil)) (pg_name (i := 2) nd rfl (by first | exact Or.inl rfl | exact Or.inr rfl)) (pss_one (ps_set (i := 1) nd rfl (by first | exact Or.inl rfl | exact Or.inr rfl) (pe_op op_cat (pv 1) (pe_lc (own := [("_law_k", 3)]) (g := (gName 3)) (tt := tYes) rfl nd (pi_range1 rfl (Fx.free 98) (pa_cons (pe_callB (k_len (K := K)) (by rfl) (Fx.free 97) PySem.boot_len (pa_cons (pe_ix (k_ix (K := K)) (pv 0) pe_int (fun _ _ => rfl)) pa_nil)) pa_nil)) (blkOk_by (by kernel_rfl)) (fun _ _ _ _ _ => by exact (pg_name (i := 3) nd rfl (by first | exact Or.inl rfl | exact Or.inr rfl))) (fun _ _ _ _ _ => by exact pts_nil) (fun _ _ _ _ _ => by exact (pe_tup (pa_cons (pv 3) (pa_cons (pv 2) pa_nil)))))))))
      (pss_one (ps_ret (pv 1))))), fun ds μ Pq hS => ?_⟩
  obtain ⟨B, rfl, ok, q⟩ := hS
  have hm := ok.m4
  have hn := ok.n3
  refine q_set (ev_lst ea_nil) ?_
  refine pw_seq (pw_for (fun i ρ μ' => μ' = μ ∧ ∃ a b, ρ = [some (basinD B), some (.lst (((List.range i).map fun m => (List.range B.sites.length).map fun k => cellD (k, m)).flatten)), a, b]) ?_)
  refine wi_rngE (n := B.months) (ea_cons (ev_ix (V' 0) ev_int) ea_nil) (by omega) ⟨⟨rfl, _, _, rfl⟩, fun _ _ _ _ => trivial, ?_, ?_⟩
  · rintro i d ρ μ3 hd ⟨rfl, a, b, rfl⟩
    obtain ⟨hi, rfl⟩ := rngD0 hd
    have e : ((List.range (i + 1)).map fun m => (List.range B.sites.length).map fun k => cellD (k, m)).flatten = ((List.range i).map fun m => (List.range B.sites.length).map fun k => cellD (k, m)).flatten ++ (List.range B.sites.length).map fun k => cellD (k, i) := by
      rw [List.range_succ, List.map_append, List.flatten_append]; simp
    have hlen : (((List.range i).map fun m => (List.range B.sites.length).map fun k => cellD (k, m)).flatten).length ≤ 100 := by
      have := flat_len (f := fun m => (List.range B.sites.length).map fun k => cellD (k, m)) (M := 3) (List.range i) (fun x => by rw [List.length_map, List.length_range]; omega)
      rw [List.length_range] at this; omega
    refine wg_name (s_set (ev_cat (V' 1) (ev_lcR (n := B.sites.length) (fun k => cellD (k, i)) (ea_cons (ev_len (ev_ix (V' 0) ev_int) (.inl rfl)) ea_nil) (by omega) (fun k hk => ev_tup (ea_cons (V' 3) (ea_cons (V' 2) ea_nil)))) (.inl rfl) (.inl rfl) (sz_of (by rw [List.length_map, List.length_range]; omega))) ⟨rfl, some (.int (i : Int)), b, ?_⟩)
    rw [e]; rfl
  · rintro ρ μ3 ⟨rfl, a, b, rfl⟩
    rw [rngD_len]
    refine s_ret (V' 1) ?_
    unfold cellsD at q
    rw [cellsD_eq] at q
    exact q
theorem sc_law_receives : FnScope ["_law_basin_here", "_law_plan", "_law_k", "_law_m", "_law_site", "_law_total", "_law_j", "_law_other"] ["_law_basin_here", "_law_plan", "_law_k", "_law_m"] (defScope s_law_receives) := ⟨rfl, rfl, rfl, by decide +kernel, rfl, by decide +kernel, by decide +kernel⟩
-- _law_receives: 0 _law_basin_here, 1 _law_plan, 2 _law_k, 3 _law_m, 4 _law_site, 5 _law_total, 6 _law_j, 7 _law_other
def S_law_receives : Spec := fun ds μ Q => ∃ (B : Basin) (R : List Right) (p : Plan) (c : Cell), ds = [basinD B, planD p, .int (c.1 : Int), .int (c.2 : Int)] ∧ B.Ok ∧ p.Shape B R ∧ B.In c ∧ Q (.int (recv B p c)) μ
theorem len_law_receives : S_law_receives.len 4 := fun ds μ Q h => by obtain ⟨_, _, _, _, rfl, _⟩ := h; rfl
theorem mono_law_receives : Mono S_law_receives := fun ds μ P P' f h => by obtain ⟨B, R, p, c, e, h1, h2, h3, q⟩ := h; exact ⟨B, R, p, c, e, h1, h2, h3, f _ _ q⟩
theorem c_law_receives (Fx : Fx K mg) : Cal P w K mg base 1 "_law_receives" S_law_receives := by
  have hlen : Spec.len S_law_receives 4 := len_law_receives
  obtain ⟨fd, F⟩ := Fx.c.def_ 49 (d := d_law_receives) rfl
  refine ⟨_, fd, ["_law_basin_here", "_law_plan", "_law_k", "_law_m"], fnok F sc_law_receives hlen (fun cdv A outer s H E hr => ?_), Fx.glo 31, F.kp, FunD.bindsN F fun _ _ _ _ _ _ us hl => match us, hl with | [_, _, _, _], _ => rfl⟩
  have hu := hu_of hr
  have nd := sc_law_receives.nd
  refine ⟨_, (pss_cons (ps_set (i := 4) nd rfl (by first | exact Or.inl rfl | exact Or.inr rfl) (pe_ix (k_ix (K := K)) (pe_ix (k_ix (K := K)) (pv 0) pe_int (fun _ _ => rfl)) (pv 2) (fun _ _ => rfl)))
      (pss_cons (ps_set (i := 5) nd rfl (by first | exact Or.inl rfl | exact Or.inr rfl) (pe_op op_add (pe_ix (k_ix (K := K)) (pe_ix (k_ix (K := K)) (pv 4) pe_int (fun _ _ => rfl)) (pv 3) (fun _ _ => rfl)) (pe_ix (k_ix (K := K)) (pe_lst (pa_cons (pe_ix (k_ix (K := K)) (pv 4) pe_int (fun _ _ => rfl)) (pa_cons (pe_ix (k_ix (K := K)) (pe_ix (k_ix (K := K)) (pe_ix (k_ix (K := K)) (pv 1) pe_int (fun _ _ => rfl)) (pv 2) (fun _ _ => rfl)) (pe_op op_sub (pv 3) pe_int) (fun _ _ => rfl)) pa_nil))) (pe_callTy call_intA (by rfl) (Fx.free 106) (by decide +kernel) (pa_cons (pe_cmpR op_gt (pv 3) pe_int (nomark _)) pa_nil)) (fun _ _ => rfl))))
      (pss_cons (ps_for PassesOwn.never rfl (pi_range1 rfl (Fx.free 98) (pa_cons (pv 2) pa_nil)) (pg_name (i := 6) nd rfl (by first | exact Or.inl rfl | exact Or.inr rfl)) (pss_cons (ps_set (i := 7) nd rfl (by first | exact Or.inl rfl | exact Or.inr rfl) (pe_ix (k_ix (K := K)) (pe_ix (k_ix (K := K)) (pv 0) pe_int (fun _ _ => rfl)) (pv 6) (fun _ _ => rfl)))
      (pss_one (ps_if (PW.pt (pw_and (pt_cmpR op_eq (pe_ix (k_ix (K := K)) (pv 7) pe_int (fun _ _ => rfl)) (pe_ix (k_ix (K := K)) (pv 4) pe_int (fun _ _ => rfl)) (nomark _)) (pw_and1 (pt_cmpR op_ge (pv 3) (pe_ix (k_ix (K := K)) (pv 7) pe_int (fun _ _ => rfl)) (nomark _))))) (pss_one (ps_set (i := 5) nd rfl (by first | exact Or.inl rfl | exact Or.inr rfl) (pe_op op_add (pv 5) (pe_ix (k_ix (K := K)) (pe_ix (k_ix (K := K)) (pe_ix (k_ix (K := K)) (pv 1) pe_int (fun _ _ => rfl)) (pv 6) (fun _ _ => rfl)) (pe_op op_sub (pv 3) (pe_ix (k_ix (K := K)) (pv 7) pe_int (fun _ _ => rfl))) (fun _ _ => rfl))))) pss_nil))))
      (pss_one (ps_ret (pv 5)))))), fun ds μ Pq hS => ?_⟩
  obtain ⟨B, R, p, c, rfl, ok, sh, hc, q⟩ := hS
  have hm1 := ok.m1
  have hm4 := ok.m4
  have hn3 := ok.n3
  have hc1 := hc.1
  have hc2 := hc.2
  refine q_set (ev_ixN (ev_ix (V' 0) ev_int) (V' 2) (siteAt hc.1)) ?_
  have e0 : (B.inf c + if 0 < c.2 then get2 p.sto c.1 (c.2 - 1) else (B.at c.1).held) = B.supply c + if 0 < c.2 then get2 p.sto c.1 (c.2 - 1) else 0 := by
    unfold Basin.supply
    by_cases h : 0 < c.2
    · rw [if_pos h, if_pos h, if_neg (by omega)]; omega
    · rw [if_neg h, if_neg h, if_pos (by omega)]; omega
  refine q_set (d := .int (B.inf c + if 0 < c.2 then get2 p.sto c.1 (c.2 - 1) else (B.at c.1).held)) (ev_add (ev_ixN (ev_ix (V' 4) ev_int) (V' 3) (infAt ok hc)) ?_) ?_
  · have hrow : Ev K (tOp (rIx K) (tOp (rIx K) (tVar 1) (tC (.int 2))) (tVar 2)) [some (basinD B), some (planD p), some (.int (c.1 : Int)), some (.int (c.2 : Int)), some (siteD c.1 (B.at c.1)), none, none, none] μ (intsD (p.sto[c.1]?.getD [])) := ev_ixN (ev_ix (V' (d := planD p) 1) ev_int) (V' 2) (get2_row (j := 0) sh.sto hc.1)
    have hrl : (p.sto[c.1]?.getD []).length = B.months := by
      rw [List.getElem?_eq_getElem (by rw [sh.sto.1]; exact hc.1)]
      exact sh.sto.2 _ (List.getElem_mem _)
    have prev : ∃ x : Int, atI ((p.sto[c.1]?.getD []).map D.int) ((c.2 : Int) - 1) = some (.int x) ∧ (0 < c.2 → x = get2 p.sto c.1 (c.2 - 1)) := by
      by_cases h : 0 < c.2
      · refine ⟨get2 p.sto c.1 (c.2 - 1), ?_, fun _ => rfl⟩
        have e : (c.2 : Int) - 1 = ((c.2 - 1 : Nat) : Int) := by omega
        rw [e]
        exact atI_n (get2_at sh.sto hc.1 (by omega))
      · have hz : c.2 = 0 := by omega
        rcases nil_or_snoc (p.sto[c.1]?.getD []) with e | ⟨l, x, e⟩
        · rw [e] at hrl; simp at hrl; omega
        · refine ⟨x, ?_, fun z => absurd z h⟩
          rw [e, List.map_append, hz]
          exact atI_last _ _
    obtain ⟨x, hx1, hx2⟩ := prev
    have el : Ev K (tOp (rIx K) (tOp (rIx K) (tOp (rIx K) (tVar 1) (tC (.int 2))) (tVar 2)) (tOp (rI0 fun i j => .int (i - j)) (tVar 3) (tC (.int 1)))) [some (basinD B), some (planD p), some (.int (c.1 : Int)), some (.int (c.2 : Int)), some (siteD c.1 (B.at c.1)), none, none, none] μ (.int x) := ev_ix hrow (ev_sub (V' 3) ev_int) hx1
    have eb : Ev K (tCB rInt1 (tCons (tOp (rI0 fun i j => .bl (decide (j < i))) (tVar 3) (tC (.int 0))) tNil)) [some (basinD B), some (planD p), some (.int (c.1 : Int)), some (.int (c.2 : Int)), some (siteD c.1 (B.at c.1)), none, none, none] μ (.int (if decide ((0 : Int) < (c.2 : Int)) = true then 1 else 0)) := ev_cb (ea_cons (ev_gt (V' 3) ev_int) ea_nil) (rb_intB ⟨rfl, rfl⟩)
    refine ev_op (ev_lst (ea_cons (ev_ix (V' (d := siteD c.1 (B.at c.1)) 4) ev_int) (ea_cons el ea_nil))) eb (ro_ix (.inr (.inr (.inl rfl))) ?_ ⟨rfl, rfl⟩)
    by_cases h : 0 < c.2
    · rw [if_pos (decide_eq_true (by omega)), if_pos h, ← hx2 h]; rfl
    · rw [if_neg (by rw [decide_eq_false (by omega)]; simp), if_neg h]; rfl
  rw [e0]
  refine pw_seq (pw_for (fun i ρ μ' => μ' = μ ∧ ∃ a b, ρ = [some (basinD B), some (planD p), some (.int (c.1 : Int)), some (.int (c.2 : Int)), some (siteD c.1 (B.at c.1)), some (.int ((B.supply c + if 0 < c.2 then get2 p.sto c.1 (c.2 - 1) else 0) + ((List.range i).map (upTerm B p c)).sum)), a, b]) ?_)
  refine wi_rngE (n := c.1) (ea_cons (V' 2) ea_nil) (by omega) ⟨⟨rfl, none, none, by rw [List.range_zero, List.map_nil, List.sum_nil, Int.add_zero]; rfl⟩, fun _ _ _ _ => trivial, ?_, ?_⟩
  · rintro i d ρ μ3 hd ⟨rfl, a, b, rfl⟩
    obtain ⟨hi, rfl⟩ := rngD0 hd
    have hil : i < B.sites.length := by omega
    have es : ((List.range (i + 1)).map (upTerm B p c)).sum = ((List.range i).map (upTerm B p c)).sum + upTerm B p c i := by
      rw [List.range_succ, List.map_append, List.sum_append]; simp
    refine wg_name (q_set (ev_ixN (ev_ix (V' 0) ev_int) (V' 6) (siteAt hil)) ?_)
    have hcond : decide ((B.at i).next = some c.1 ∧ (B.at i).travel ≤ c.2) = (decide ((B.at i).next = some c.1) && decide (((B.at i).travel : Int) ≤ (c.2 : Int))) := by
      rw [Bool.decide_and]
      congr 1
      rw [decide_eq_decide]; omega
    refine s_when (b := decide ((B.at i).next = some c.1 ∧ (B.at i).travel ≤ c.2)) ?_ (fun h => ?_) (fun h => ?_)
    · rw [hcond]
      exact et_and (et_test (ev_eqO (ev_ix (V' 7) ev_int) (ev_ix (V' 4) ev_int))) (fun _ => et_test (ev_ge (V' 3) (ev_ix (V' 7) ev_int)))
    · have h := of_decide_eq_true h
      have e1 : upTerm B p c i = get2 p.rel i (c.2 - (B.at i).travel) := if_pos h
      have e2 : ((c.2 - (B.at i).travel : Nat) : Int) = (c.2 : Int) - ((B.at i).travel : Int) := by omega
      have e3 : Ev K (tOp (rI0 fun i j => .int (i - j)) (tVar 3) (tOp (rIx K) (tVar 7) (tC (.int 2)))) [some (basinD B), some (planD p), some (.int (c.1 : Int)), some (.int (c.2 : Int)), some (siteD c.1 (B.at c.1)), some (.int ((B.supply c + if 0 < c.2 then get2 p.sto c.1 (c.2 - 1) else 0) + ((List.range i).map (upTerm B p c)).sum)), some (.int (i : Int)), some (siteD i (B.at i))] μ3 (.int ((c.2 - (B.at i).travel : Nat) : Int)) := by
        rw [e2]
        exact ev_sub (V' 3) (ev_ix (V' (d := siteD i (B.at i)) 7) ev_int)
      refine s_set (ev_add (V' 5) (ev_get2 (ev_ix (V' (d := planD p) 1) ev_int) (V' 6) e3 sh.rel hil (by omega))) ⟨rfl, some (.int (i : Int)), some (siteD i (B.at i)), ?_⟩
      rw [es, e1, ← Int.add_assoc]; rfl
    · have h := of_decide_eq_false h
      have e1 : upTerm B p c i = 0 := if_neg h
      exact ⟨rfl, some (.int (i : Int)), some (siteD i (B.at i)), by rw [es, e1, Int.add_zero]; rfl⟩
  · rintro ρ μ3 ⟨rfl, a, b, rfl⟩
    rw [rngD_len]
    refine s_ret (V' 5) ?_
    rw [← recv_ups ok hc]; exact q
end
end Hw
set_option Elab.async false
set_option linter.all false
set_option maxRecDepth 100000
set_option maxHeartbeats 4000000
/-! The law's fault of a plan: the program's. -/
namespace Hw
open PySem PySem.Spec L2
theorem sum_filter {f : Nat → Int} {p : Nat → Bool} : ∀ l : List Nat, ((l.filter p).map f).sum = (l.map fun i => if p i = true then f i else 0).sum
  | [] => rfl
  | a :: l => by
    have ih := sum_filter (f := f) (p := p) l
    rw [List.map_cons, List.sum_cons, ← ih, List.filter_cons]
    by_cases h : p a = true
    · rw [if_pos h, if_pos h, List.map_cons, List.sum_cons]
    · rw [if_neg h, if_neg h, Int.zero_add]
section
variable {P : Program} {w : World} {K : PySem.W.Frag} {mg : Str → Option Value} {base : Heap}
theorem sc_law_plan_fault : FnScope ["_law_basin_here", "_law_rights_here", "_law_plan", "_law_m", "_law_r", "_law_k", "_law_site", "_law_used_here"] ["_law_basin_here", "_law_rights_here", "_law_plan"] (defScope s_law_plan_fault) := ⟨rfl, rfl, rfl, by decide +kernel, rfl, by decide +kernel, by decide +kernel⟩
-- _law_plan_fault: 0 _law_basin_here, 1 _law_rights_here, 2 _law_plan, 3 _law_m, 4 _law_r, 5 _law_k, 6 _law_site, 7 _law_used_here
def S_law_plan_fault : Spec := fun ds μ Q => ∃ (B : Basin) (R : List Right) (p : Plan), ds = [basinD B, rightsD R, planD p] ∧ B.Ok ∧ RightsOk B R ∧ p.Shape B R ∧ Q (optD faultD (planFault B R p)) μ
theorem len_law_plan_fault : S_law_plan_fault.len 3 := fun ds μ Q h => by obtain ⟨_, _, _, rfl, _⟩ := h; rfl
theorem mono_law_plan_fault : Mono S_law_plan_fault := fun ds μ P P' f h => by obtain ⟨B, R, p, e, h1, h2, h3, q⟩ := h; exact ⟨B, R, p, e, h1, h2, h3, f _ _ q⟩
theorem c_law_plan_fault (Fx : Fx K mg) : Cal P w K mg base 2 "_law_plan_fault" S_law_plan_fault := by
  have hlen : Spec.len S_law_plan_fault 3 := len_law_plan_fault
  obtain ⟨fd, F⟩ := Fx.c.def_ 50 (d := d_law_plan_fault) rfl
  refine ⟨_, fd, ["_law_basin_here", "_law_rights_here", "_law_plan"], fnok F sc_law_plan_fault hlen (fun cdv A outer s H E hr => ?_), Fx.glo 32, F.kp, FunD.bindsN F fun _ _ _ _ _ _ us hl => match us, hl with | [_, _, _], _ => rfl⟩
  have hu := hu_of hr
  have nd := sc_law_plan_fault.nd
  refine ⟨_, (pss_cons (ps_for PassesOwn.never rfl (pi_range1 rfl (Fx.free 98) (pa_cons (pe_ix (k_ix (K := K)) (pv 0) pe_int (fun _ _ => rfl)) pa_nil)) (pg_name (i := 3) nd rfl (by first | exact Or.inl rfl | exact Or.inr rfl)) (pss_cons (ps_for PassesOwn.never rfl (pi_range1 rfl (Fx.free 98) (pa_cons (pe_callB (k_len (K := K)) (by rfl) (Fx.free 97) PySem.boot_len (pa_cons (pv 1) pa_nil)) pa_nil)) (pg_name (i := 4) nd rfl (by first | exact Or.inl rfl | exact Or.inr rfl)) (pss_one (ps_if (pt_cmpR op_gt (pe_ix (k_ix (K := K)) (pe_ix (k_ix (K := K)) (pe_ix (k_ix (K := K)) (pv 2) pe_int (fun _ _ => rfl)) (pv 4) (fun _ _ => rfl)) (pv 3) (fun _ _ => rfl)) (pe_ix (k_ix (K := K)) (pe_ix (k_ix (K := K)) (pe_ix (k_ix (K := K)) (pv 1) (pv 4) (fun _ _ => rfl)) pe_int (fun _ _ => rfl)) (pv 3) (fun _ _ => rfl)) (nomark _)) (pss_one (ps_ret (pe_tup (pa_cons pe_str (pa_cons (pv 4) (pa_cons (pv 3) pa_nil)))))) pss_nil)))
      (pss_one (ps_for PassesOwn.never rfl (pi_range1 rfl (Fx.free 98) (pa_cons (pe_callB (k_len (K := K)) (by rfl) (Fx.free 97) PySem.boot_len (pa_cons (pe_ix (k_ix (K := K)) (pv 0) pe_int (fun _ _ => rfl)) pa_nil)) pa_nil)) (pg_name (i := 5) nd rfl (by first | exact Or.inl rfl | exact Or.inr rfl)) (pss_cons (ps_set (i := 6) nd rfl (by first | exact Or.inl rfl | exact Or.inr rfl) (pe_ix (k_ix (K := K)) (pe_ix (k_ix (K := K)) (pv 0) pe_int (fun _ _ => rfl)) (pv 5) (fun _ _ => rfl)))
      (pss_cons (ps_if (PW.pt (pw_or (PW.pt (pw_and (pt_cmp (pc_isN (pe_ix (k_ix (K := K)) (pv 6) pe_int (fun _ _ => rfl)))) (pw_and1 (pt_cmpR op_gt (pe_ix (k_ix (K := K)) (pe_ix (k_ix (K := K)) (pe_ix (k_ix (K := K)) (pv 2) pe_int (fun _ _ => rfl)) (pv 5) (fun _ _ => rfl)) (pv 3) (fun _ _ => rfl)) pe_int (nomark _))))) (pw_or1 (PW.pt (pw_and (pt_cmp (pc_notN (pe_ix (k_ix (K := K)) (pv 6) pe_int (fun _ _ => rfl)))) (pw_and1 (pt_cmpR op_gt (pe_ix (k_ix (K := K)) (pe_ix (k_ix (K := K)) (pe_ix (k_ix (K := K)) (pv 2) pe_int (fun _ _ => rfl)) (pv 5) (fun _ _ => rfl)) (pv 3) (fun _ _ => rfl)) (pe_ix (k_ix (K := K)) (pv 6) pe_int (fun _ _ => rfl)) (nomark _)))))))) (pss_one (ps_ret (pe_tup (pa_cons pe_str (pa_cons (pv 5) (pa_cons (pv 3) pa_nil)))))) pss_nil)
      (pss_cons (ps_if (pt_cmpR op_gt (pe_ix (k_ix (K := K)) (pe_ix (k_ix (K := K)) (pe_ix (k_ix (K := K)) (pv 2) pe_int (fun _ _ => rfl)) (pv 5) (fun _ _ => rfl)) (pv 3) (fun _ _ => rfl)) (pe_ix (k_ix (K := K)) (pv 6) pe_int (fun _ _ => rfl)) (nomark _)) (pss_one (ps_ret (pe_tup (pa_cons pe_str (pa_cons (pv 5) (pa_cons (pv 3) pa_nil)))))) pss_nil)
      (pss_cons (ps_set (i := 7) nd rfl (by first | exact Or.inl rfl | exact Or.inr rfl) (pe_op op_add (pe_op op_add (pe_ix (k_ix (K := K)) (pe_ix (k_ix (K := K)) (pe_ix (k_ix (K := K)) (pv 2) pe_int (fun _ _ => rfl)) (pv 5) (fun _ _ => rfl)) (pv 3) (fun _ _ => rfl)) (pe_ix (k_ix (K := K)) (pe_ix (k_ix (K := K)) (pe_ix (k_ix (K := K)) (pv 2) pe_int (fun _ _ => rfl)) (pv 5) (fun _ _ => rfl)) (pv 3) (fun _ _ => rfl))) (pe_callB (k_sum (K := K) rfl) (by rfl) (Fx.free 100) (by decide +kernel) (pa_cons (pe_lc (own := [("_law_r", 4)]) (g := (gName 4)) (tt := _) rfl nd (pi_range1 rfl (Fx.free 98) (pa_cons (pe_callB (k_len (K := K)) (by rfl) (Fx.free 97) PySem.boot_len (pa_cons (pv 1) pa_nil)) pa_nil)) (blkOk_by (by kernel_rfl)) (fun _ _ _ _ _ => by exact (pg_name (i := 4) nd rfl (by first | exact Or.inl rfl | exact Or.inr rfl))) (fun _ _ _ _ _ => by exact (pts_one (pt_cmpR op_eq (pe_ix (k_ix (K := K)) (pe_ix (k_ix (K := K)) (pv 1) (pv 4) (fun _ _ => rfl)) pe_int (fun _ _ => rfl)) (pe_ix (k_ix (K := K)) (pv 6) pe_int (fun _ _ => rfl)) (nomark _)))) (fun _ _ _ _ _ => by exact (pe_ix (k_ix (K := K)) (pe_ix (k_ix (K := K)) (pe_ix (k_ix (K := K)) (pv 2) pe_int (fun _ _ => rfl)) (pv 4) (fun _ _ => rfl)) (pv 3) (fun _ _ => rfl)))) pa_nil))))
      (pss_one (ps_if (pt_cmpR op_gt (pv 7) (k_cal (c_law_receives Fx) hr (by decide) rfl (pa_cons (pv 0) (pa_cons (pv 2) (pa_cons (pv 5) (pa_cons (pv 3) pa_nil))))) (nomark _)) (pss_one (ps_ret (pe_tup (pa_cons pe_str (pa_cons (pv 5) (pa_cons (pv 3) pa_nil)))))) pss_nil))))))))))
      (pss_one (ps_ret pe_non))), fun ds μ Pq hS => ?_⟩
  obtain ⟨B, R, p, rfl, ok, rok, sh, q⟩ := hS
  unfold planFault at q
  have hm4 := ok.m4
  have hn3 := ok.n3
  have hR3 := rok.1
  refine pw_seq (pw_for (fun i ρ μ' => μ' = μ ∧ (∀ j, j < i → monthFault B R p j = none) ∧ ∃ a b c d e, ρ = [some (basinD B), some (rightsD R), some (planD p), a, b, c, d, e]) ?_)
  refine wi_rngE (n := B.months) (ea_cons (ev_ix (V' 0) ev_int) ea_nil) (by omega) ⟨⟨rfl, fun j hj => absurd hj (Nat.not_lt_zero _), _, _, _, _, _, rfl⟩, fun _ _ _ _ => trivial, ?_, ?_⟩
  · rintro m d ρ μ3 hd ⟨rfl, hno, a, b, c, d2, e, rfl⟩
    obtain ⟨hm, rfl⟩ := rngD0 hd
    have ret : ∀ {x : Fault}, monthFault B R p m = some x → Pq (faultD x) μ3 := fun hx => by
      rw [fs_some hm hno hx] at q; exact q
    refine wg_name (pw_seq (pw_for (fun i ρ μ' => μ' = μ3 ∧ (∀ j, j < i → rightFault R p m j = none) ∧ ∃ b c d e, ρ = [some (basinD B), some (rightsD R), some (planD p), some (.int (m : Int)), b, c, d, e]) ?_))
    refine wi_rngE (n := R.length) (ea_cons (ev_len (V' 1) (.inl rfl)) ea_nil) (by omega) ⟨⟨rfl, fun j hj => absurd hj (Nat.not_lt_zero _), _, _, _, _, rfl⟩, fun _ _ _ _ => trivial, ?_, ?_⟩
    · rintro r d ρ μ4 hd ⟨rfl, hno1, b', c', d', e', rfl⟩
      obtain ⟨hr, rfl⟩ := rngD0 hd
      have hro := rok.at hr
      refine wg_name (s_when (et_test (ev_gt (ev_get2 (ev_ix (V' (d := planD p) 2) ev_int) (V' 4) (V' 3) sh.del hr hm) (ev_ixN (ev_ix (ev_ixN (V' (d := rightsD R) 1) (V' 4) (rightAt hr)) ev_int) (V' 3) (demAt hro hm)))) (fun h => ?_) (fun h => ?_))
      · have hf : rightFault R p m r = some (("too much" : Str), r, m) := if_pos (of_decide_eq_true h)
        have hmf : monthFault B R p m = some (("too much" : Str), r, m) := by unfold monthFault; rw [fs_some hr hno1 hf]
        exact s_retΦ (ev_tup (ea_cons ev_str (ea_cons (V' 4) (ea_cons (V' 3) ea_nil)))) ⟨_, Mu.sub.refl _, ret hmf⟩
      · have hf : rightFault R p m r = none := if_neg (of_decide_eq_false h)
        refine ⟨rfl, fun j hj => ?_, _, _, _, _, rfl⟩
        rcases Nat.lt_succ_iff_lt_or_eq.mp hj with z | z
        · exact hno1 j z
        · rw [z]; exact hf
    · rintro ρ μ4 ⟨rfl, hno1, b', c', d', e', rfl⟩
      rw [rngD_len] at hno1
      have hmf : monthFault B R p m = (List.range B.sites.length).findSome? fun k => cellFault B R p (k, m) := by unfold monthFault; rw [fs_none hno1]
      refine pw_for (fun i ρ μ' => μ' = μ4 ∧ (∀ j, j < i → cellFault B R p (j, m) = none) ∧ ∃ b c d e, ρ = [some (basinD B), some (rightsD R), some (planD p), some (.int (m : Int)), b, c, d, e]) ?_
      refine wi_rngE (n := B.sites.length) (ea_cons (ev_len (ev_ix (V' 0) ev_int) (.inl rfl)) ea_nil) (by omega) ⟨⟨rfl, fun j hj => absurd hj (Nat.not_lt_zero _), _, _, _, _, rfl⟩, fun _ _ _ _ => trivial, ?_, ?_⟩
      · rintro k d ρ μ5 hd ⟨rfl, hno2, b'', c'', d'', e'', rfl⟩
        obtain ⟨hk, rfl⟩ := rngD0 hd
        have hc : B.In (k, m) := ⟨hk, hm⟩
        have got : ∀ {x : Fault}, cellFault B R p (k, m) = some x → Pq (faultD x) μ5 := fun hx => ret (by rw [hmf]; exact fs_some hk hno2 hx)
        refine wg_name (q_set (ev_ixN (ev_ix (V' 0) ev_int) (V' 5) (siteAt hk)) ?_)
        have erel : Ev K (tOp (rIx K) (tOp (rIx K) (tOp (rIx K) (tVar 2) (tC (.int 1))) (tVar 5)) (tVar 3)) [some (basinD B), some (rightsD R), some (planD p), some (.int (m : Int)), b'', some (.int (k : Int)), some (siteD k (B.at k)), e''] μ5 (.int (get2 p.rel k m)) := ev_get2 (ev_ix (V' (d := planD p) 2) ev_int) (V' 5) (V' 3) sh.rel hk hm
        have esto : Ev K (tOp (rIx K) (tOp (rIx K) (tOp (rIx K) (tVar 2) (tC (.int 2))) (tVar 5)) (tVar 3)) [some (basinD B), some (rightsD R), some (planD p), some (.int (m : Int)), b'', some (.int (k : Int)), some (siteD k (B.at k)), e''] μ5 (.int (get2 p.sto k m)) := ev_get2 (ev_ix (V' (d := planD p) 2) ev_int) (V' 5) (V' 3) sh.sto hk hm
        have ecf : cellFault B R p (k, m) = if badRel B p (k, m) = true then some (("release" : Str), k, m) else if (B.at k).room < get2 p.sto k m then some (("storage" : Str), k, m) else if spillOf B R p (k, m) < 0 then some (("balance" : Str), k, m) else none := rfl
        refine q_when (b := badRel B p (k, m)) ?_ (fun h => ?_) (fun h => ?_)
        · have e : badRel B p (k, m) = (((B.at k).next.isNone && decide (0 < get2 p.rel k m)) || ((!(optD D.int (B.at k).reach).isN) && match (B.at k).reach with
            | none => false
            | some r => decide (r < get2 p.rel k m))) := by
            unfold badRel
            dsimp only
            cases (B.at k).reach <;> rfl
          rw [e]
          refine et_or (et_and (et_B ?_) (fun _ => et_test (ev_gt erel ev_int))) (fun _ => et_and (et_B (ev_notN (ev_ix (V' (d := siteD k (B.at k)) 6) ev_int))) (fun h => ?_))
          · rw [← isN_opt (f := fun j => D.str (nm j)) (fun _ => rfl)]
            exact ev_isN (ev_ix (V' (d := siteD k (B.at k)) 6) ev_int)
          · cases hr : (B.at k).reach with
            | none => rw [hr] at h; cases h
            | some r =>
              refine et_test (ev_gt erel (ev_ix (ds := [.str (nm k), optD (fun j => .str (nm j)) (B.at k).next, .int ((B.at k).travel : Int), optD .int (B.at k).reach, .int (B.at k).room, .int (B.at k).held, intsD (B.at k).inflows]) (V' 6) ev_int ?_))
              rw [hr]; rfl
        · rw [if_pos h] at ecf
          exact pw_ret ((ev_tup (ea_cons ev_str (ea_cons (V' 5) (ea_cons (V' 3) ea_nil)))).go ⟨_, Mu.sub.refl _, got ecf⟩)
        · rw [if_neg (by rw [h]; simp)] at ecf
          refine q_when (et_test (ev_gt esto (ev_ix (V' (d := siteD k (B.at k)) 6) ev_int))) (fun h => ?_) (fun h => ?_)
          · rw [if_pos (of_decide_eq_true h)] at ecf
            exact pw_ret ((ev_tup (ea_cons ev_str (ea_cons (V' 5) (ea_cons (V' 3) ea_nil)))).go ⟨_, Mu.sub.refl _, got ecf⟩)
          · rw [if_neg (of_decide_eq_false h)] at ecf
            refine q_set (d := .int (get2 p.rel k m + get2 p.sto k m + taken R p (k, m) R.length)) (ev_add (ev_add erel esto) ?_) ?_
            · have es : taken R p (k, m) R.length = (((List.range R.length).filter fun r => decide ((rAt R r).site = k)).map fun r => get2 p.del r m).sum := by
                rw [sum_filter]
                unfold taken
                congr 1
                refine List.map_congr_left fun r _ => ?_
                by_cases z : (rAt R r).site = k
                · rw [if_pos z, if_pos (decide_eq_true z)]
                · rw [if_neg z, if_neg (by rw [decide_eq_false z]; simp)]
              rw [es]
              have hl := ev_lcIf (K := K) (ρ := [some (basinD B), some (rightsD R), some (planD p), some (.int (m : Int)), b'', some (.int (k : Int)), some (siteD k (B.at k)), e'']) (μ := μ5) (g := gName 4) (vs := [4]) (es := rngD 0 R.length) (wi := iRng1 (tCons (tCB (rLen K) (tCons (tVar 1) tNil)) tNil)) (tt := tTest (tOp rEq (tOp (rIx K) (tOp (rIx K) (tVar 1) (tVar 4)) (tC (.int 1))) (tOp (rIx K) (tVar 6) (tC (.int 0))))) (te := tOp (rIx K) (tOp (rIx K) (tOp (rIx K) (tVar 2) (tC (.int 0))) (tVar 4)) (tVar 3)) (fun r => decide ((rAt R r).site = k)) (fun r => .int (get2 p.del r m)) gok_name (sz_of (by rw [rngD_len]; omega)) (wi_rngP (ea_cons (ev_len (V' 1) (.inl rfl)) ea_nil) (by omega)) (fun r d hd => by
                obtain ⟨hr, rfl⟩ := rngD0 hd
                have e0 : decide (nm (rAt R r).site = nm k) = decide ((rAt R r).site = k) := by
                  rw [decide_eq_decide]
                  exact ⟨nm_inj, fun z => by rw [z]⟩
                refine wg_name ⟨rfl, ?_, fun _ => ev_get2 (ev_ix (V' (d := planD p) 2) ev_int) (V' 4) (V' 3) sh.del hr hm⟩
                rw [← e0]
                exact et_test (ev_eqS (ev_ix (ev_ixN (V' (d := rightsD R) 1) (V' 4) (rightAt hr)) ev_int) (ev_ix (V' (d := siteD k (B.at k)) 6) ev_int)))
              refine ev_sumI (is := ((List.range R.length).filter fun r => decide ((rAt R r).site = k)).map fun r => get2 p.del r m) hl (.inl ?_)
              rw [rngD_len, List.map_map]; rfl
            · have hsp : (recv B p (k, m) < get2 p.rel k m + get2 p.sto k m + taken R p (k, m) R.length) ↔ spillOf B R p (k, m) < 0 := by
                unfold spillOf
                dsimp only
                omega
              refine s_when (et_test (ev_gt (V' 7) (ev_call (ea_cons (V' 0) (ea_cons (V' 2) (ea_cons (V' 5) (ea_cons (V' 3) ea_nil)))) ⟨B, R, p, (k, m), rfl, ok, sh, hc, rfl, rfl⟩ mono_law_receives))) (fun h => ?_) (fun h => ?_)
              · rw [if_pos (hsp.mp (of_decide_eq_true h))] at ecf
                exact pw_ret ((ev_tup (ea_cons ev_str (ea_cons (V' 5) (ea_cons (V' 3) ea_nil)))).go ⟨_, Mu.sub.refl _, got ecf⟩)
              · rw [if_neg (fun z => of_decide_eq_false h (hsp.mpr z))] at ecf
                refine ⟨rfl, fun j hj => ?_, _, _, _, _, rfl⟩
                rcases Nat.lt_succ_iff_lt_or_eq.mp hj with z | z
                · exact hno2 j z
                · rw [z]; exact ecf
      · rintro ρ μ5 ⟨rfl, hno2, b'', c'', d'', e'', rfl⟩
        rw [rngD_len] at hno2
        rw [fs_none hno2] at hmf
        refine ⟨rfl, fun j hj => ?_, _, _, _, _, _, rfl⟩
        rcases Nat.lt_succ_iff_lt_or_eq.mp hj with z | z
        · exact hno j z
        · rw [z]; exact hmf
  · rintro ρ μ3 ⟨rfl, hno, a, b, c, d2, e, rfl⟩
    rw [rngD_len] at hno
    rw [fs_none hno] at q
    exact s_ret ev_non q
end
end Hw
set_option Elab.async false
set_option linter.all false
set_option maxRecDepth 100000
set_option maxHeartbeats 4000000
/-! The law's look from cell to cell. -/
namespace Hw
open PySem PySem.Spec L2
section
variable {K : PySem.W.Frag} {ρ : List (Option D)} {μ : Mu} {ta tb te to : TE} {d x y : D} {a : Addr} {Φ : Out → Prop} {ds : List D} {Q : D → Mu → Prop}
/-- d.pop(k, x) of a dict cell -/
theorem we_popK {m : List (List Key × D)} {k : List Key} (ho : Ev K to ρ μ (.raw (.ref a))) (hk : Ev K tb ρ μ y) (hx : Ev K te ρ μ x) (hm : μ a = some (.dct m)) (hy : keysOf y = some k)
    (h1 : ∀ d, look m k = some d → Q d (μ.upd a (.dct (dropM m k)))) (h2 : look m k = none → Q x μ) : WE K (tBM K "dict" L2.DX.rPopT to (tCons tb (tCons te tNil))) ρ μ Q := fun G0 H0 G H σ A R q =>
  ho G0 H0 G H σ A _ fun v _ μ1 G1 H1 p1 e1 A1 i1 => by
    obtain ⟨rfl, rfl⟩ := p1
    cases i1
    obtain ⟨_, _, kvs0, g1, _⟩ := A1.rep a _ hm
    refine ⟨.inr (.inr (.inl ⟨rfl, .inr ⟨kvs0, g1⟩⟩)), hk G0 H0 G1 H1 σ A1 _ fun u _ μ2 G2 H2 p2 e2 A2 i2 => ?_⟩
    obtain ⟨rfl, rfl⟩ := p2
    refine hx G0 H0 G2 H2 σ A2 _ fun z xd μ3 G3 H3 p3 e3 A3 i3 => ?_
    obtain ⟨rfl, rfl⟩ := p3
    obtain ⟨_, _, kvs, g3, g4⟩ := A3.rep a _ hm
    obtain ⟨b, rfl, hb⟩ := keysOf_ok hy (i2.mono e3)
    refine ⟨a, kvs, k, b, z, rfl, rfl, g3, A3.gh _ _ hb, fun v hv => ?_, fun hv => ?_⟩
    · cases hl : look m k with
      | none => rw [g4.lookN hl] at hv; cases hv
      | some d =>
        obtain ⟨x', hx', ix⟩ := g4.look hl
        rw [hv] at hx'; cases hx'
        exact q v d _ G3 _ (h1 d hl) (e1.trans (e2.trans e3)) (A3.write hm ⟨_, L2.upd_same, g4.drop⟩) ix
    · cases hl : look m k with
      | none => exact q z _ _ G3 H3 (h2 hl) (e1.trans (e2.trans e3)) A3 i3
      | some d =>
        obtain ⟨x', hx', _⟩ := g4.look hl
        rw [hv] at hx'; cases hx'
/-- xs.index(x) of texts -/
theorem ev_indexS {xs : List Str} {z : Str} {j : Nat} (ho : Ev K to ρ μ (.lst (xs.map D.str))) (hx : Ev K te ρ μ (.str z)) (hj : xs[j]? = some z) (hno : ∀ i, i < j → xs[i]? ≠ some z) : Ev K (tBM K "list" (rIndex K) to (tCons te tNil)) ρ μ (.int (j : Int)) := fun G0 H0 G H σ A R q =>
  ho G0 H0 G H σ A _ fun v _ μ1 G1 H1 p1 e1 A1 i1 => by
    obtain ⟨rfl, rfl⟩ := p1
    obtain ⟨b, vs, rfl, s, l⟩ := i1
    have strs0 : ∀ {xs : List Str} {vs : List V}, IsL K G1 (xs.map D.str) vs → vs = xs.map V.str := by
      intro xs
      induction xs with
      | nil => intro vs h; cases h; rfl
      | cons x xs ih =>
        intro vs h
        obtain ⟨w, r, rfl, i, l⟩ := h
        cases i
        rw [ih l]; rfl
    have ev := strs0 l
    subst ev
    refine ⟨.inl ⟨rfl, _, SqL.of (A1.gh _ _ s)⟩, hx G0 H0 G1 H1 σ A1 _ fun u _ μ2 G2 H2 p2 e2 A2 i2 => ?_⟩
    obtain ⟨rfl, rfl⟩ := p2
    cases i2
    refine ⟨b, xs.map V.str, .str z, j, .str z, rfl, rfl, SqL.of (A2.gh _ _ (e2 _ _ s)), rfl, ?_, by rw [List.getElem?_map, hj]; rfl, ?_, fun i z' hi hz' => ?_, q _ _ _ G2 H2 ⟨rfl, rfl⟩ (e1.trans e2) A2 rfl⟩
    · rw [List.all_eq_true]
      intro v hv
      obtain ⟨x, _, rfl⟩ := List.mem_map.mp hv
      rfl
    · simp [eqV]
    · rw [List.getElem?_map] at hz'
      cases hxi : xs[i]? with
      | none => rw [hxi] at hz'; cases hz'
      | some x =>
        rw [hxi] at hz'; cases hz'
        have : x ≠ z := fun e => hno i hi (by rw [hxi, e])
        simp [eqV, this]
end
end Hw
set_option Elab.async false
set_option linter.all false
set_option maxRecDepth 100000
set_option maxHeartbeats 4000000
/-! The law follows the water. -/
namespace Hw
open PySem PySem.Spec L2
def key3 (j t k : Nat) : List Key := [.inl (j : Int), .inl (t : Int), .inl (k : Int)]
/-- what waits at (j, t, k) when the cells before the i-th are done -/
def Pend (B : Basin) (i : Nat) (j t k : Nat) : Prop := (B.at j).next = some k ∧ (B.at j).travel ≤ t ∧ t < B.months ∧ (j, t - (B.at j).travel) ∈ B.cells.take i ∧ (k, t) ∉ B.cells.take i
/-- what is let down behind the last month -/
def Gone (B : Basin) (c : Cell) : Prop := (B.at c.1).next ≠ none ∧ B.letTo c = none
structure LostT (μ : Mu) (a : Addr) (pend : Nat → Nat → Nat → Prop) (gone : Cell → Prop) (B : Basin) (f : Rows) (n : Nat) : Prop where
  ex : ∃ m, μ a = some (.dct m) ∧ m.length ≤ n ∧ (∀ j t k, (pend j t k → look m (key3 j t k) = some (rowD (f (j, t - (B.at j).travel)))) ∧ (¬ pend j t k → look m (key3 j t k) = none)) ∧
    ∀ c, (gone c → look m (cellK c) = some (rowD (f c))) ∧ (¬ gone c → look m (cellK c) = none)
structure RowsNN (S : TrS) : Prop where
  giv : ∀ x, RowNN (S.giv x)
  lts : ∀ x, RowNN (S.lts x)
  sto : ∀ x, RowNN (S.sto x)
  spi : ∀ x, RowNN (S.spi x)
structure PlanNN (p : Plan) : Prop where
  del0 : ∀ i j, 0 ≤ get2 p.del i j
  rel0 : ∀ i j, 0 ≤ get2 p.rel i j
  sto0 : ∀ i j, 0 ≤ get2 p.sto i j
theorem key3_inj {j t k j' t' k' : Nat} (h : key3 j t k = key3 j' t' k') : j = j' ∧ t = t' ∧ k = k' := by
  unfold key3 at h
  simp at h
  omega
theorem key3_cell {j t k : Nat} {c : Cell} : key3 j t k ≠ cellK c := by
  unfold key3 cellK
  intro h
  have := congrArg List.length h
  simp at this
theorem traceStep_nn {B : Basin} {R : List Right} {p : Plan} {S : TrS} {c : Cell} (h : RowsNN S) : RowsNN (traceStep B R p S c) := by
  have hg : ∀ i x, RowNN ((giveAll R p c (S.giv, rowAt B S c) i).1 x) := fun i => by
    induction i with
    | zero => exact h.giv
    | succ i ih =>
      intro x
      rw [giveAll_succ]
      unfold giveStep
      split
      · show RowNN (updC _ _ _ x)
        unfold updC
        split
        · exact joinRow_nn _
        · exact ih x
      · exact ih x
  have u : ∀ {f : Rows} {r : Row}, (∀ x, RowNN (f x)) → ∀ x, RowNN (updC f c (joinRow r) x) := fun hf x => by
    unfold updC
    split
    · exact joinRow_nn _
    · exact hf x
  exact ⟨hg _, u h.lts, u h.sto, u h.spi⟩
theorem traceTo_nn {B : Basin} {R : List Right} {p : Plan} : ∀ i, i ≤ B.cells.length → RowsNN (traceTo B R p i)
  | 0, _ => ⟨fun _ q hq => (by cases hq), fun _ q hq => (by cases hq), fun _ q hq => (by cases hq), fun _ q hq => (by cases hq)⟩
  | i + 1, h => by
    have hc : B.cells[i]? = some (B.cells[i]'(by omega)) := List.getElem?_eq_getElem _
    rw [traceTo_succ hc]
    exact traceStep_nn (traceTo_nn i (by omega))
theorem rowIn_nn {B : Basin} (ok : B.Ok) {S : TrS} {c : Cell} (hc : B.In c) (h : RowsNN S) : RowNN (rowIn B S c) := by
  have s := ok.s hc.1
  have hi : 0 ≤ B.inf c := by
    unfold Basin.inf
    rw [List.getElem?_eq_getElem (by rw [s.len]; exact hc.2)]
    exact (s.inf _ (List.getElem_mem _)).1
  intro q hq
  unfold rowIn at hq
  rcases List.mem_append.mp hq with z | z
  · rcases List.mem_append.mp z with z | z
    · split at z
      · exact h.sto _ q z
      · rw [List.mem_singleton] at z; rw [z]; exact s.held0
    · obtain ⟨l, hl, hql⟩ := List.mem_flatten.mp z
      obtain ⟨o, _, rfl⟩ := List.mem_map.mp hl
      exact h.lts o q hql
  · rw [List.mem_singleton] at z; rw [z]; exact hi
theorem ups_flat {B : Basin} {c : Cell} {f : Rows} : ((B.ups c).map f).flatten = ((List.range c.1).map fun j => if (B.at j).next = some c.1 ∧ (B.at j).travel ≤ c.2 then f (j, c.2 - (B.at j).travel) else []).flatten := by
  unfold Basin.ups
  generalize List.range c.1 = l
  induction l with
  | nil => rfl
  | cons j l ih =>
    rw [List.filterMap_cons, List.map_cons, List.flatten_cons, ← ih]
    by_cases h : (B.at j).next = some c.1 ∧ (B.at j).travel ≤ c.2
    · rw [if_pos h, if_pos h]; rfl
    · rw [if_neg h, if_neg h]; rfl
theorem giveAll_at {R : List Right} {p : Plan} {c : Cell} {s : Rows × Row} {x : Cell} : ∀ i, i ≤ x.1 → (giveAll R p c s i).1 x = s.1 x
  | 0, _ => rfl
  | i + 1, h => by
    rw [giveAll_succ]
    unfold giveStep
    split
    · show updC _ _ _ x = _
      unfold updC
      rw [if_neg (fun e => by rw [e] at h; simp at h; omega)]
      exact giveAll_at i (by omega)
    · exact giveAll_at i (by omega)
theorem later_not {B : Basin} {i : Nat} {c o : Cell} (hc : B.cells[i]? = some c) (h : cellBefore c o) : o ∉ B.cells.take (i + 1) := fun ho => by
  obtain ⟨j, hj⟩ := List.mem_iff_getElem?.mp ho
  have hji : j < i + 1 := by
    have := (List.getElem?_eq_some_iff.mp hj).1
    rw [List.length_take] at this; omega
  rw [List.getElem?_take_of_lt hji] at hj
  have hp := cells_order B
  rw [List.pairwise_iff_getElem] at hp
  obtain ⟨l1, e1⟩ := List.getElem?_eq_some_iff.mp hc
  obtain ⟨l2, e2⟩ := List.getElem?_eq_some_iff.mp hj
  rcases Nat.lt_or_ge j i with z | z
  · have := hp j i l2 l1 z
    rw [e1, e2] at this
    unfold cellBefore at h this
    omega
  · have : j = i := by omega
    subst this
    rw [e1] at e2
    subst e2
    unfold cellBefore at h
    omega
theorem traceTo_giv0 {B : Basin} {R : List Right} {p : Plan} : ∀ i, i ≤ B.cells.length → ∀ x, ¬ (x.1 < R.length ∧ ∃ k, (k, x.2) ∈ B.cells.take i) → (traceTo B R p i).giv x = []
  | 0, _, x, _ => rfl
  | i + 1, h, x, hx => by
    have hc : B.cells[i]? = some (B.cells[i]'(by omega)) := List.getElem?_eq_getElem _
    generalize B.cells[i]'(by omega) = c at hc
    have htk : B.cells.take (i + 1) = B.cells.take i ++ [c] := by rw [List.take_succ, hc]; rfl
    rw [htk] at hx
    rw [traceTo_succ hc]
    have ih := traceTo_giv0 (R := R) (p := p) i (by omega) x (fun z => hx ⟨z.1, z.2.choose, List.mem_append_left _ z.2.choose_spec⟩)
    show (giveAll R p c ((traceTo B R p i).giv, rowAt B (traceTo B R p i) c) R.length).1 x = []
    have key : ∀ n, n ≤ R.length → (giveAll R p c ((traceTo B R p i).giv, rowAt B (traceTo B R p i) c) n).1 x = [] := fun n => by
      induction n with
      | zero => intro _; exact ih
      | succ n ihn =>
        intro hn
        rw [giveAll_succ]
        unfold giveStep
        split
        · show updC _ _ _ x = []
          unfold updC
          rw [if_neg (fun e => hx ⟨by rw [e]; exact hn, c.1, List.mem_append_right _ (by rw [e]; exact List.mem_singleton.mpr rfl)⟩)]
          exact ihn (by omega)
        · exact ihn (by omega)
    exact key _ (Nat.le_refl _)
theorem LostT.fr {μ μ' : Mu} {a : Addr} {pend : Nat → Nat → Nat → Prop} {gone : Cell → Prop} {B : Basin} {f : Rows} {n : Nat} (h : LostT μ a pend gone B f n) (e : μ' a = μ a) : LostT μ' a pend gone B f n := by
  obtain ⟨m, h1, h2⟩ := h.ex
  exact ⟨m, by rw [e]; exact h1, h2⟩
theorem LostT.cong {μ : Mu} {a : Addr} {pend pend' : Nat → Nat → Nat → Prop} {gone gone' : Cell → Prop} {B : Basin} {f f' : Rows} {n n' : Nat} (h : LostT μ a pend gone B f n) (hp : ∀ j t k, pend' j t k ↔ pend j t k) (hg : ∀ c, gone' c ↔ gone c) (hf : ∀ j t k, pend j t k → f' (j, t - (B.at j).travel) = f (j, t - (B.at j).travel)) (hf2 : ∀ c, gone c → f' c = f c) (hn : n ≤ n') : LostT μ a pend' gone' B f' n' := by
  obtain ⟨m, h1, h2, h3, h4⟩ := h.ex
  exact ⟨m, h1, Nat.le_trans h2 hn, fun j t k => ⟨fun z => by rw [hf j t k ((hp j t k).mp z)]; exact (h3 j t k).1 ((hp j t k).mp z), fun z => (h3 j t k).2 fun y => z ((hp j t k).mpr y)⟩, fun c => ⟨fun z => by rw [hf2 c ((hg c).mp z)]; exact (h4 c).1 ((hg c).mp z), fun z => (h4 c).2 fun y => z ((hg c).mpr y)⟩⟩
theorem cells_get {B : Basin} {i : Nat} {c : Cell} (hc : B.cells[i]? = some c) : c ∉ B.cells.take i := fun h => by
  obtain ⟨j, hj⟩ := List.mem_iff_getElem?.mp h
  have hji : j < i := by
    have := (List.getElem?_eq_some_iff.mp hj).1
    rw [List.length_take] at this; omega
  rw [List.getElem?_take_of_lt hji] at hj
  have hp := cells_order B
  rw [List.pairwise_iff_getElem] at hp
  obtain ⟨l1, e1⟩ := List.getElem?_eq_some_iff.mp hc
  obtain ⟨l2, e2⟩ := List.getElem?_eq_some_iff.mp hj
  have := hp j i l2 l1 hji
  rw [e1, e2] at this
  unfold cellBefore at this
  omega
theorem pend_here {B : Basin} (ok : B.Ok) {i j : Nat} {c : Cell} (hc : B.cells[i]? = some c) : Pend B i j c.2 c.1 ↔ (B.at j).next = some c.1 ∧ (B.at j).travel ≤ c.2 := by
  have hin := mem_cells.mp (List.mem_of_getElem? hc)
  constructor
  · intro h; exact ⟨h.1, h.2.1⟩
  · rintro ⟨h1, h2⟩
    have hj : j < B.sites.length := by
      rcases Nat.lt_or_ge j B.sites.length with z | z
      · exact z
      · have : B.at j = default := by unfold Basin.at; rw [List.getElem?_eq_none z]; rfl
        rw [this] at h1; cases h1
    have h3 := ((ok.s hj).next _ h1).1
    refine ⟨h1, h2, hin.2, take_before hc ⟨hj, ?_⟩ ?_, cells_get hc⟩
    · have := hin.2
      show c.2 - (B.at j).travel < B.months
      omega
    · unfold cellBefore
      simp only
      omega
theorem pend_succ {B : Basin} (ok : B.Ok) {i j t k : Nat} {c : Cell} (hc : B.cells[i]? = some c) : Pend B (i + 1) j t k ↔ (Pend B i j t k ∧ ¬ (t = c.2 ∧ k = c.1)) ∨ (j = c.1 ∧ (B.at c.1).next = some k ∧ t = c.2 + (B.at c.1).travel ∧ t < B.months) := by
  have hin := mem_cells.mp (List.mem_of_getElem? hc)
  have htk : B.cells.take (i + 1) = B.cells.take i ++ [c] := by rw [List.take_succ, hc]; rfl
  obtain ⟨c1, c2⟩ := c
  unfold Pend
  rw [htk, List.mem_append, List.mem_append, List.mem_singleton, List.mem_singleton]
  constructor
  · rintro ⟨h1, h2, h3, h4, h5⟩
    rcases h4 with h4 | h4
    · exact .inl ⟨⟨h1, h2, h3, h4, fun z => h5 (.inl z)⟩, fun z => h5 (.inr (by rw [z.1, z.2]))⟩
    · injection h4 with h6 h7
      subst h6
      exact .inr ⟨rfl, h1, by simp only; omega, h3⟩
  · rintro (⟨⟨h1, h2, h3, h4, h5⟩, h6⟩ | ⟨h1, h2, h3, h4⟩)
    · exact ⟨h1, h2, h3, .inl h4, fun z => z.elim h5 fun z => h6 (by injection z with z1 z2; exact ⟨z2, z1⟩)⟩
    · subst h1
      simp only at h2 h3
      have h7 := ((ok.s hin.1).next _ h2).1
      simp only at h7
      refine ⟨h2, by omega, h4, .inr (by rw [h3, Nat.add_sub_cancel]), fun z => ?_⟩
      have hlt : cellBefore (j, c2) (k, t) := by unfold cellBefore; simp only; omega
      have := later_not hc hlt
      rw [htk, List.mem_append, List.mem_singleton] at this
      exact this z
theorem LostT.drop {μ : Mu} {a : Addr} {pend : Nat → Nat → Nat → Prop} {gone : Cell → Prop} {B : Basin} {f : Rows} {n j t k : Nat} {m : List (List Key × D)} (hz : m.length ≤ n) (h : (∀ j t k, (pend j t k → look m (key3 j t k) = some (rowD (f (j, t - (B.at j).travel)))) ∧ (¬ pend j t k → look m (key3 j t k) = none)) ∧
    ∀ c, (gone c → look m (cellK c) = some (rowD (f c))) ∧ (¬ gone c → look m (cellK c) = none)) : LostT (μ.upd a (.dct (dropM m (key3 j t k)))) a (fun j' t' k' => pend j' t' k' ∧ ¬ (j' = j ∧ t' = t ∧ k' = k)) gone B f n := by
  refine ⟨_, Mu.upd_same, Nat.le_trans (drop_len _ _) hz, fun j' t' k' => ?_, fun c => ?_⟩
  · rw [look_drop]
    by_cases e : key3 j' t' k' = key3 j t k
    · rw [if_pos e]
      exact ⟨fun z => absurd (key3_inj e) z.2, fun _ => rfl⟩
    · rw [if_neg e]
      exact ⟨fun z => (h.1 j' t' k').1 z.1, fun z => (h.1 j' t' k').2 fun y => z ⟨y, fun w => e (by rw [w.1, w.2.1, w.2.2])⟩⟩
  · rw [look_drop, if_neg (fun z => key3_cell z.symm)]
    exact h.2 c
theorem LostT.put3 {μ : Mu} {a : Addr} {pend : Nat → Nat → Nat → Prop} {gone : Cell → Prop} {B : Basin} {f : Rows} {n j t k : Nat} {y : Row} {m : List (List Key × D)} (hz : m.length ≤ n) (h : (∀ j t k, (pend j t k → look m (key3 j t k) = some (rowD (f (j, t - (B.at j).travel)))) ∧ (¬ pend j t k → look m (key3 j t k) = none)) ∧
    ∀ c, (gone c → look m (cellK c) = some (rowD (f c))) ∧ (¬ gone c → look m (cellK c) = none))
    (hp : ∀ j' t' k', pend j' t' k' → (j', t' - (B.at j').travel) ≠ (j, t - (B.at j).travel)) (hg : ∀ c, gone c → c ≠ (j, t - (B.at j).travel)) : LostT (μ.upd a (.dct (put m (key3 j t k) (rowD y)))) a (fun j' t' k' => pend j' t' k' ∨ (j' = j ∧ t' = t ∧ k' = k)) gone B (updC f (j, t - (B.at j).travel) y) (n + 1) := by
  refine ⟨_, Mu.upd_same, Nat.le_trans (put_len _ _ _) (by omega), fun j' t' k' => ?_, fun c => ?_⟩
  · rw [look_put]
    by_cases e : key3 j' t' k' = key3 j t k
    · rw [if_pos e]
      obtain ⟨e1, e2, e3⟩ := key3_inj e
      refine ⟨fun _ => ?_, fun z => absurd (.inr ⟨e1, e2, e3⟩) z⟩
      unfold updC
      rw [e1, e2, if_pos rfl]
    · rw [if_neg e]
      refine ⟨fun z => ?_, fun z => (h.1 j' t' k').2 fun y => z (.inl y)⟩
      rcases z with z | z
      · unfold updC
        rw [if_neg (hp _ _ _ z)]
        exact (h.1 j' t' k').1 z
      · exact absurd (by rw [z.1, z.2.1, z.2.2]) e
  · rw [look_put, if_neg (fun z => key3_cell z.symm)]
    refine ⟨fun z => ?_, (h.2 c).2⟩
    unfold updC
    rw [if_neg (hg c z)]
    exact (h.2 c).1 z
theorem LostT.putC {μ : Mu} {a : Addr} {pend : Nat → Nat → Nat → Prop} {gone : Cell → Prop} {B : Basin} {f : Rows} {n : Nat} {c : Cell} {y : Row} {m : List (List Key × D)} (hz : m.length ≤ n) (h : (∀ j t k, (pend j t k → look m (key3 j t k) = some (rowD (f (j, t - (B.at j).travel)))) ∧ (¬ pend j t k → look m (key3 j t k) = none)) ∧
    ∀ c, (gone c → look m (cellK c) = some (rowD (f c))) ∧ (¬ gone c → look m (cellK c) = none))
    (hp : ∀ j' t' k', pend j' t' k' → (j', t' - (B.at j').travel) ≠ c) : LostT (μ.upd a (.dct (put m (cellK c) (rowD y)))) a pend (fun x => gone x ∨ x = c) B (updC f c y) (n + 1) := by
  refine ⟨_, Mu.upd_same, Nat.le_trans (put_len _ _ _) (by omega), fun j' t' k' => ?_, fun x => ?_⟩
  · rw [look_put, if_neg (fun z => key3_cell z)]
    refine ⟨fun z => ?_, (h.1 j' t' k').2⟩
    unfold updC
    rw [if_neg (hp _ _ _ z)]
    exact (h.1 j' t' k').1 z
  · rw [look_put]
    by_cases e : x = c
    · rw [if_pos (by rw [e])]
      refine ⟨fun _ => ?_, fun z => absurd (.inr e) z⟩
      unfold updC
      rw [if_pos e]
    · rw [if_neg (fun z => e (cellK_inj z))]
      refine ⟨fun z => ?_, fun z => (h.2 x).2 fun w => z (.inl w)⟩
      unfold updC
      rw [if_neg e]
      exact (h.2 x).1 (z.elim id fun w => absurd w e)
theorem LostT.cut {μ : Mu} {a : Addr} {pend : Nat → Nat → Nat → Prop} {gone : Cell → Prop} {B : Basin} {f : Rows} {n : Nat} {c : Cell} {y : Row} (h : LostT μ a pend gone B f n) (hp : ∀ j' t' k', pend j' t' k' → (j', t' - (B.at j').travel) ≠ c) (hg : ∀ x, gone x → x ≠ c) : LostT μ a pend gone B (updC f c y) n :=
  h.cong (fun _ _ _ => Iff.rfl) (fun _ => Iff.rfl) (fun j t k z => by unfold updC; rw [if_neg (hp j t k z)]) (fun x z => by unfold updC; rw [if_neg (hg x z)]) (Nat.le_refl _)
section
variable {P : Program} {w : World} {K : PySem.W.Frag} {mg : Str → Option Value} {base : Heap}
theorem sc_law_followed : FnScope ["_law_basin_here", "_law_rights_here", "_law_plan", "_law_got", "_law_kept", "_law_spilled", "_law_lost", "_law_k", "_law_m", "_law_site", "_law_row", "_law_j", "_law_r", "_law_let", "_law_place", "_law_other"] ["_law_basin_here", "_law_rights_here", "_law_plan"] (defScope s_law_followed) := ⟨rfl, rfl, rfl, by decide +kernel, rfl, by decide +kernel, by decide +kernel⟩
-- _law_followed: 0 _law_basin_here, 1 _law_rights_here, 2 _law_plan, 3 _law_got, 4 _law_kept, 5 _law_spilled, 6 _law_lost, 7 _law_k, 8 _law_m, 9 _law_site, 10 _law_row, 11 _law_j, 12 _law_r, 13 _law_let, 14 _law_place, 15 _law_other
structure FAds where
  g : Addr
  k : Addr
  s : Addr
  l : Addr
structure FolSt (μ : Mu) (d : FAds) (B : Basin) (R : List Right) (dg dc : Cell → Prop) (pend : Nat → Nat → Nat → Prop) (gone : Cell → Prop) (S : TrS) (n : Nat) : Prop where
  g : Tbl rowD μ d.g dg S.giv n
  k : Tbl rowD μ d.k dc S.sto n
  s : Tbl rowD μ d.s dc S.spi n
  l : LostT μ d.l pend gone B S.lts n
def S_law_followed : Spec := fun ds μ Q => ∃ (B : Basin) (R : List Right) (p : Plan), ds = [basinD B, rightsD R, planD p] ∧ B.Ok ∧ RightsOk B R ∧ p.Shape B R ∧ PlanNN p ∧
  ∀ (d : FAds) (μ' : Mu), μ.sub μ' → FolSt μ' d B R (fun x => x.1 < R.length ∧ x.2 < B.months) (fun x => x ∈ B.cells) (fun _ _ _ => False) (fun x => Gone B x ∧ x ∈ B.cells) (traceAll B R p) 1000 → Q (.lst [.raw (.ref d.g), .raw (.ref d.k), .raw (.ref d.s), .raw (.ref d.l)]) μ'
theorem len_law_followed : S_law_followed.len 3 := fun ds μ Q h => by obtain ⟨_, _, _, rfl, _⟩ := h; rfl
theorem mono_law_followed : Mono S_law_followed := fun ds μ P P' f h => by obtain ⟨B, R, p, e, h1, h2, h3, h4, q⟩ := h; exact ⟨B, R, p, e, h1, h2, h3, h4, fun d μ' a b => f _ _ (q d μ' a b)⟩
theorem c_law_followed (Fx : Fx K mg) : Cal P w K mg base 3 "_law_followed" S_law_followed := by
  have hlen : Spec.len S_law_followed 3 := len_law_followed
  obtain ⟨fd, F⟩ := Fx.c.def_ 53 (d := d_law_followed) rfl
  refine ⟨_, fd, ["_law_basin_here", "_law_rights_here", "_law_plan"], fnok F sc_law_followed hlen (fun cdv A outer s H E hr => ?_), Fx.glo 35, F.kp, FunD.bindsN F fun _ _ _ _ _ _ us hl => match us, hl with | [_, _, _], _ => rfl⟩
  have hu := hu_of hr
  have nd := sc_law_followed.nd
  refine ⟨_, (pss_cons (ps_set (i := 3) nd rfl (by first | exact Or.inl rfl | exact Or.inr rfl) pe_dnewT)
      (pss_cons (ps_set (i := 4) nd rfl (by first | exact Or.inl rfl | exact Or.inr rfl) pe_dnewT)
      (pss_cons (ps_set (i := 5) nd rfl (by first | exact Or.inl rfl | exact Or.inr rfl) pe_dnewT)
      (pss_cons (ps_set (i := 6) nd rfl (by first | exact Or.inl rfl | exact Or.inr rfl) pe_dnewT)
      (pss_cons (ps_for PassesOwn.never rfl (k_list_ (K := K) (k_cal (c_law_cells Fx) hr (by decide) rfl (pa_cons (pv 0) pa_nil))) (pg_tup rfl (pgs_cons (pg_name (i := 7) nd rfl (by first | exact Or.inl rfl | exact Or.inr rfl)) (pgs_cons (pg_name (i := 8) nd rfl (by first | exact Or.inl rfl | exact Or.inr rfl)) pgs_nil))) (pss_cons (ps_set (i := 9) nd rfl (by first | exact Or.inl rfl | exact Or.inr rfl) (pe_ix (k_ix (K := K)) (pe_ix (k_ix (K := K)) (pv 0) pe_int (fun _ _ => rfl)) (pv 7) (fun _ _ => rfl)))
      (pss_cons (ps_set (i := 10) nd rfl (by first | exact Or.inl rfl | exact Or.inr rfl) (pe_dget2 hu (pv 4) (pe_tup (pa_cons (pv 7) (pa_cons (pe_op op_sub (pv 8) pe_int) pa_nil))) (pe_lst pa_nil) ⟨by rfl, by rfl, by rfl, by rfl⟩))
      (pss_cons (ps_if (pt_cmpR op_eq (pv 8) pe_int (nomark _)) (pss_one (ps_set (i := 10) nd rfl (by first | exact Or.inl rfl | exact Or.inr rfl) (pe_lst (pa_cons (pe_tup (pa_cons (pe_tup (pa_cons pe_str (pa_cons (pv 7) pa_nil))) (pa_cons (pe_ix (k_ix (K := K)) (pv 9) pe_int (fun _ _ => rfl)) pa_nil))) pa_nil)))) pss_nil)
      (pss_cons (ps_for PassesOwn.never rfl (pi_range1 rfl (Fx.free 98) (pa_cons (pv 7) pa_nil)) (pg_name (i := 11) nd rfl (by first | exact Or.inl rfl | exact Or.inr rfl)) (pss_one (ps_set (i := 10) nd rfl (by first | exact Or.inl rfl | exact Or.inr rfl) (pe_op op_cat (pv 10) (pe_bm PySem.F.plainAttrs_dict PySem.F.slot_dict_pop PySem.F.type_dict_pop (L2.DX.mt_popT hu) (pv 6) (pa_cons (pe_tup (pa_cons (pv 11) (pa_cons (pv 8) (pa_cons (pv 7) pa_nil)))) (pa_cons (pe_lst pa_nil) pa_nil)))))))
      (pss_cons (ps_set (i := 10) nd rfl (by first | exact Or.inl rfl | exact Or.inr rfl) (k_cal (c_law_joined Fx) hr (by decide) rfl (pa_cons (pe_op op_cat (pv 10) (pe_lst (pa_cons (pe_tup (pa_cons (pe_tup (pa_cons pe_str (pa_cons (pv 7) (pa_cons (pv 8) pa_nil)))) (pa_cons (pe_ix (k_ix (K := K)) (pe_ix (k_ix (K := K)) (pv 9) pe_int (fun _ _ => rfl)) (pv 8) (fun _ _ => rfl)) pa_nil))) pa_nil))) pa_nil)))
      (pss_cons (ps_for PassesOwn.never rfl (pi_range1 rfl (Fx.free 98) (pa_cons (pe_callB (k_len (K := K)) (by rfl) (Fx.free 97) PySem.boot_len (pa_cons (pv 1) pa_nil)) pa_nil)) (pg_name (i := 12) nd rfl (by first | exact Or.inl rfl | exact Or.inr rfl)) (pss_cons (ps_dput hu (pv 3) (pe_tup (pa_cons (pv 12) (pa_cons (pv 8) pa_nil))) (pe_dget2 hu (pv 3) (pe_tup (pa_cons (pv 12) (pa_cons (pv 8) pa_nil))) (pe_lst pa_nil) ⟨by rfl, by rfl, by rfl, by rfl⟩) rfl)
      (pss_one (ps_if (pt_cmpR op_eq (pe_ix (k_ix (K := K)) (pe_ix (k_ix (K := K)) (pv 1) (pv 12) (fun _ _ => rfl)) pe_int (fun _ _ => rfl)) (pe_ix (k_ix (K := K)) (pv 9) pe_int (fun _ _ => rfl)) (nomark _)) (pss_one (ps_asg (k_cal (c_law_used Fx) hr (by decide) rfl (pa_cons (pv 10) (pa_cons (pe_ix (k_ix (K := K)) (pe_ix (k_ix (K := K)) (pe_ix (k_ix (K := K)) (pv 2) pe_int (fun _ _ => rfl)) (pv 12) (fun _ _ => rfl)) (pv 8) (fun _ _ => rfl)) pa_nil))) (pg_unl rfl (pgs_cons (pg_sub (pv 3) (pe_tup (pa_cons (pv 12) (pa_cons (pv 8) pa_nil))) (set_dict hu)) (pgs_cons (pg_name (i := 10) nd rfl (by first | exact Or.inl rfl | exact Or.inr rfl)) pgs_nil))))) pss_nil))))
      (pss_cons (ps_asg (k_cal (c_law_used Fx) hr (by decide) rfl (pa_cons (pv 10) (pa_cons (pe_ix (k_ix (K := K)) (pe_ix (k_ix (K := K)) (pe_ix (k_ix (K := K)) (pv 2) pe_int (fun _ _ => rfl)) (pv 7) (fun _ _ => rfl)) (pv 8) (fun _ _ => rfl)) pa_nil))) (pg_unl rfl (pgs_cons (pg_name (i := 13) nd rfl (by first | exact Or.inl rfl | exact Or.inr rfl)) (pgs_cons (pg_name (i := 10) nd rfl (by first | exact Or.inl rfl | exact Or.inr rfl)) pgs_nil))))
      (pss_cons (ps_if (pt_cmp (pc_notN (pe_ix (k_ix (K := K)) (pv 9) pe_int (fun _ _ => rfl)))) (pss_cons (ps_set (i := 14) nd rfl (by first | exact Or.inl rfl | exact Or.inr rfl) (pe_bm PySem.F.plainAttrs_list PySem.F.slot_list_index PySem.F.type_list_index (k_index (K := K)) (pe_lc (own := [("_law_other", 15)]) (g := (gName 15)) (tt := tYes) rfl nd (k_tup_ (K := K) (pe_ix (k_ix (K := K)) (pv 0) pe_int (fun _ _ => rfl))) (blkOk_by (by kernel_rfl)) (fun _ _ _ _ _ => by exact (pg_name (i := 15) nd rfl (by first | exact Or.inl rfl | exact Or.inr rfl))) (fun _ _ _ _ _ => by exact pts_nil) (fun _ _ _ _ _ => by exact (pe_ix (k_ix (K := K)) (pv 15) pe_int (fun _ _ => rfl)))) (pa_cons (pe_ix (k_ix (K := K)) (pv 9) pe_int (fun _ _ => rfl)) pa_nil)))
      (pss_one (ps_if (pt_cmpR op_lt (pe_op op_add (pv 8) (pe_ix (k_ix (K := K)) (pv 9) pe_int (fun _ _ => rfl))) (pe_ix (k_ix (K := K)) (pv 0) pe_int (fun _ _ => rfl)) (nomark _)) (pss_one (ps_dput hu (pv 6) (pe_tup (pa_cons (pv 7) (pa_cons (pe_op op_add (pv 8) (pe_ix (k_ix (K := K)) (pv 9) pe_int (fun _ _ => rfl))) (pa_cons (pv 14) pa_nil)))) (pv 13) rfl)) (pss_one (ps_dput hu (pv 6) (pe_tup (pa_cons (pv 7) (pa_cons (pv 8) pa_nil))) (pv 13) rfl))))) pss_nil)
      (pss_cons (ps_asg (k_cal (c_law_used Fx) hr (by decide) rfl (pa_cons (pv 10) (pa_cons (pe_ix (k_ix (K := K)) (pe_ix (k_ix (K := K)) (pe_ix (k_ix (K := K)) (pv 2) pe_int (fun _ _ => rfl)) (pv 7) (fun _ _ => rfl)) (pv 8) (fun _ _ => rfl)) pa_nil))) (pg_unl rfl (pgs_cons (pg_sub (pv 4) (pe_tup (pa_cons (pv 7) (pa_cons (pv 8) pa_nil))) (set_dict hu)) (pgs_cons (pg_name (i := 10) nd rfl (by first | exact Or.inl rfl | exact Or.inr rfl)) pgs_nil))))
      (pss_one (ps_dput hu (pv 5) (pe_tup (pa_cons (pv 7) (pa_cons (pv 8) pa_nil))) (pv 10) rfl))))))))))))
      (pss_one (ps_ret (pe_lst (pa_cons (pv 3) (pa_cons (pv 4) (pa_cons (pv 5) (pa_cons (pv 6) pa_nil)))))))))))), fun ds μ Pq hS => ?_⟩
  obtain ⟨B, R, p, rfl, ok, rok, sh, nn, q⟩ := hS
  have hm4 := ok.m4
  have hn3 := ok.n3
  have h6 := ok.six
  have R3 := rok.1
  refine q_newD fun g hg => q_newD fun k hk => q_newD fun s hs => q_newD fun l hl => ?_
  have gk : k ≠ g := fun e => by rw [e, Mu.upd_same] at hk; cases hk
  have gs : s ≠ g := fun e => by
    rw [e, Mu.upd_ne (Ne.symm gk), Mu.upd_same] at hs; cases hs
  have ks : s ≠ k := fun e => by rw [e, Mu.upd_same] at hs; cases hs
  have gl : l ≠ g := fun e => by
    rw [e, Mu.upd_ne (Ne.symm gs), Mu.upd_ne (Ne.symm gk), Mu.upd_same] at hl; cases hl
  have kl : l ≠ k := fun e => by
    rw [e, Mu.upd_ne (Ne.symm ks), Mu.upd_same] at hl; cases hl
  have sl : l ≠ s := fun e => by rw [e, Mu.upd_same] at hl; cases hl
  have fg := hg
  have fk : μ k = none := by rw [Mu.upd_ne gk] at hk; exact hk
  have fs : μ s = none := by rw [Mu.upd_ne ks, Mu.upd_ne gs] at hs; exact hs
  have fl : μ l = none := by rw [Mu.upd_ne sl, Mu.upd_ne kl, Mu.upd_ne gl] at hl; exact hl
  have sub0 : μ.sub ((((μ.upd g (.dct [])).upd k (.dct [])).upd s (.dct [])).upd l (.dct [])) := Mu.sub_upd2 (Mu.sub_upd2 (Mu.sub_upd2 (Mu.sub_upd fg) fk) fs) fl
  have st0 : FolSt ((((μ.upd g (.dct [])).upd k (.dct [])).upd s (.dct [])).upd l (.dct [])) ⟨g, k, s, l⟩ B R (fun _ => False) (fun _ => False) (fun _ _ _ => False) (fun _ => False) S0 0 :=
    ⟨(Tbl.new (μ := μ)).fr (by show _ = _; rw [Mu.upd_ne (Ne.symm gl), Mu.upd_ne (Ne.symm gs), Mu.upd_ne (Ne.symm gk)]), (Tbl.new (μ := μ.upd g (.dct []))).fr (by show _ = _; rw [Mu.upd_ne (Ne.symm kl), Mu.upd_ne (Ne.symm ks)]), (Tbl.new (μ := (μ.upd g (.dct [])).upd k (.dct []))).fr (by show _ = _; rw [Mu.upd_ne (Ne.symm sl)]), ⟨[], Mu.upd_same, Nat.le_refl _, fun _ _ _ => ⟨fun z => z.elim, fun _ => rfl⟩, fun _ => ⟨fun z => z.elim, fun _ => rfl⟩⟩⟩
  generalize ((((μ.upd g (.dct [])).upd k (.dct [])).upd s (.dct [])).upd l (.dct [])) = μ1 at sub0 st0
  refine pw_seq (pw_for (fun i ρ μ' => μ.sub μ' ∧ FolSt μ' ⟨g, k, s, l⟩ B R (fun x => x.1 < R.length ∧ ∃ j, (j, x.2) ∈ B.cells.take i) (fun x => x ∈ B.cells.take i) (Pend B i) (fun x => Gone B x ∧ x ∈ B.cells.take i) (traceTo B R p i) (20 * i) ∧ ∃ a7 a8 a9 a10 a11 a12 a13 a14 a15, ρ = [some (basinD B), some (rightsD R), some (planD p), some (.raw (.ref g)), some (.raw (.ref k)), some (.raw (.ref s)), some (.raw (.ref l)), a7, a8, a9, a10, a11, a12, a13, a14, a15]) ?_)
  refine wi_lstE (ev_call (ea_cons (V' 0) ea_nil) ⟨B, rfl, ok, rfl, rfl⟩ mono_law_cells) ⟨⟨sub0, ?_, none, none, none, none, none, none, none, none, none, rfl⟩, fun _ _ _ _ => trivial, ?_, ?_⟩
  · exact ⟨st0.g.cong (fun x => ⟨fun h => (by obtain ⟨_, _, h⟩ := h; cases h), fun h => h.elim⟩) (fun _ h => h.elim) (Nat.zero_le _), st0.k.cong (fun x => ⟨fun h => (by cases h), fun h => h.elim⟩) (fun _ h => h.elim) (Nat.zero_le _), st0.s.cong (fun x => ⟨fun h => (by cases h), fun h => h.elim⟩) (fun _ h => h.elim) (Nat.zero_le _), st0.l.cong (fun _ _ _ => ⟨fun h => (by cases h.2.2.2.1), fun h => h.elim⟩) (fun x => ⟨fun h => (by cases h.2), fun h => h.elim⟩) (fun _ _ _ h => h.elim) (fun _ h => h.elim) (Nat.zero_le _)⟩
  · rintro i e ρ μ3 he ⟨sub3, S3, a7, a8, a9, a10, a11, a12, a13, a14, a15, rfl⟩
    rw [List.getElem?_map] at he
    cases hc : B.cells[i]? with
    | none => rw [hc] at he; cases he
    | some c =>
      rw [hc] at he; cases he
      have hin := mem_cells.mp (List.mem_of_getElem? hc)
      have hil : i < B.months * B.sites.length := by rw [← cells_len]; exact (List.getElem?_eq_some_iff.mp hc).1
      have hc2 : c.1 ≤ 2 := by have := hin.1; omega
      have so := ok.s hin.1
      have htk : B.cells.take (i + 1) = B.cells.take i ++ [c] := by rw [List.take_succ, hc]; rfl
      have hlen : (rowIn B (traceTo B R p i) c).length ≤ 10000 := by
        have h1 := rowIn_len (B := B) (traceTo_le ok (R := R) (p := p) i (by rw [cells_len]; omega)) hc2
        have h2 := rowB_mono (i := i) (j := 6) (by omega)
        have h3 : rowB 6 = 728 := rfl
        omega
      have Tnn := traceTo_nn (B := B) (R := R) (p := p) i (by rw [cells_len]; omega)
      have hnn := rowIn_nn ok hin Tnn
      refine wg_tup rfl (wgs_cons (wg_name (wgs_cons (wg_name (wgs_nil ?_)))))
      refine q_set (ev_ixN (ev_ix (V' (d := basinD B) 0) ev_int) (V' 7) (siteAt hin.1)) ?_
      have hrow : rowIn B (traceTo B R p i) c = ((if 0 < c.2 then (traceTo B R p i).sto (c.1, c.2 - 1) else [(.held c.1, (B.at c.1).held)]) ++ ((B.ups c).map (traceTo B R p i).lts).flatten) ++ [(.inn c.1 c.2, B.inf c)] := rfl
      generalize h0 : (if 0 < c.2 then (traceTo B R p i).sto (c.1, c.2 - 1) else [(Org.held c.1, (B.at c.1).held)] : Row) = r0 at hrow
      obtain ⟨mk, hmk, hzk, hlk⟩ := S3.k
      refine q_set (d := (look mk [.inl (c.1 : Int), .inl ((c.2 : Int) - 1)]).getD (.lst [])) (ev_dget2 (V' (d := .raw (.ref k)) 4) (ev_tup (ea_cons (V' 7) (ea_cons (ev_sub (V' 8) ev_int) ea_nil))) (ev_lst ea_nil) (.inr ⟨k, rfl, hmk⟩) rfl) ?_
      refine pw_seq (PW.to (ρ' := [some (basinD B), some (rightsD R), some (planD p), some (.raw (.ref g)), some (.raw (.ref k)), some (.raw (.ref s)), some (.raw (.ref l)), some (.int (c.1 : Int)), some (.int (c.2 : Int)), some (siteD c.1 (B.at c.1)), some (rowD r0), a11, a12, a13, a14, a15]) (μ' := μ3) (s_when (b := decide (c.2 = 0)) ?_ (fun h => ?_) (fun h => ?_)) ?_)
      · have e : decide (c.2 = 0) = decide ((c.2 : Int) = 0) := by rw [decide_eq_decide]; omega
        rw [e]
        exact et_test (ev_eqI (V' 8) ev_int)
      · have h := of_decide_eq_true h
        rw [if_neg (by omega)] at h0
        rw [← h0]
        exact s_set (ev_lst (ea_cons (ev_tup (ea_cons (ev_tup (ea_cons ev_str (ea_cons (V' 7) ea_nil))) (ea_cons (ev_ix (V' (d := siteD c.1 (B.at c.1)) 9) ev_int) ea_nil))) ea_nil)) rfl
      · have h := of_decide_eq_false h
        rw [if_pos (by omega)] at h0
        have e2 : ((c.2 - 1 : Nat) : Int) = (c.2 : Int) - 1 := by omega
        have hb := (hlk (c.1, c.2 - 1)).1 (take_before hc ⟨hin.1, by show c.2 - 1 < B.months; have := hin.2; omega⟩ (.inl (by show c.2 - 1 < c.2; omega)))
        have e3 : cellK (c.1, c.2 - 1) = [.inl (c.1 : Int), .inl ((c.2 : Int) - 1)] := by rw [← e2]; rfl
        rw [e3] at hb
        rw [hb, ← h0]; rfl
      have hl3 : r0.length + ((B.ups c).map (traceTo B R p i).lts).flatten.length + 1 ≤ 10000 := by
        rw [hrow, List.length_append, List.length_append] at hlen
        simpa using hlen
      have hstep : traceTo B R p (i + 1) = traceStep B R p (traceTo B R p i) c := traceTo_succ hc
      have hg0 := traceTo_giv0 (B := B) (R := R) (p := p) i (by rw [cells_len]; omega)
      rw [hstep]
      clear hstep
      generalize traceTo B R p i = S at *
      have hfl := ups_flat (B := B) (c := c) (f := S.lts)
      refine pw_seq (pw_for (fun j ρ μ' => μ.sub μ' ∧ μ' g = μ3 g ∧ μ' k = μ3 k ∧ μ' s = μ3 s ∧ LostT μ' l (fun j' t k' => Pend B i j' t k' ∧ ¬ (t = c.2 ∧ k' = c.1 ∧ j' < j)) (fun x => Gone B x ∧ x ∈ B.cells.take i) B S.lts (20 * i) ∧ ∃ a11 a12 a13 a14 a15, ρ = [some (basinD B), some (rightsD R), some (planD p), some (.raw (.ref g)), some (.raw (.ref k)), some (.raw (.ref s)), some (.raw (.ref l)), some (.int (c.1 : Int)), some (.int (c.2 : Int)), some (siteD c.1 (B.at c.1)), some (rowD (r0 ++ ((List.range j).map fun j => if (B.at j).next = some c.1 ∧ (B.at j).travel ≤ c.2 then S.lts (j, c.2 - (B.at j).travel) else []).flatten)), a11, a12, a13, a14, a15]) ?_)
      refine wi_rngE (n := c.1) (ea_cons (V' 7) ea_nil) (by omega) ⟨⟨sub3, rfl, rfl, rfl, S3.l.cong (fun _ _ _ => ⟨fun h => h.1, fun h => ⟨h, fun z => absurd z.2.2 (Nat.not_lt_zero _)⟩⟩) (fun _ => Iff.rfl) (fun _ _ _ _ => rfl) (fun _ _ => rfl) (Nat.le_refl _), a11, a12, a13, a14, a15, ?_⟩, fun _ _ _ _ => trivial, ?_, ?_⟩
      · rw [List.range_zero, List.map_nil, List.flatten_nil, List.append_nil]
      · rintro j e ρ μ4 he ⟨sub4, eg, ek, es, L4, b11, b12, b13, b14, b15, rfl⟩
        obtain ⟨hj, rfl⟩ := rngD0 he
        have hz : ((List.range (j + 1)).map fun j => if (B.at j).next = some c.1 ∧ (B.at j).travel ≤ c.2 then S.lts (j, c.2 - (B.at j).travel) else []).flatten.length ≤ ((B.ups c).map S.lts).flatten.length := by
          rw [hfl]
          have h1 : List.range c.1 = (List.range c.1).take (j + 1) ++ (List.range c.1).drop (j + 1) := (List.take_append_drop _ _).symm
          have h2 : (List.range c.1).take (j + 1) = List.range (j + 1) := by rw [List.take_range, Nat.min_eq_left (by omega)]
          rw [h1, h2, List.map_append, List.flatten_append, List.length_append]; omega
        rw [List.range_succ, List.map_append, List.flatten_append, List.length_append] at hz
        rw [List.range_succ, List.map_append, List.flatten_append, ← List.append_assoc]
        have ej : ∀ x : Row, [x].flatten = x := fun x => by simp
        simp only [List.map_cons, List.map_nil, ej] at hz ⊢
        generalize hx : (if (B.at j).next = some c.1 ∧ (B.at j).travel ≤ c.2 then S.lts (j, c.2 - (B.at j).travel) else [] : Row) = x at *
        obtain ⟨ml, hml, hzl, hll⟩ := L4.ex
        have hph := pend_here ok (j := j) hc
        have hzz : (List.map parD (r0 ++ ((List.range j).map fun j => if (B.at j).next = some c.1 ∧ (B.at j).travel ≤ c.2 then S.lts (j, c.2 - (B.at j).travel) else []).flatten)).length + (x.map parD).length ≤ sizeLine := sz_of (by rw [List.length_map, List.length_map, List.length_append]; omega)
        have emap : ∀ y : Row, D.lst (y.map parD ++ x.map parD) = rowD (y ++ x) := fun y => by unfold rowD; rw [List.map_append]
        refine wg_name (pw_set (we_op ((V' 10).go (we_popK (V' 6) (ev_tup (ea_cons (V' 11) (ea_cons (V' 8) (ea_cons (V' 7) ea_nil)))) (ev_lst ea_nil) hml (k := key3 j c.2 c.1) rfl (fun d hd => ?_) (fun hn => ?_)))))
        · by_cases hp : Pend B i j c.2 c.1
          · have e1 := (hll.1 j c.2 c.1).1 ⟨hp, fun z => Nat.lt_irrefl _ z.2.2⟩
            rw [if_pos (hph.mp hp)] at hx
            rw [hd, hx] at e1
            cases e1
            refine ro_cat (ds := List.map parD _) (es := x.map parD) (.inl rfl) (.inl rfl) hzz ?_
            rw [emap]
            refine ⟨Mu.sub_upd2 sub4 fl, by rw [Mu.upd_ne (Ne.symm gl), eg], by rw [Mu.upd_ne (Ne.symm kl), ek], by rw [Mu.upd_ne (Ne.symm sl), es], (LostT.drop hzl hll).cong (fun j' t' k' => ?_) (fun _ => Iff.rfl) (fun _ _ _ _ => rfl) (fun _ _ => rfl) (Nat.le_refl _), _, _, _, _, _, rfl⟩
            constructor
            · rintro ⟨z1, z2⟩
              exact ⟨⟨z1, fun z => z2 ⟨z.1, z.2.1, by omega⟩⟩, fun z => z2 ⟨z.2.1, z.2.2, by omega⟩⟩
            · rintro ⟨⟨z1, z2⟩, z3⟩
              refine ⟨z1, fun z => ?_⟩
              rcases Nat.lt_succ_iff_lt_or_eq.mp z.2.2 with w | w
              · exact z2 ⟨z.1, z.2.1, w⟩
              · exact z3 ⟨w, z.1, z.2.1⟩
          · have := (hll.1 j c.2 c.1).2 fun z => hp z.1
            rw [this] at hd; cases hd
        · have hp : ¬ Pend B i j c.2 c.1 := fun hp => by
            have e1 := (hll.1 j c.2 c.1).1 ⟨hp, fun z => Nat.lt_irrefl _ z.2.2⟩
            rw [hn] at e1; cases e1
          rw [if_neg (fun z => hp (hph.mpr z))] at hx
          subst hx
          refine ro_cat (ds := List.map parD _) (es := []) (.inl rfl) (.inl rfl) hzz ?_
          rw [List.append_nil, List.append_nil]
          refine ⟨sub4, eg, ek, es, L4.cong (fun j' t' k' => ?_) (fun _ => Iff.rfl) (fun _ _ _ _ => rfl) (fun _ _ => rfl) (Nat.le_refl _), _, _, _, _, _, rfl⟩
          constructor
          · rintro ⟨z1, z2⟩
            exact ⟨z1, fun z => z2 ⟨z.1, z.2.1, by omega⟩⟩
          · rintro ⟨z1, z2⟩
            refine ⟨z1, fun z => ?_⟩
            rcases Nat.lt_succ_iff_lt_or_eq.mp z.2.2 with w | w
            · exact z2 ⟨z.1, z.2.1, w⟩
            · rw [z.1, z.2.1, w] at z1; exact hp z1
      · rintro ρ μ4 ⟨sub4, eg, ek, es, L4, b11, b12, b13, b14, b15, rfl⟩
        rw [rngD_len] at L4
        rw [rngD_len, ← hfl]
        refine q_set (d := rowD (rowAt B S c)) (ev_call (ea_cons (d := rowD (rowIn B S c)) ?_ ea_nil) ⟨rowIn B S c, rfl, hlen, hnn, rfl, rfl⟩ mono_law_joined) ?_
        · rw [hrow]
          show Ev K _ _ _ (.lst _)
          rw [List.map_append]
          refine ev_cat (V' 10) (ev_lst (ea_cons (ev_tup (ea_cons (ev_tup (ea_cons ev_str (ea_cons (V' 7) (ea_cons (V' 8) ea_nil)))) (ea_cons (ev_ixN (ev_ix (V' (d := siteD c.1 (B.at c.1)) 9) ev_int) (V' 8) (infAt ok hin)) ea_nil))) ea_nil)) (.inl rfl) (.inl rfl) (sz_of ?_)
          rw [List.length_map, List.length_append]
          show _ + 1 ≤ 100000; omega
        have hal : (rowAt B S c).length ≤ 10000 := Nat.le_trans (joinRow_len _) hlen
        have hgnn : ∀ i, RowNN (giveAll R p c (S.giv, rowAt B S c) i).2 := fun i => by
          induction i with
          | zero => exact joinRow_nn _
          | succ i ih =>
            rw [giveAll_succ]
            unfold giveStep
            split
            · exact joinRow_nn _
            · exact ih
        refine pw_seq (pw_for (fun r ρ μ' => μ.sub μ' ∧ μ' k = μ3 k ∧ μ' s = μ3 s ∧ μ' l = μ4 l ∧ Tbl rowD μ' g (fun x => (x.1 < R.length ∧ ∃ j, (j, x.2) ∈ B.cells.take i) ∨ (x.2 = c.2 ∧ x.1 < r)) (giveAll R p c (S.giv, rowAt B S c) r).1 (20 * i + 2 * r) ∧ ∃ a12 a13 a14 a15, ρ = [some (basinD B), some (rightsD R), some (planD p), some (.raw (.ref g)), some (.raw (.ref k)), some (.raw (.ref s)), some (.raw (.ref l)), some (.int (c.1 : Int)), some (.int (c.2 : Int)), some (siteD c.1 (B.at c.1)), some (rowD (giveAll R p c (S.giv, rowAt B S c) r).2), b11, a12, a13, a14, a15]) ?_)
        refine wi_rngE (n := R.length) (ea_cons (ev_len (V' (d := rightsD R) 1) (.inl rfl)) ea_nil) (by omega) ⟨⟨sub4, ek, es, rfl, (S3.g.fr eg).cong (fun x => ⟨fun h => h.elim id fun h => absurd h.2 (Nat.not_lt_zero _), .inl⟩) (fun _ _ => rfl) (by omega), _, _, _, _, rfl⟩, fun _ _ _ _ => trivial, ?_, ?_⟩
        · rintro r e ρ μ5 he ⟨sub5, ek5, es5, el5, T, b12, b13, b14, b15, rfl⟩
          obtain ⟨hr, rfl⟩ := rngD0 he
          have hgl := giveAll_len (R := R) (p := p) (c := c) (s := (S.giv, rowAt B S c)) r
          have hgn := hgnn r
          have h0 : ¬ ((r < R.length ∧ ∃ j, (j, c.2) ∈ B.cells.take i) ∨ (c.2 = c.2 ∧ r < r)) → (giveAll R p c (S.giv, rowAt B S c) r).1 (r, c.2) = [] := fun z => by
            rw [giveAll_at (x := (r, c.2)) r (Nat.le_refl _)]
            exact hg0 _ fun w => z (.inl w)
          rw [giveAll_succ]
          generalize giveAll R p c (S.giv, rowAt B S c) r = u at T hgl hgn h0
          refine wg_name ?_
          obtain ⟨mg1, hmg, hzg, hlg⟩ := T
          have hget : (look mg1 (cellK (r, c.2))).getD (.lst []) = rowD (u.1 (r, c.2)) := by
            by_cases z : (r < R.length ∧ ∃ j, (j, c.2) ∈ B.cells.take i) ∨ (c.2 = c.2 ∧ r < r)
            · rw [(hlg (r, c.2)).1 z]; rfl
            · rw [(hlg (r, c.2)).2 z, h0 z]; rfl
          have edom : ∀ x : Cell, ((x.1 < R.length ∧ ∃ j, (j, x.2) ∈ B.cells.take i) ∨ (x.2 = c.2 ∧ x.1 < r + 1)) ↔ (x = (r, c.2) ∨ ((x.1 < R.length ∧ ∃ j, (j, x.2) ∈ B.cells.take i) ∨ (x.2 = c.2 ∧ x.1 < r))) := fun x => by
            obtain ⟨x1, x2⟩ := x
            simp only [Prod.mk.injEq]
            constructor
            · rintro (z | ⟨z1, z2⟩)
              · exact .inr (.inl z)
              · rcases Nat.lt_succ_iff_lt_or_eq.mp z2 with w | w
                · exact .inr (.inr ⟨z1, w⟩)
                · exact .inl ⟨w, z1⟩
            · rintro (⟨z1, z2⟩ | z | ⟨z1, z2⟩)
              · exact .inr ⟨z2, by omega⟩
              · exact .inl z
              · exact .inr ⟨z1, by omega⟩
          have eget : ∀ {a b c' d}, Ev K (tDGet2 (tVar 3) (tTup (tCons (tVar 12) (tCons (tVar 8) tNil))) (tLst tNil)) [some (basinD B), some (rightsD R), some (planD p), some (.raw (.ref g)), some (.raw (.ref k)), some (.raw (.ref s)), some (.raw (.ref l)), some (.int (c.1 : Int)), some (.int (c.2 : Int)), some (siteD c.1 (B.at c.1)), a, b, some (.int (r : Int)), c', d, b15] μ5 (rowD (u.1 (r, c.2))) := fun {_ _ _ _} => by
            rw [← hget]
            exact ev_dget2 (V' (d := .raw (.ref g)) 3) (ev_tup (ea_cons (V' 12) (ea_cons (V' 8) ea_nil))) (ev_lst ea_nil) (.inr ⟨g, rfl, hmg⟩) (keys2 r c.2)
          refine pw_seq (pw_dput (eget.go ((V' 3).go ((ev_tup (ea_cons (V' 12) (ea_cons (V' 8) ea_nil))).go ⟨g, mg1, cellK (r, c.2), rfl, hmg, keys2 r c.2, sz_lt (by omega), ?_⟩))))
          have T2 := (Tbl.put (μ := μ5) (a := g) (y := u.1 (r, c.2)) (c := (r, c.2)) hzg hlg).cong (f' := u.1) (n' := 20 * i + 2 * r + 1) edom (fun x _ => by
            show _ = if x = (r, c.2) then _ else _
            split
            · next z => rw [z]
            · rfl) (Nat.le_refl _)
          have fr6 : ∀ b, b ≠ g → (μ5.upd g (.dct (put mg1 (cellK (r, c.2)) (rowD (u.1 (r, c.2)))))) b = μ5 b := fun b hb => Mu.upd_ne hb
          have sub6 : μ.sub (μ5.upd g (.dct (put mg1 (cellK (r, c.2)) (rowD (u.1 (r, c.2)))))) := Mu.sub_upd2 sub5 fg
          generalize μ5.upd g (.dct (put mg1 (cellK (r, c.2)) (rowD (u.1 (r, c.2))))) = μ6 at T2 fr6 sub6
          have e0 : decide (nm (rAt R r).site = nm c.1) = decide ((rAt R r).site = c.1) := by
            rw [decide_eq_decide]
            exact ⟨nm_inj, fun z => by rw [z]⟩
          refine s_when (b := decide ((rAt R r).site = c.1)) ?_ (fun h => ?_) (fun h => ?_)
          · rw [← e0]
            exact et_test (ev_eqS (ev_ix (ev_ixN (V' (d := rightsD R) 1) (V' 12) (rightAt hr)) ev_int) (ev_ix (V' (d := siteD c.1 (B.at c.1)) 9) ev_int))
          · have h := of_decide_eq_true h
            have es0 : giveStep R p c u r = (updC u.1 (r, c.2) (joinRow (partRow u.2 (get2 p.del r c.2)).front), joinRow (partRow u.2 (get2 p.del r c.2)).rest) := if_pos h
            rw [es0]
            obtain ⟨m6, hm6, hz6, hk6⟩ := T2
            refine pw_asg (Ev.go (ev_call (ea_cons (V' (d := rowD u.2) 10) (ea_cons (ev_get2 (ev_ix (V' (d := planD p) 2) ev_int) (V' 12) (V' 8) sh.del hr hin.2) ea_nil)) ⟨u.2, _, rfl, Nat.le_trans hgl hal, hgn, nn.del0 _ _, rfl, rfl⟩ mono_law_used) (wg_unl rfl (wgs_cons (wg_subDE (V' (d := .raw (.ref g)) 3) (ev_tup (ea_cons (V' 12) (ea_cons (V' 8) ea_nil))) (keys2 r c.2) hm6 (sz_lt (by omega)) (wgs_cons (wg_name (wgs_nil ?_)))))))
            refine ⟨Mu.sub_upd2 sub6 fg, by rw [Mu.upd_ne gk, fr6 _ gk, ek5], by rw [Mu.upd_ne gs, fr6 _ gs, es5], by rw [Mu.upd_ne gl, fr6 _ gl, el5], (Tbl.put (y := joinRow (partRow u.2 (get2 p.del r c.2)).front) (c := (r, c.2)) hz6 hk6).cong (fun x => ?_) (fun x _ => rfl) (by omega), _, _, _, _, rfl⟩
            constructor
            · exact .inr
            · rintro (z | z)
              · exact (edom x).mpr (.inl z)
              · exact z
          · have h := of_decide_eq_false h
            have es0 : giveStep R p c u r = u := if_neg h
            rw [es0]
            exact ⟨sub6, by rw [fr6 _ gk, ek5], by rw [fr6 _ gs, es5], by rw [fr6 _ gl, el5], T2.cong (fun _ => Iff.rfl) (fun _ _ => rfl) (by omega), _, _, _, _, rfl⟩
        · rintro ρ μ5 ⟨sub5, ek5, es5, el5, T, b12, b13, b14, b15, rfl⟩
          rw [rngD_len] at T
          rw [rngD_len]
          have hul := giveAll_len (R := R) (p := p) (c := c) (s := (S.giv, rowAt B S c)) R.length
          have hun := hgnn R.length
          have htr : traceStep B R p S c = ⟨(giveAll R p c (S.giv, rowAt B S c) R.length).1, updC S.lts c (joinRow (partRow (giveAll R p c (S.giv, rowAt B S c) R.length).2 (get2 p.rel c.1 c.2)).front), updC S.sto c (joinRow (partRow (joinRow (partRow (giveAll R p c (S.giv, rowAt B S c) R.length).2 (get2 p.rel c.1 c.2)).rest) (get2 p.sto c.1 c.2)).front), updC S.spi c (joinRow (partRow (joinRow (partRow (giveAll R p c (S.giv, rowAt B S c) R.length).2 (get2 p.rel c.1 c.2)).rest) (get2 p.sto c.1 c.2)).rest)⟩ := rfl
          rw [htr]
          clear htr
          generalize giveAll R p c (S.giv, rowAt B S c) R.length = u at T hul hun
          have hx1 := partRow_len u.2 (get2 p.rel c.1 c.2)
          refine pw_seq (pw_asg (Ev.go (ev_call (ea_cons (V' (d := rowD u.2) 10) (ea_cons (ev_get2 (ev_ix (V' (d := planD p) 2) ev_int) (V' 7) (V' 8) sh.rel hin.1 hin.2) ea_nil)) ⟨u.2, _, rfl, Nat.le_trans hul hal, hun, nn.rel0 _ _, rfl, rfl⟩ mono_law_used) (wg_unl rfl (wgs_cons (wg_name (wgs_cons (wg_name (wgs_nil ?_))))))))
          have hr1 : (joinRow (partRow u.2 (get2 p.rel c.1 c.2)).rest).length ≤ 10000 := Nat.le_trans (joinRow_len _) (by rw [hx1.2]; exact Nat.le_trans hul hal)
          have hr2 := joinRow_nn (partRow u.2 (get2 p.rel c.1 c.2)).rest
          generalize joinRow (partRow u.2 (get2 p.rel c.1 c.2)).rest = r1 at hr1 hr2
          generalize joinRow (partRow u.2 (get2 p.rel c.1 c.2)).front = y1
          have L5 := (L4.fr el5).cong (pend' := fun j t k' => Pend B i j t k' ∧ ¬ (t = c.2 ∧ k' = c.1)) (gone' := fun x => Gone B x ∧ x ∈ B.cells.take i) (f' := S.lts) (n' := 20 * i) (fun j t k' => ⟨fun z => ⟨z.1, fun w => z.2 ⟨w.1, w.2.1⟩⟩, fun z => ⟨z.1, fun w => z.2 ⟨w.1, w.2, by
            have h1 := z.1.1
            have hj : j < B.sites.length := by
              rcases Nat.lt_or_ge j B.sites.length with z | z
              · exact z
              · have : B.at j = default := by unfold Basin.at; rw [List.getElem?_eq_none z]; rfl
                rw [this] at h1; cases h1
            have := ((ok.s hj).next _ h1).1
            omega⟩⟩⟩) (fun _ => Iff.rfl) (fun _ _ _ _ => rfl) (fun _ _ => rfl) (Nat.le_refl _)
          have hpc : ∀ j t k', (Pend B i j t k' ∧ ¬ (t = c.2 ∧ k' = c.1)) → (j, t - (B.at j).travel) ≠ c := fun j t k' z w => cells_get hc (by rw [← w]; exact z.1.2.2.2.1)
          have hgc : ∀ x, (Gone B x ∧ x ∈ B.cells.take i) → x ≠ c := fun x z w => cells_get hc (by rw [← w]; exact z.2)
          refine pw_seq (PW.imp (Φ := fun o => ∃ μ7 a14 a15, o = .nx [some (basinD B), some (rightsD R), some (planD p), some (.raw (.ref g)), some (.raw (.ref k)), some (.raw (.ref s)), some (.raw (.ref l)), some (.int (c.1 : Int)), some (.int (c.2 : Int)), some (siteD c.1 (B.at c.1)), some (rowD r1), b11, b12, some (rowD y1), a14, a15] μ7 ∧ μ.sub μ7 ∧ μ7 g = μ5 g ∧ μ7 k = μ5 k ∧ μ7 s = μ5 s ∧ LostT μ7 l (Pend B (i + 1)) (fun x => Gone B x ∧ x ∈ B.cells.take (i + 1)) B (updC S.lts c y1) (20 * i + 1)) ?_ ?_)
          · cases hn : (B.at c.1).next with
            | none =>
              refine pw_ifE (b := false) (et_B (ev_notN (x := .non) (ev_ix (ds := [.str (nm c.1), optD (fun j => .str (nm j)) (B.at c.1).next, .int ((B.at c.1).travel : Int), optD .int (B.at c.1).reach, .int (B.at c.1).room, .int (B.at c.1).held, intsD (B.at c.1).inflows]) (V' 9) ev_int (by rw [hn]; rfl)))) (fun h => by cases h) (fun _ => pw_next ⟨μ5, _, _, rfl, sub5, rfl, rfl, rfl, ?_⟩)
              refine (L5.cut (y := y1) hpc hgc).cong (fun j t k' => ?_) (fun x => ?_) (fun _ _ _ _ => rfl) (fun _ _ => rfl) (by omega)
              · rw [pend_succ ok hc, hn]
                exact ⟨fun z => z.elim id fun z => (by cases z.2.1), .inl⟩
              · rw [htk, List.mem_append, List.mem_singleton]
                exact ⟨fun z => ⟨z.1, z.2.elim id fun w => absurd hn (by rw [w] at z; exact z.1.1)⟩, fun z => ⟨z.1, .inl z.2⟩⟩
            | some z =>
              have hz := so.next z hn
              have esite : ∀ {μ' : Mu} {a14 a15 : Option D} , Ev K (tOp (rIx K) (tVar 9) (tC (.int 1))) [some (basinD B), some (rightsD R), some (planD p), some (.raw (.ref g)), some (.raw (.ref k)), some (.raw (.ref s)), some (.raw (.ref l)), some (.int (c.1 : Int)), some (.int (c.2 : Int)), some (siteD c.1 (B.at c.1)), some (rowD r1), b11, b12, some (rowD y1), a14, a15] μ' (.str (nm z)) := fun {_ _ _} => ev_ix (ds := [.str (nm c.1), optD (fun j => .str (nm j)) (B.at c.1).next, .int ((B.at c.1).travel : Int), optD .int (B.at c.1).reach, .int (B.at c.1).room, .int (B.at c.1).held, intsD (B.at c.1).inflows]) (V' 9) ev_int (by rw [hn]; rfl)
              refine pw_ifE (b := true) (et_B (ev_notN (x := .str _) esite)) (fun _ => ?_) (fun h => by cases h)
              refine q_set (d := .int (z : Int)) (ev_indexS (xs := (List.range B.sites.length).map nm) (z := nm z) (ev_lc (es := B.sites.mapIdx siteD) gok_name (sz_of (by rw [List.length_mapIdx]; omega)) (by rw [List.length_mapIdx, List.length_map, List.length_map, List.length_range]) (wi_tupP (ev_ix (V' (d := basinD B) 0) ev_int)) (fun n d e hd he => ?_)) esite ?_ ?_) ?_
              · have hnl := (List.getElem?_eq_some_iff.mp hd).1
                rw [List.length_mapIdx] at hnl
                rw [siteAt hnl] at hd
                cases hd
                rw [List.getElem?_map, List.getElem?_map, List.getElem?_range hnl] at he
                cases he
                exact wg_name ⟨rfl, ev_ix (V' (d := siteD n (B.at n)) 15) ev_int⟩
              · rw [List.getElem?_map, List.getElem?_range hz.2]; rfl
              · intro n hnz
                rw [List.getElem?_map, List.getElem?_range (by omega)]
                intro w
                have := nm_inj (Option.some.inj w)
                omega
              obtain ⟨m5, hm5, hz5, hl5⟩ := L5.ex
              have elt : decide (c.2 + (B.at c.1).travel < B.months) = decide ((c.2 : Int) + ((B.at c.1).travel : Int) < (B.months : Int)) := by rw [decide_eq_decide]; omega
              refine pw_ifE (b := decide (c.2 + (B.at c.1).travel < B.months)) ?_ (fun h => ?_) (fun h => ?_)
              · rw [elt]
                exact et_test (ev_lt (ev_add (V' 8) (ev_ix (V' (d := siteD c.1 (B.at c.1)) 9) ev_int)) (ev_ix (V' (d := basinD B) 0) ev_int))
              · have h := of_decide_eq_true h
                have ec : (c.1, c.2 + (B.at c.1).travel - (B.at c.1).travel) = c := by rw [Nat.add_sub_cancel]
                refine pw_dput ((V' (d := rowD y1) 13).go ((V' (d := .raw (.ref l)) 6).go ((ev_tup (ea_cons (V' 7) (ea_cons (ev_add (V' 8) (ev_ix (V' (d := siteD c.1 (B.at c.1)) 9) ev_int)) (ea_cons (V' 14) ea_nil)))).go ⟨l, m5, key3 c.1 (c.2 + (B.at c.1).travel) z, rfl, hm5, rfl, sz_lt (by omega), ?_⟩)))
                refine ⟨_, _, _, rfl, Mu.sub_upd2 sub5 fl, Mu.upd_ne (Ne.symm gl), Mu.upd_ne (Ne.symm kl), Mu.upd_ne (Ne.symm sl), ?_⟩
                have L6 := LostT.put3 (μ := μ5) (a := l) (j := c.1) (t := c.2 + (B.at c.1).travel) (k := z) (y := y1) hz5 hl5 (by rw [ec]; exact hpc) (by rw [ec]; exact hgc)
                rw [ec] at L6
                refine L6.cong (fun j t k' => ?_) (fun x => ?_) (fun _ _ _ _ => rfl) (fun _ _ => rfl) (Nat.le_refl _)
                · rw [pend_succ ok hc, hn]
                  constructor
                  · rintro (w | ⟨w1, w2, w3, w4⟩)
                    · exact .inl w
                    · exact .inr ⟨w1, w3, (Option.some.inj w2).symm⟩
                  · rintro (w | ⟨w1, w2, w3⟩)
                    · exact .inl w
                    · exact .inr ⟨w1, by rw [w3], w2, by omega⟩
                · rw [htk, List.mem_append, List.mem_singleton]
                  refine ⟨fun w => ⟨w.1, w.2.elim id fun w2 => ?_⟩, fun w => ⟨w.1, .inl w.2⟩⟩
                  have w3 := w.1.2
                  rw [w2] at w3
                  unfold Basin.letTo at w3
                  rw [hn] at w3
                  simp only at w3
                  rw [if_neg (by omega)] at w3
                  cases w3
              · have h := of_decide_eq_false h
                refine pw_dput ((V' (d := rowD y1) 13).go ((V' (d := .raw (.ref l)) 6).go ((ev_tup (ea_cons (V' 7) (ea_cons (V' 8) ea_nil))).go ⟨l, m5, cellK c, rfl, hm5, rfl, sz_lt (by omega), ?_⟩)))
                refine ⟨_, _, _, rfl, Mu.sub_upd2 sub5 fl, Mu.upd_ne (Ne.symm gl), Mu.upd_ne (Ne.symm kl), Mu.upd_ne (Ne.symm sl), ?_⟩
                refine (LostT.putC (μ := μ5) (a := l) (c := c) (y := y1) hz5 hl5 hpc).cong (fun j t k' => ?_) (fun x => ?_) (fun _ _ _ _ => rfl) (fun _ _ => rfl) (Nat.le_refl _)
                · rw [pend_succ ok hc, hn]
                  exact ⟨fun w => w.elim id fun w => absurd w.2.2.2 (by rw [w.2.2.1]; exact h), .inl⟩
                · rw [htk, List.mem_append, List.mem_singleton]
                  constructor
                  · rintro ⟨w1, w2 | w2⟩
                    · exact .inl ⟨w1, w2⟩
                    · exact .inr w2
                  · rintro (w | w)
                    · exact ⟨w.1, .inl w.2⟩
                    · refine ⟨⟨by rw [w, hn]; simp, ?_⟩, .inr w⟩
                      rw [w]
                      unfold Basin.letTo
                      rw [hn]
                      simp only
                      rw [if_pos (by omega)]
          · rintro o ⟨μ7, a14, a15, rfl, sub7, eg7, ek7, es7, L7⟩
            show PW K _ _ _ _
            have hmk7 : μ7 k = some (.dct mk) := by rw [ek7, ek5]; exact hmk
            have hx2 := partRow_len r1 (get2 p.sto c.1 c.2)
            refine pw_seq (pw_asg (Ev.go (ev_call (ea_cons (V' (d := rowD r1) 10) (ea_cons (ev_get2 (ev_ix (V' (d := planD p) 2) ev_int) (V' 7) (V' 8) sh.sto hin.1 hin.2) ea_nil)) ⟨r1, _, rfl, hr1, hr2, nn.sto0 _ _, rfl, rfl⟩ mono_law_used) (wg_unl rfl (wgs_cons (wg_subDE (V' (d := .raw (.ref k)) 4) (ev_tup (ea_cons (V' 7) (ea_cons (V' 8) ea_nil))) (k := cellK c) rfl hmk7 (sz_lt (by omega)) (wgs_cons (wg_name (wgs_nil ?_))))))))
            obtain ⟨ms, hms, hzs, hls⟩ := S3.s
            generalize joinRow (partRow r1 (get2 p.sto c.1 c.2)).rest = r2
            generalize joinRow (partRow r1 (get2 p.sto c.1 c.2)).front = y2
            have hms8 : (μ7.upd k (.dct (put mk (cellK c) (rowD y2)))) s = some (.dct ms) := by rw [Mu.upd_ne ks, es7, es5]; exact hms
            refine pw_dput ((V' (d := rowD r2) 10).go ((V' (d := .raw (.ref s)) 5).go ((ev_tup (ea_cons (V' 7) (ea_cons (V' 8) ea_nil))).go ⟨s, ms, cellK c, rfl, hms8, rfl, sz_lt (by omega), ?_⟩)))
            refine ⟨Mu.sub_upd2 (Mu.sub_upd2 sub7 fk) fs, ⟨?_, ?_, ?_, ?_⟩, _, _, _, _, _, _, _, _, _, rfl⟩
            · refine (T.fr (by show _ = _; rw [Mu.upd_ne (Ne.symm gs), Mu.upd_ne (Ne.symm gk), eg7])).cong (fun x => ?_) (fun _ _ => rfl) (by omega)
              rw [htk]
              constructor
              · rintro ⟨w1, j, w2⟩
                rcases List.mem_append.mp w2 with w | w
                · exact .inl ⟨w1, j, w⟩
                · rw [List.mem_singleton] at w
                  exact .inr ⟨by rw [← w], w1⟩
              · rintro (⟨w1, j, w2⟩ | ⟨w1, w2⟩)
                · exact ⟨w1, j, List.mem_append_left _ w2⟩
                · exact ⟨w2, c.1, List.mem_append_right _ (by rw [w1]; exact List.mem_singleton.mpr rfl)⟩
            · refine ((Tbl.put (μ := μ7) (a := k) (y := y2) (c := c) hzk hlk).fr (by show _ = _; rw [Mu.upd_ne (Ne.symm ks)])).cong (fun x => ?_) (fun _ _ => rfl) (by omega)
              rw [htk, List.mem_append, List.mem_singleton]
              exact Or.comm
            · refine (Tbl.put (μ := μ7.upd k (.dct (put mk (cellK c) (rowD y2)))) (a := s) (y := r2) (c := c) hzs hls).cong (fun x => ?_) (fun _ _ => rfl) (by omega)
              rw [htk, List.mem_append, List.mem_singleton]
              exact Or.comm
            · exact (L7.fr (by rw [Mu.upd_ne sl, Mu.upd_ne kl])).cong (fun _ _ _ => Iff.rfl) (fun _ => Iff.rfl) (fun _ _ _ _ => rfl) (fun _ _ => rfl) (by omega)
  · rintro ρ μ3 ⟨sub3, S3, a7, a8, a9, a10, a11, a12, a13, a14, a15, rfl⟩
    rw [List.length_map] at S3
    have hall : traceTo B R p B.cells.length = traceAll B R p := by
      unfold traceTo traceAll
      rw [List.take_length]
    rw [hall, List.take_length, cells_len] at S3
    refine s_retS (ev_lst (ea_cons (V' (d := .raw (.ref g)) 3) (ea_cons (V' (d := .raw (.ref k)) 4) (ea_cons (V' (d := .raw (.ref s)) 5) (ea_cons (V' (d := .raw (.ref l)) 6) ea_nil))))) (Mu.sub.refl _) ?_
    refine q ⟨g, k, s, l⟩ μ3 sub3 ⟨S3.g.cong (fun x => ?_) (fun _ _ => rfl) (by omega), S3.k.cong (fun _ => Iff.rfl) (fun _ _ => rfl) (by omega), S3.s.cong (fun _ => Iff.rfl) (fun _ _ => rfl) (by omega), S3.l.cong (fun j t k' => ?_) (fun x => ?_) (fun _ _ _ _ => rfl) (fun _ _ => rfl) (by omega)⟩
    · constructor
      · rintro ⟨w1, w2⟩
        exact ⟨w1, 0, mem_cells.mpr ⟨by have := ok.n1; show 0 < _; omega, w2⟩⟩
      · rintro ⟨w1, j, w2⟩
        exact ⟨w1, (mem_cells.mp w2).2⟩
    · refine ⟨False.elim, fun w => ?_⟩
      have w1 := w.1
      have hj : j < B.sites.length := by
        rcases Nat.lt_or_ge j B.sites.length with z | z
        · exact z
        · have : B.at j = default := by unfold Basin.at; rw [List.getElem?_eq_none z]; rfl
          rw [this] at w1; cases w1
      have w2 := ((ok.s hj).next _ w1).2
      have w3 := w.2.2.2.2
      rw [← cells_len, List.take_length] at w3
      exact w3 (mem_cells.mpr ⟨w2, w.2.2.1⟩)
    · exact Iff.rfl
end
end Hw
set_option Elab.async false
set_option linter.all false
set_option maxRecDepth 100000
set_option maxHeartbeats 4000000
/-! What the law says is due. -/
namespace Hw
open PySem PySem.Spec L2
theorem fault_month {B : Basin} {R : List Right} {p : Plan} (h : planFault B R p = none) {m : Nat} (hm : m < B.months) : monthFault B R p m = none := List.findSome?_eq_none_iff.mp h m (List.mem_range.mpr hm)
theorem fault_right {B : Basin} {R : List Right} {p : Plan} (h : planFault B R p = none) {m r : Nat} (hm : m < B.months) (hr : r < R.length) : rightFault R p m r = none := by
  have h1 := fault_month h hm
  unfold monthFault at h1
  split at h1
  · cases h1
  · next e => exact List.findSome?_eq_none_iff.mp e r (List.mem_range.mpr hr)
theorem fault_cell {B : Basin} {R : List Right} {p : Plan} (h : planFault B R p = none) {c : Cell} (hc : B.In c) : cellFault B R p c = none := by
  have h1 := fault_month h hc.2
  unfold monthFault at h1
  split at h1
  · cases h1
  · exact List.findSome?_eq_none_iff.mp h1 c.1 (List.mem_range.mpr hc.1)
theorem cell_fine {B : Basin} {R : List Right} {p : Plan} {c : Cell} (h : cellFault B R p c = none) : badRel B p c = false ∧ get2 p.sto c.1 c.2 ≤ (B.at c.1).room ∧ 0 ≤ spillOf B R p c := by
  unfold cellFault at h
  split at h
  · cases h
  · next h1 =>
    split at h
    · cases h
    · next h2 =>
      split at h
      · cases h
      · next h3 => exact ⟨by simpa using h1, by omega, by omega⟩
theorem outlet_rel {B : Basin} {R : List Right} {p : Plan} (g : PlanGood B R p) {c : Cell} (hc : B.In c) (hn : (B.at c.1).next = none) : get2 p.rel c.1 c.2 = 0 := by
  have h1 := (cell_fine (fault_cell g.fault hc)).1
  unfold badRel at h1
  rw [hn, Bool.or_eq_false_iff] at h1
  have h2 := h1.1
  have h3 := g.rel0 c.1 c.2
  simp at h2
  omega
theorem joinRow_nil {r : Row} (h : ∀ q ∈ r, q.2 ≤ 0) : joinRow r = [] := by
  unfold joinRow
  have : ∀ (r : Row), (∀ q ∈ r, q.2 ≤ 0) → r.foldl joinStep [] = [] := fun r => by
    induction r with
    | nil => intro _; rfl
    | cons q r ih =>
      intro h
      have h1 := h q (List.mem_cons_self ..)
      rw [List.foldl_cons]
      have : joinStep [] q = [] := by
        unfold joinStep
        rw [if_neg (by omega)]
      rw [this]
      exact ih fun q hq => h q (List.mem_cons_of_mem _ hq)
  exact this r h
theorem part_zero {r : Row} (hr : RowNN r) : joinRow (partRow r 0).front = [] := by
  refine joinRow_nil ?_
  have : ∀ (r : Row) (s : Parts), RowNN r → s.left = 0 → (∀ q ∈ s.front, q.2 ≤ 0) → ∀ q ∈ (r.foldl partStep s).front, q.2 ≤ 0 := fun r => by
    induction r with
    | nil => intro s _ _ h; exact h
    | cons p r ih =>
      intro s hr h1 h2
      have hp := hr p (List.mem_cons_self ..)
      refine ih (partStep s p) (fun q hq => hr q (List.mem_cons_of_mem _ hq)) ?_ ?_
      · show s.left - min p.2 s.left = 0
        rw [h1]; omega
      · intro q hq
        rcases List.mem_append.mp hq with z | z
        · exact h2 q z
        · rw [List.mem_singleton] at z; rw [z]; show min p.2 s.left ≤ 0; rw [h1]; omega
  exact this r ⟨[], [], 0⟩ hr rfl (fun q hq => by cases hq)
theorem giveAll_nn {B : Basin} {R : List Right} {p : Plan} {S : TrS} {c : Cell} : ∀ i, RowNN (giveAll R p c (S.giv, rowAt B S c) i).2 := fun i => by
  induction i with
  | zero => exact joinRow_nn _
  | succ i ih =>
    rw [giveAll_succ]
    unfold giveStep
    split
    · exact joinRow_nn _
    · exact ih
theorem outlet_lts {B : Basin} {R : List Right} {p : Plan} (g : PlanGood B R p) {c : Cell} (hc : B.In c) (hn : (B.at c.1).next = none) : ∀ i, i ≤ B.cells.length → (traceTo B R p i).lts c = []
  | 0, _ => rfl
  | i + 1, h => by
    have ho : B.cells[i]? = some (B.cells[i]'(by omega)) := List.getElem?_eq_getElem _
    generalize B.cells[i]'(by omega) = o at ho
    rw [traceTo_succ ho]
    show updC (traceTo B R p i).lts o _ c = []
    unfold updC
    split
    · next e =>
      rw [← e, outlet_rel g hc hn]
      exact part_zero (giveAll_nn _)
    · exact outlet_lts g hc hn i (by omega)
section
variable {P : Program} {w : World} {K : PySem.W.Frag} {mg : Str → Option Value} {base : Heap}
theorem isL_rg {K : PySem.W.Frag} {G : Hp} (a : Int) : ∀ l : List Nat, IsL K G (l.map fun i => D.int (a + (i : Nat))) (l.map fun i => V.int (a + (i : Nat)))
  | [] => rfl
  | i :: l => ⟨_, _, rfl, rfl, isL_rg a l⟩
/-- list(range(n)) -/
theorem ev_listRg {ρ : List (Option D)} {μ : Mu} {ta : TE} {n : Nat} (h : Ev K ta ρ μ (.int (n : Int))) (hn : n ≤ 100000) : Ev K (tLstRg (tRg1 ta)) ρ μ (.lst (rngD 0 n)) := fun G0 H0 G H σ A R q =>
  h G0 H0 G H σ A _ fun v d μ1 G1 H1 p1 e1 A1 i1 => by
    obtain ⟨rfl, rfl⟩ := p1
    cases i1
    refine ⟨_, rfl, RgOk.of_le (by omega) (by omega) (by omega) (by omega), fun c hc => ?_⟩
    have eg : Ex G1 (L2.upd G1 c (.lst (rgV 0 n))) := Ex.new (A1.gh.off hc)
    refine q _ _ _ _ _ ⟨rfl, rfl⟩ (e1.trans eg) (A1.laid hc) ⟨c, _, rfl, L2.upd_same, ?_⟩
    have e2 : rgV 0 (n : Int) = (List.range n).map fun i => V.int (0 + (i : Nat)) := by
      unfold rgV
      rw [Int.sub_zero, Int.toNat_natCast]
    rw [e2]
    exact isL_rg 0 _
theorem ev_lcL {ρ : List (Option D)} {μ : Mu} {t0 te : TE} {n j : Nat} {vs : List Nat} (f : Nat → D) (h : Ev K t0 ρ μ (.lst (rngD 0 n))) (hn : n ≤ 100000) (he : ∀ i : Nat, i < n → Ev K te ((wipeR ρ vs).set j (some (.int (i : Int)))) μ (f i)) (hg : j ∈ vs := by simp) :
    Ev K (tLc (iList K t0) (gName j) tYes te vs) ρ μ (.lst ((List.range n).map f)) := by
  refine ev_lc (es := rngD 0 n) (gok_name hg) (sz_of (by rw [rngD_len]; exact hn)) (by rw [rngD_len]; simp) (wi_lstP h) fun i d e hd he' => ?_
  obtain ⟨hi, rfl⟩ := rngD0 hd
  rw [List.getElem?_map, List.getElem?_range hi] at he'
  cases he'
  exact wg_name ⟨rfl, he i hi⟩
theorem sc_law_due : FnScope ["_law_basin_here", "_law_rights_here", "_law_plan", "_law_got", "_law_kept", "_law_spilled", "_law_lost", "_law_months", "_law_sites", "_law_deliveries", "_law_m", "_law_r", "_law_stored", "_law_k", "_law_away"] ["_law_basin_here", "_law_rights_here", "_law_plan"] (defScope s_law_due) := ⟨rfl, rfl, rfl, by decide +kernel, rfl, by decide +kernel, by decide +kernel⟩
-- _law_due: 0 _law_basin_here, 1 _law_rights_here, 2 _law_plan, 3 _law_got, 4 _law_kept, 5 _law_spilled, 6 _law_lost, 7 _law_months, 8 _law_sites, 9 _law_deliveries, 10 _law_m, 11 _law_r, 12 _law_stored, 13 _law_k, 14 _law_away
def S_law_due : Spec := fun ds μ Q => ∃ (B : Basin) (R : List Right) (p : Plan), ds = [basinD B, rightsD R, planD p] ∧ B.Ok ∧ RightsOk B R ∧ PlanGood B R p ∧ Q (parcelsD B R (traceAll B R p)) μ
theorem len_law_due : S_law_due.len 3 := fun ds μ Q h => by obtain ⟨_, _, _, rfl, _⟩ := h; rfl
theorem mono_law_due : Mono S_law_due := fun ds μ P P' f h => by obtain ⟨B, R, p, e, h1, h2, h3, q⟩ := h; exact ⟨B, R, p, e, h1, h2, h3, f _ _ q⟩
theorem c_law_due (Fx : Fx K mg) : Cal P w K mg base 4 "_law_due" S_law_due := by
  have hlen : Spec.len S_law_due 3 := len_law_due
  obtain ⟨fd, F⟩ := Fx.c.def_ 54 (d := d_law_due) rfl
  refine ⟨_, fd, ["_law_basin_here", "_law_rights_here", "_law_plan"], fnok F sc_law_due hlen (fun cdv A outer s H E hr => ?_), Fx.glo 36, F.kp, FunD.bindsN F fun _ _ _ _ _ _ us hl => match us, hl with | [_, _, _], _ => rfl⟩
  have hu := hu_of hr
  have nd := sc_law_due.nd
  refine ⟨_, (pss_cons (ps_asg (k_cal (c_law_followed Fx) hr (by decide) rfl (pa_cons (pv 0) (pa_cons (pv 1) (pa_cons (pv 2) pa_nil)))) (pg_unl rfl (pgs_cons (pg_name (i := 3) nd rfl (by first | exact Or.inl rfl | exact Or.inr rfl)) (pgs_cons (pg_name (i := 4) nd rfl (by first | exact Or.inl rfl | exact Or.inr rfl)) (pgs_cons (pg_name (i := 5) nd rfl (by first | exact Or.inl rfl | exact Or.inr rfl)) (pgs_cons (pg_name (i := 6) nd rfl (by first | exact Or.inl rfl | exact Or.inr rfl)) pgs_nil))))))
      (pss_cons (ps_set (i := 7) nd rfl (by first | exact Or.inl rfl | exact Or.inr rfl) (pe_listRg rfl (by rfl) (Fx.free 102) (prg_1 (by rfl) (Fx.free 98) (pe_ix (k_ix (K := K)) (pv 0) pe_int (fun _ _ => rfl)))))
      (pss_cons (ps_set (i := 8) nd rfl (by first | exact Or.inl rfl | exact Or.inr rfl) (pe_listRg rfl (by rfl) (Fx.free 102) (prg_1 (by rfl) (Fx.free 98) (pe_callB (k_len (K := K)) (by rfl) (Fx.free 97) PySem.boot_len (pa_cons (pe_ix (k_ix (K := K)) (pv 0) pe_int (fun _ _ => rfl)) pa_nil)))))
      (pss_cons (ps_set (i := 9) nd rfl (by first | exact Or.inl rfl | exact Or.inr rfl) (pe_callTy (k_tuple (K := K)) (by rfl) (Fx.free 101) (by decide +kernel) (pa_cons (pe_lc (own := [("_law_r", 11)]) (g := (gName 11)) (tt := tYes) rfl nd (pi_range1 rfl (Fx.free 98) (pa_cons (pe_callB (k_len (K := K)) (by rfl) (Fx.free 97) PySem.boot_len (pa_cons (pv 1) pa_nil)) pa_nil)) (blkOk_by (by kernel_rfl)) (fun _ _ _ _ _ => by exact (pg_name (i := 11) nd rfl (by first | exact Or.inl rfl | exact Or.inr rfl))) (fun _ _ _ _ _ => by exact pts_nil) (fun _ _ _ _ _ => by exact (pe_callTy (k_tuple (K := K)) (by rfl) (Fx.free 101) (by decide +kernel) (pa_cons (pe_lc (own := [("_law_m", 10)]) (g := (gName 10)) (tt := tYes) rfl nd (k_list_ (K := K) (pv 7)) (blkOk_by (by kernel_rfl)) (fun _ _ _ _ _ => by exact (pg_name (i := 10) nd rfl (by first | exact Or.inl rfl | exact Or.inr rfl))) (fun _ _ _ _ _ => by exact pts_nil) (fun _ _ _ _ _ => by exact (pe_callTy (k_tuple (K := K)) (by rfl) (Fx.free 101) (by decide +kernel) (pa_cons (pe_dget hu (pv 3) (pe_tup (pa_cons (pv 11) (pa_cons (pv 10) pa_nil))) (fun _ _ => rfl)) pa_nil)))) pa_nil)))) pa_nil)))
      (pss_cons (ps_set (i := 12) nd rfl (by first | exact Or.inl rfl | exact Or.inr rfl) (pe_callTy (k_tuple (K := K)) (by rfl) (Fx.free 101) (by decide +kernel) (pa_cons (pe_lc (own := [("_law_k", 13)]) (g := (gName 13)) (tt := tYes) rfl nd (k_list_ (K := K) (pv 8)) (blkOk_by (by kernel_rfl)) (fun _ _ _ _ _ => by exact (pg_name (i := 13) nd rfl (by first | exact Or.inl rfl | exact Or.inr rfl))) (fun _ _ _ _ _ => by exact pts_nil) (fun _ _ _ _ _ => by exact (pe_callTy (k_tuple (K := K)) (by rfl) (Fx.free 101) (by decide +kernel) (pa_cons (pe_dget hu (pv 4) (pe_tup (pa_cons (pv 13) (pa_cons (pe_op op_sub (pe_ix (k_ix (K := K)) (pv 0) pe_int (fun _ _ => rfl)) pe_int) pa_nil))) (fun _ _ => rfl)) pa_nil)))) pa_nil)))
      (pss_cons (ps_set (i := 14) nd rfl (by first | exact Or.inl rfl | exact Or.inr rfl) (pe_callTy (k_tuple (K := K)) (by rfl) (Fx.free 101) (by decide +kernel) (pa_cons (pe_lc (own := [("_law_k", 13)]) (g := (gName 13)) (tt := tYes) rfl nd (k_list_ (K := K) (pv 8)) (blkOk_by (by kernel_rfl)) (fun _ _ _ _ _ => by exact (pg_name (i := 13) nd rfl (by first | exact Or.inl rfl | exact Or.inr rfl))) (fun _ _ _ _ _ => by exact pts_nil) (fun _ _ _ _ _ => by exact (pe_callTy (k_tuple (K := K)) (by rfl) (Fx.free 101) (by decide +kernel) (pa_cons (pe_lc (own := [("_law_m", 10)]) (g := (gName 10)) (tt := tYes) rfl nd (k_list_ (K := K) (pv 7)) (blkOk_by (by kernel_rfl)) (fun _ _ _ _ _ => by exact (pg_name (i := 10) nd rfl (by first | exact Or.inl rfl | exact Or.inr rfl))) (fun _ _ _ _ _ => by exact pts_nil) (fun _ _ _ _ _ => by exact (pe_callTy (k_tuple (K := K)) (by rfl) (Fx.free 101) (by decide +kernel) (pa_cons (pe_dget2 hu (pv 6) (pe_tup (pa_cons (pv 13) (pa_cons (pv 10) pa_nil))) (pe_lst pa_nil) ⟨by rfl, by rfl, by rfl, by rfl⟩) pa_nil)))) pa_nil)))) pa_nil)))
      (pss_one (ps_ret (pe_tup (pa_cons (pv 9) (pa_cons (pv 12) (pa_cons (pe_callTy (k_tuple (K := K)) (by rfl) (Fx.free 101) (by decide +kernel) (pa_cons (pe_lc (own := [("_law_k", 13)]) (g := (gName 13)) (tt := tYes) rfl nd (k_list_ (K := K) (pv 8)) (blkOk_by (by kernel_rfl)) (fun _ _ _ _ _ => by exact (pg_name (i := 13) nd rfl (by first | exact Or.inl rfl | exact Or.inr rfl))) (fun _ _ _ _ _ => by exact pts_nil) (fun _ _ _ _ _ => by exact (pe_callTy (k_tuple (K := K)) (by rfl) (Fx.free 101) (by decide +kernel) (pa_cons (pe_lc (own := [("_law_m", 10)]) (g := (gName 10)) (tt := tYes) rfl nd (k_list_ (K := K) (pv 7)) (blkOk_by (by kernel_rfl)) (fun _ _ _ _ _ => by exact (pg_name (i := 10) nd rfl (by first | exact Or.inl rfl | exact Or.inr rfl))) (fun _ _ _ _ _ => by exact pts_nil) (fun _ _ _ _ _ => by exact (pe_callTy (k_tuple (K := K)) (by rfl) (Fx.free 101) (by decide +kernel) (pa_cons (pe_dget hu (pv 5) (pe_tup (pa_cons (pv 13) (pa_cons (pv 10) pa_nil))) (fun _ _ => rfl)) pa_nil)))) pa_nil)))) pa_nil)) (pa_cons (pv 14) pa_nil))))))))))))), fun ds μ Pq hS => ?_⟩
  obtain ⟨B, R, p, rfl, ok, rok, pg, q⟩ := hS
  have hm4 := ok.m4
  have hm1 := ok.m1
  have hn3 := ok.n3
  have R3 := rok.1
  have inC : ∀ k m, k < B.sites.length → m < B.months → (k, m) ∈ B.cells := fun k m h1 h2 => mem_cells.mpr ⟨h1, h2⟩
  refine pw_seq (pw_asg (we_call ((ea_cons (V' 0) (ea_cons (V' 1) (ea_cons (V' 2) ea_nil))).go ⟨B, R, p, rfl, ok, rok, pg.sh, ⟨pg.del0, pg.rel0, pg.sto0⟩, fun d μ' sb F => wg_unl rfl (wgs_cons (wg_name (wgs_cons (wg_name (wgs_cons (wg_name (wgs_cons (wg_name (wgs_nil ?_)))))))))⟩) mono_law_followed))
  have hall : traceTo B R p B.cells.length = traceAll B R p := by
    unfold traceTo traceAll
    rw [List.take_length]
  have hout : ∀ c, B.In c → (B.at c.1).next = none → (traceAll B R p).lts c = [] := fun c hc hn => by
    rw [← hall]; exact outlet_lts pg hc hn _ (Nat.le_refl _)
  clear hall
  generalize traceAll B R p = S at F q hout
  refine q_set (ev_listRg (ev_ix (V' (d := basinD B) 0) ev_int) (by omega)) ?_
  refine q_set (ev_listRg (n := B.sites.length) (ev_len (ev_ix (V' (d := basinD B) 0) ev_int) (.inl rfl)) (by omega)) ?_
  refine q_set (d := tupsD R.length B.months S.giv) (ev_tupleOf (ev_lcR (n := R.length) (fun k => .tup ((List.range B.months).map fun m => .tup ((S.giv (k, m)).map parD))) (ea_cons (ev_len (V' (d := rightsD R) 1) (.inl rfl)) ea_nil) (by omega) (fun r hr => ev_tupleOf (ev_lcL (fun m => .tup ((S.giv (r, m)).map parD)) (V' 7) (by omega) (fun m hm => ?_)) (.inl rfl))) (.inl rfl)) ?_
  · exact ev_tupleOf (ev_tbl (V' (d := .raw (.ref d.g)) 3) (ev_tup (ea_cons (V' 11) (ea_cons (V' 10) ea_nil))) (keys2 r m) F.g ⟨hr, hm⟩) (.inl rfl)
  refine q_set (d := .tup ((List.range B.sites.length).map fun k => .tup ((S.sto (k, B.months - 1)).map parD))) (ev_tupleOf (ev_lcL (n := B.sites.length) (fun k => .tup ((S.sto (k, B.months - 1)).map parD)) (V' 8) (by omega) (fun k hk => ?_)) (.inl rfl)) ?_
  · have e2 : ((B.months - 1 : Nat) : Int) = (B.months : Int) - 1 := by omega
    have e3 : keysOf (.tup [.int (k : Int), .int ((B.months : Int) - 1)]) = some (cellK (k, B.months - 1)) := by rw [← e2]; rfl
    exact ev_tupleOf (ev_tbl (V' (d := .raw (.ref d.k)) 4) (ev_tup (ea_cons (V' 13) (ea_cons (ev_sub (ev_ix (V' (d := basinD B) 0) ev_int) ev_int) ea_nil))) e3 F.k (inC _ _ hk (by omega))) (.inl rfl)
  refine q_set (d := tupsD B.sites.length B.months (lostOf B S)) (ev_tupleOf (ev_lcL (n := B.sites.length) (fun k => .tup ((List.range B.months).map fun m => .tup ((lostOf B S (k, m)).map parD))) (V' 8) (by omega) (fun k hk => ev_tupleOf (ev_lcL (fun m => .tup ((lostOf B S (k, m)).map parD)) (V' 7) (by omega) (fun m hm => ?_)) (.inl rfl))) (.inl rfl)) ?_
  · obtain ⟨ml, hml, _, _, hl⟩ := F.l.ex
    have e : (look ml (cellK (k, m))).getD (.lst []) = rowD (lostOf B S (k, m)) := by
      unfold lostOf
      by_cases h : Gone B (k, m)
      · rw [(hl (k, m)).1 ⟨h, inC _ _ hk hm⟩, if_pos h.2]; rfl
      · rw [(hl (k, m)).2 fun z => h z.1]
        by_cases h2 : B.letTo (k, m) = none
        · rw [if_pos h2]
          have h3 : (B.at k).next = none := by
            cases hn : (B.at k).next with
            | none => rfl
            | some j => exact absurd ⟨by rw [hn]; simp, h2⟩ h
          rw [hout (k, m) ⟨hk, hm⟩ h3]; rfl
        · rw [if_neg h2]; rfl
    have e2 := ev_dget2 (K := K) (ρ := (wipeR ((wipeR [some (basinD B), some (rightsD R), some (planD p), some (.raw (.ref d.g)), some (.raw (.ref d.k)), some (.raw (.ref d.s)), some (.raw (.ref d.l)), some (.lst (rngD 0 B.months)), some (.lst (rngD 0 B.sites.length)), some (tupsD R.length B.months S.giv), none, none, some (.tup ((List.range B.sites.length).map fun k => .tup ((S.sto (k, B.months - 1)).map parD))), none, none] [13]).set 13 (some (.int (k : Int)))) [10]).set 10 (some (.int (m : Int)))) (μ := μ') (V' (d := .raw (.ref d.l)) 6) (ev_tup (ea_cons (V' 13) (ea_cons (V' 10) ea_nil))) (ev_lst ea_nil) (.inr ⟨d.l, rfl, hml⟩) (keys2 k m)
    rw [e] at e2
    exact ev_tupleOf e2 (.inl rfl)
  refine s_retS (ev_tup (ea_cons (V' 9) (ea_cons (V' 12) (ea_cons (ev_tupleOf (ev_lcL (n := B.sites.length) (fun k => .tup ((List.range B.months).map fun m => .tup ((S.spi (k, m)).map parD))) (V' 8) (by omega) (fun k hk => ev_tupleOf (ev_lcL (fun m => .tup ((S.spi (k, m)).map parD)) (V' 7) (by omega) (fun m hm => ev_tupleOf (ev_tbl (V' (d := .raw (.ref d.s)) 5) (ev_tup (ea_cons (V' 13) (ea_cons (V' 10) ea_nil))) (keys2 k m) F.s (inC _ _ hk hm)) (.inl rfl))) (.inl rfl))) (.inl rfl)) (ea_cons (V' 14) ea_nil))))) sb q
end
end Hw
set_option Elab.async false
set_option linter.all false
set_option maxRecDepth 100000
set_option maxHeartbeats 4000000
/-! Two dicts with tuple keys that hold the same. -/
namespace Hw
open PySem PySem.W PySem.Calls PyProof.Rows PyProof.V PySem.Spec
section
variable {prog : Program} {w : World} {K : Type} [DecidableEq K] {knd : HeapKind prog w K} {A : Around} {E : Value → Shared → Prop} {s : Shared}
/-- a loop over a run of numbers, each turn of which goes on with what it was given and alters nothing -/
theorem loop_still {M : Model} {β : Type} {f : Nat → β → Sem (ForInStep β)} {b : β} {Q : β → Shared → Prop} (q : Q b s) :
    ∀ (m i : Nat), (∀ j, i ≤ j → j < i + m → ∀ {R : ForInStep β → Shared → Prop}, R (.yield b) s → wpAny M A (f j b) R E s) → wpAny M A (forIn (List.range' i m) b f) Q E s
  | 0, i, _ => wpAny_pure q
  | m + 1, i, t => by
    rw [List.range'_succ, List.forIn_cons]
    exact wpAny_bind (t i (Nat.le_refl i) (by omega) (loop_still q m (i + 1) fun j z1 z2 => t j (by omega) (by omega)))
/-- two dicts of as many items, the first one's all found in the second with equal values -/
theorem pairs_held {nm : String} {l r : Addr} {ls rs : List (K × Addr × Value)} {Q : Bool → Shared → Prop} (nl : (l == sysModules) = false) (nr : (r == sysModules) = false)
    (dl : s.heap.DictOfH knd l ls) (dr : s.heap.DictOfH knd r rs) (room : knd.room A) (same : ls.length = rs.length)
    (found : ∀ y ∈ ls, ∃ p, atKey rs y.1 = some p ∧ SeqAt.EqAt A s y.2.2 p.2 true) (q : Q true s) :
    wpAny (model prog w) A (Builtin.Dict.samePairs nm l r) Q E s := by
  obtain ⟨ol, el, tl, gl, _, ml, bl, kl, ul⟩ := dl
  obtain ⟨or, er, tr, gr, _, mr, br, kr, ur⟩ := dr
  have many : el.size = er.size := (size_of_entries bl).trans (same.trans (size_of_entries br).symm)
  have bne : (el.size != er.size) = false := by rw [many]; exact bne_self_eq_false _
  simp only [Builtin.Dict.samePairs, Builtin.Dict.showsAll, nl, nr, Bool.false_eq_true, if_false, pure_bind]
  refine wpAny_bind (wpAny_dictEntries gl ml (wpAny_bind (wpAny_dictEntries gr mr ?_)))
  simp only [bne, Bool.false_eq_true, if_false]
  refine wpAny_bind (wpAny_dictEpoch gl ml (wpAny_bind ?_))
  rw [Std.Legacy.Range.forIn_eq_forIn_range']
  refine loop_still (b := (none, ())) ?_ _ _ fun j _ top R go => ?_
  · exact wpAny_pure q
  have top' : j < ls.length := by
    have := size_of_entries bl
    simp [Std.Legacy.Range.size] at top
    omega
  have inl : ls[j] ∈ ls := List.getElem_mem top'
  have atl : el[j]? = some ⟨knd.hash ls[j].1, .ref ls[j].2.1, ls[j].2.2⟩ := by rw [entry_at bl j, List.getElem?_eq_getElem top']; rfl
  obtain ⟨p, hp, eqv⟩ := found _ inl
  refine wpAny_bind (wpAny_dictEntries gl ml ?_)
  rw [atl]
  refine wpAny_bind (wpAny_holding (wpAny_bind (wpAny_dictFind_heap room (kl _ inl) gr mr br kr ur (fun none => ?_) fun m pm some => ?_)))
  · rw [atKey_none_of_get none] at hp
    cases hp
  · rw [atKey_of_get ur some] at hp
    cases hp
    refine wpAny_bind (wpAny_dictEntries gr mr ?_)
    rw [entry_at br m, some]
    refine wpAny_holding (eqv prog w _ _ (wpAny_ite_false (by decide) (wpAny_bind (wpAny_dictEpoch gl ml (wpAny_ite_false ?_ (wpAny_pure go))))))
    simp
/-- d != e for such dicts -/
theorem ne_held {l r : Addr} {ls rs : List (K × Addr × Value)} {Q : Value → Shared → Prop} (nl : (l == sysModules) = false) (nr : (r == sysModules) = false)
    (dl : s.heap.DictOfH knd l ls) (dr : s.heap.DictOfH knd r rs) (room : knd.room A.in1) (lvl : A.units < cLine) (same : ls.length = rs.length)
    (found : ∀ y ∈ ls, ∃ p, atKey rs y.1 = some p ∧ SeqAt.EqAt A.in1 s y.2.2 p.2 true) (q : Q (.bool false) s) :
    wpAny (model prog w) A (compareOp .NotEq (.ref l) (.ref r)) Q E s := by
  have tl := dl.typeIs
  have tr := dr.typeIs
  have two {B : Around} {R : Value × Value → Shared → Prop} (h : R (.ref l, .ref r) s) : wpAny (model prog w) B (Builtin.Dict.dictSlotArgs "__ne__" ⟨[.ref l, .ref r], []⟩) R E s :=
    wpAny_bind (wpAny_notOrdered_dict tl (wpAny_pure h))
  have slot : wpAny (model prog w) A.in1 (Builtin.«dict.__ne__» ⟨[.ref l, .ref r], []⟩) (fun o t => ∃ v, o = .done (.ret v) ∧ v ≠ Value.notImplemented ∧ Q v t) E s := by
    refine wpAny_bind (two (wpAny_bind (wpAny_isInstance (T := "dict") tr PySem.F.sub_dict_dict (wpAny_ite_false (by decide) ?_))))
    refine wpAny_bind (wpAny_pure (wpAny_bind (wpAny_pure (wpAny_bind (pairs_held nl nr dl dr room same found (wpAny_pure ⟨_, rfl, ?_, q⟩))))))
    intro z
    cases z
  exact wpAny_richCompare_same_room (op := .NotEq) tl tr PySem.F.slot_dict_ne (wpAny_call_entry PySem.F.slot_dict_ne tl PySem.F.entry_dict_ne slot (PySem.F.args_dict_ne_2 _ _)) lvl
end
end Hw
namespace Hw
open PySem PySem.Spec PyProof.Rows L2
def rNeDT : R2 := fun x y H Q => ∃ a b ks ls, x = .ref a ∧ y = .ref b ∧ H a = some (.dT ks) ∧ H b = some (.dT ls) ∧ ks.length = ls.length ∧ (∀ p ∈ ks, valV ls p.1 = some p.2 ∧ flatB p.2 = true) ∧ Q (.bl false) H
theorem kt_mem {H : Hp} : ∀ {kvs : List (List Key × V)} {xs : List (List Key × Addr × Value)}, KT H kvs xs → ∀ x ∈ xs, ∃ p ∈ kvs, p.1 = x.1 ∧ RelV p.2 x.2.2
  | _, _, .nil, x, h => by cases h
  | _, _, .cons r t, x, h => by
    rcases List.mem_cons.mp h with e | e
    · subst e; exact ⟨_, List.mem_cons_self .., r.1, r.2.2⟩
    · obtain ⟨p, h1, h2⟩ := kt_mem t x e
      exact ⟨p, List.mem_cons_of_mem _ h1, h2⟩
theorem op_ne_dT {X : Cx} (hu : X.A.units + 1 < cLine) : OpR X (compareOp .NotEq) rNeDT := by
  rintro pins s σ H _ _ v u Q I rl rr ⟨l, r, kl, kr, rfl, rfl, el, er, many, found, q⟩
  cases rl
  cases rr
  obtain ⟨_, nl, vl, hl, dl⟩ := dt_of I.hok el
  obtain ⟨_, nr, vr, hr, dr⟩ := dt_of I.hok er
  have m1 := Paired.length hl
  have m2 := Paired.length hr
  refine ne_held nl nr dl dr (tupleKind_room_in1 hu) (by omega) (by omega) (fun y hy => ?_) (fin_bl I q rfl)
  obtain ⟨p, inl, ep, rel⟩ := kt_mem hl y hy
  have ⟨here, flat⟩ := found p inl
  have there := hr.val p.1
  rw [here] at there
  rw [← ep]
  revert there
  cases atKey vr p.1 with
  | none => exact False.elim
  | some z => exact fun there => ⟨z, rfl, eqAt_same rel there flat⟩
theorem MsIs.mem {K : PySem.W.Frag} {G : Hp} : ∀ {m : List (List Key × D)} {kvs : List (List Key × V)}, MsIs K G m kvs → ∀ p ∈ kvs, ∃ d, (p.1, d) ∈ m ∧ Is K G d p.2
  | [], _, h, p, hp => by cases h; cases hp
  | (k, d) :: m, _, h, p, hp => by
    obtain ⟨x, r, e1, i, l⟩ := h
    subst e1
    rcases List.mem_cons.mp hp with e | e
    · subst e; exact ⟨d, List.mem_cons_self .., i⟩
    · obtain ⟨d', h1, h2⟩ := MsIs.mem l p e
      exact ⟨d', List.mem_cons_of_mem _ h1, h2⟩
theorem ro_neDT {K : PySem.W.Frag} {μ : Mu} {P : D → Mu → Prop} {a b : Addr} {m m' : List (List Key × D)} (ha : μ a = some (.dct m)) (hb : μ b = some (.dct m')) (hl : m.length = m'.length) (h : ∀ p ∈ m, look m' p.1 = some p.2 ∧ ∃ i, p.2 = .int i) (p : P (.bl false) μ) : RO K rNeDT (.raw (.ref a)) (.raw (.ref b)) μ P := fun G0 H0 G H ρ σ v u A i1 i2 Q q => by
  cases i1; cases i2
  obtain ⟨_, _, ks, g1, g2⟩ := A.rep a _ ha
  obtain ⟨_, _, ls, g3, g4⟩ := A.rep b _ hb
  refine ⟨a, b, ks, ls, rfl, rfl, g1, g3, by rw [g2.len, g4.len, hl], fun z hz => ?_, q _ _ _ _ _ p (Ex.refl _) A rfl⟩
  obtain ⟨d, h1, h2⟩ := MsIs.mem g2 z hz
  obtain ⟨h3, j, h4⟩ := h _ h1
  simp only at h3 h4
  subst h4
  obtain ⟨x, h5, h6⟩ := g4.look h3
  have e1 : z.2 = .int j := h2
  have e2 : x = .int j := h6
  exact ⟨by rw [h5, e1, e2], by rw [e1]; rfl⟩
end Hw
set_option Elab.async false
set_option linter.all false
set_option maxRecDepth 100000
set_option maxHeartbeats 4000000
/-! What of each origin is told, and what water there is. -/
namespace Hw
open PySem PySem.Spec L2
def orgK : Org → List Key
  | .held k => [.inr "held", .inl (k : Int)]
  | .inn k m => [.inr "in", .inl (k : Int), .inl (m : Int)]
theorem orgK_of (o : Org) : keysOf (orgD o) = some (orgK o) := by cases o <;> rfl
theorem orgK_inj {a b : Org} (h : orgK a = orgK b) : a = b := by
  cases a <;> cases b <;> simp [orgK] at h ⊢ <;> omega
def tot (es : Row) (o : Org) : Int := ((es.filter fun q => decide (q.1 = o)).map (·.2)).sum
theorem tot_app (es fs : Row) (o : Org) : tot (es ++ fs) o = tot es o + tot fs o := by
  unfold tot
  rw [List.filter_append, List.map_append, List.sum_append]
theorem tot_none {es : Row} {o : Org} (h : o ∉ es.map (·.1)) : tot es o = 0 := by
  unfold tot
  have : es.filter (fun q => decide (q.1 = o)) = [] := List.filter_eq_nil_iff.mpr fun q hq => by
    simp only [decide_eq_true_eq]
    intro e
    exact h (List.mem_map.mpr ⟨q, hq, e⟩)
  rw [this]; rfl
/-- the amounts by origins, as a table -/
structure AmM (m : List (List Key × D)) (es : Row) : Prop where
  nd : (m.map (·.1)).Nodup
  key : ∀ k ∈ m.map (·.1), ∃ o, k = orgK o
  val : ∀ o, look m (orgK o) = if o ∈ es.map (·.1) then some (.int (tot es o)) else none
  len : m.length ≤ es.length
theorem AmM.nil : AmM [] [] := ⟨.nil, fun k h => (by cases h), fun o => rfl, Nat.le_refl _⟩
theorem AmM.get {m : List (List Key × D)} {es : Row} (h : AmM m es) (o : Org) : (look m (orgK o)).getD (.int 0) = .int (tot es o) := by
  rw [h.val]
  by_cases z : o ∈ es.map (·.1)
  · rw [if_pos z]; rfl
  · rw [if_neg z, tot_none z]; rfl
theorem AmM.add {m : List (List Key × D)} {es : Row} (h : AmM m es) (o : Org) (v : Int) : AmM (put m (orgK o) (.int (tot es o + v))) (es ++ [(o, v)]) := by
  have ek := put_keys m (orgK o) (.int (tot es o + v))
  refine ⟨?_, ?_, fun x => ?_, ?_⟩
  · rw [ek]
    split
    · exact h.nd
    · next z =>
      rw [List.nodup_append]
      exact ⟨h.nd, List.nodup_cons.mpr ⟨List.not_mem_nil, .nil⟩, fun a ha b hb => by
        rw [List.mem_singleton] at hb
        intro e
        exact z (by rw [← hb, ← e]; exact ha)⟩
  · intro k hk
    rw [ek] at hk
    split at hk
    · exact h.key k hk
    · rcases List.mem_append.mp hk with z | z
      · exact h.key k z
      · rw [List.mem_singleton] at z; exact ⟨o, z⟩
  · rw [look_put, List.map_append, tot_app]
    by_cases e : x = o
    · subst e
      rw [if_pos rfl, if_pos (List.mem_append_right _ (show x ∈ [(x, v)].map (·.1) from List.mem_singleton.mpr rfl))]
      have : tot [(x, v)] x = v := by simp [tot]
      rw [this]
    · rw [if_neg (fun z => e (orgK_inj z)), h.val]
      have e1 : tot [(o, v)] x = 0 := tot_none (by simpa using e)
      rw [e1, Int.add_zero]
      have e2 : x ∈ es.map (·.1) ++ [(o, v)].map (·.1) ↔ x ∈ es.map (·.1) := by simp [e]
      by_cases z : x ∈ es.map (·.1)
      · rw [if_pos z, if_pos (e2.mpr z)]
      · rw [if_neg z, if_neg (fun w => z (e2.mp w))]
  · have := put_len m (orgK o) (D.int (tot es o + v))
    have := h.len
    rw [List.length_append]
    show _ ≤ _ + 1
    omega
theorem look_inN {κ α : Type} [DecidableEq κ] {m : List (κ × α)} (nd : (m.map (·.1)).Nodup) {p : κ × α} (hp : p ∈ m) : look m p.1 = some p.2 := by
  induction m with
  | nil => cases hp
  | cons q m ih =>
    rw [List.map_cons, List.nodup_cons] at nd
    rcases List.mem_cons.mp hp with e | e
    · subst e; exact look_pos rfl
    · have : ¬ q.1 = p.1 := fun z => nd.1 (by rw [z]; exact List.mem_map.mpr ⟨p, e, rfl⟩)
      rw [look_neg this]
      exact ih nd.2 e
theorem look_key {κ α : Type} [DecidableEq κ] {m : List (κ × α)} {k : κ} {x : α} (h : look m k = some x) : k ∈ m.map (·.1) := by
  induction m with
  | nil => cases h
  | cons q m ih =>
    by_cases e : q.1 = k
    · rw [List.map_cons, e]; exact List.mem_cons_self ..
    · rw [look_neg e] at h
      exact List.mem_cons_of_mem _ (ih h)
/-- two tables of the same amounts are one -/
theorem AmM.same {m m' : List (List Key × D)} {es es' : Row} (h : AmM m es) (h' : AmM m' es') (hk : ∀ o, o ∈ es.map (·.1) ↔ o ∈ es'.map (·.1)) (ht : ∀ o, tot es o = tot es' o) : m.length = m'.length ∧ ∀ p ∈ m, look m' p.1 = some p.2 ∧ ∃ i, p.2 = .int i := by
  have look_eq : ∀ o, look m (orgK o) = look m' (orgK o) := fun o => by
    rw [h.val, h'.val, ht]
    by_cases z : o ∈ es.map (·.1)
    · rw [if_pos z, if_pos ((hk o).mp z)]
    · rw [if_neg z, if_neg (fun w => z ((hk o).mpr w))]
  have sub : ∀ {m m' : List (List Key × D)} {es es' : Row}, AmM m es → AmM m' es' → (∀ o, look m (orgK o) = look m' (orgK o)) → ∀ k ∈ m.map (·.1), k ∈ m'.map (·.1) := fun {m m' es es'} h h' e k hk => by
    obtain ⟨p, hp, rfl⟩ := List.mem_map.mp hk
    obtain ⟨o, eo⟩ := h.key _ hk
    have h1 := look_inN h.nd hp
    rw [eo, e o] at h1
    rw [eo]
    exact look_key h1
  have p1 : (m.map (·.1)).Perm (m'.map (·.1)) := (List.perm_ext_iff_of_nodup h.nd h'.nd).mpr fun k => ⟨sub h h' look_eq k, sub h' h (fun o => (look_eq o).symm) k⟩
  refine ⟨by have := p1.length_eq; rw [List.length_map, List.length_map] at this; exact this, fun p hp => ?_⟩
  have hk : p.1 ∈ m.map (·.1) := List.mem_map.mpr ⟨p, hp, rfl⟩
  obtain ⟨o, eo⟩ := h.key _ hk
  have h1 := look_inN h.nd hp
  have h2 := h1
  rw [eo, look_eq o, ← eo] at h2
  refine ⟨h2, ?_⟩
  rw [eo, h.val] at h1
  split at h1
  · exact ⟨_, (Option.some.inj h1).symm⟩
  · cases h1
def AmT (μ : Mu) (a : Addr) (es : Row) : Prop := ∃ m, μ a = some (.dct m) ∧ AmM m es
end Hw
set_option Elab.async false
set_option linter.all false
set_option maxRecDepth 100000
set_option maxHeartbeats 4000000
/-! Sums over cells. -/
namespace Hw
open PySem PySem.Spec L2
def sm {α : Type} (l : List α) (f : α → Int) : Int := (l.map f).sum
section
variable {α β : Type}
theorem sm_nil {f : α → Int} : sm [] f = 0 := rfl
theorem sm_cons {a : α} {l : List α} {f : α → Int} : sm (a :: l) f = f a + sm l f := by
  unfold sm; rw [List.map_cons, List.sum_cons]
theorem sm_app {l m : List α} {f : α → Int} : sm (l ++ m) f = sm l f + sm m f := by
  unfold sm; rw [List.map_append, List.sum_append]
theorem sm_cong {l : List α} {f g : α → Int} (h : ∀ a ∈ l, f a = g a) : sm l f = sm l g := by
  unfold sm; rw [List.map_congr_left h]
theorem sm_zero {l : List α} {f : α → Int} (h : ∀ a ∈ l, f a = 0) : sm l f = 0 := by
  induction l with
  | nil => rfl
  | cons a l ih => rw [sm_cons, h a (List.mem_cons_self ..), ih fun b hb => h b (List.mem_cons_of_mem _ hb)]; rfl
theorem sm_nonneg {l : List α} {f : α → Int} (h : ∀ a ∈ l, 0 ≤ f a) : 0 ≤ sm l f := by
  induction l with
  | nil => exact Int.le_refl _
  | cons a l ih =>
    have h1 := h a (List.mem_cons_self ..)
    have h2 := ih fun b hb => h b (List.mem_cons_of_mem _ hb)
    rw [sm_cons]; omega
theorem sm_add {l : List α} {f g : α → Int} : sm l (fun a => f a + g a) = sm l f + sm l g := by
  induction l with
  | nil => rfl
  | cons a l ih => rw [sm_cons, sm_cons, sm_cons, ih]; omega
theorem sm_sub {l : List α} {f g : α → Int} : sm l (fun a => f a - g a) = sm l f - sm l g := by
  induction l with
  | nil => rfl
  | cons a l ih => rw [sm_cons, sm_cons, sm_cons, ih]; omega
theorem sm_swap {l : List α} {m : List β} {f : α → β → Int} : sm l (fun a => sm m (f a)) = sm m fun b => sm l fun a => f a b := by
  induction l with
  | nil => exact (sm_zero fun _ _ => rfl).symm
  | cons a l ih =>
    rw [sm_cons, ih, ← sm_add]
    exact sm_cong fun b _ => (sm_cons (f := fun a => f a b)).symm
theorem sm_one [DecidableEq α] {l : List α} {f : α → Int} {c : α} (nd : l.Nodup) (h : c ∈ l) : sm l (fun a => if a = c then f a else 0) = f c := by
  induction l with
  | nil => cases h
  | cons a l ih =>
    have n := List.nodup_cons.mp nd
    rw [sm_cons]
    by_cases e : a = c
    · subst e
      rw [if_pos rfl, sm_zero]
      · omega
      · intro b hb
        have : b ≠ a := fun z => n.1 (z ▸ hb)
        exact if_neg this
    · rw [if_neg e, ih n.2 ((List.mem_cons.mp h).resolve_left (fun z => e z.symm))]; omega
theorem sm_off [DecidableEq α] {l : List α} {f : α → Int} {c : α} (h : c ∉ l) : sm l (fun a => if a = c then f a else 0) = 0 :=
  sm_zero fun a ha => by
    have : a ≠ c := fun z => h (z ▸ ha)
    exact if_neg this
theorem sm_filter {l : List α} {p : α → Bool} {f : α → Int} : sm (l.filter p) f = sm l fun a => if p a = true then f a else 0 := by
  induction l with
  | nil => rfl
  | cons a l ih =>
    rw [List.filter_cons, sm_cons]
    by_cases e : p a = true
    · rw [if_pos e, if_pos e, sm_cons, ih]
    · rw [if_neg e, if_neg e, ih]; omega
theorem sm_flat {l : List (List α)} {f : α → Int} : sm l.flatten f = sm l fun a => sm a f := by
  induction l with
  | nil => rfl
  | cons a l ih => rw [List.flatten_cons, sm_app, sm_cons, ih]
theorem sm_map {g : β → α} {l : List β} {f : α → Int} : sm (l.map g) f = sm l fun b => f (g b) := by
  unfold sm; rw [List.map_map]; rfl
theorem sm_perm {l m : List α} {f : α → Int} (h : l.Perm m) : sm l f = sm m f := perm_sum (h.map f)
theorem sm_mul0 {l : List α} {f : α → Int} {p : Prop} [Decidable p] : sm l (fun a => if p then f a else 0) = if p then sm l f else 0 := by
  by_cases h : p
  · rw [if_pos h]; exact sm_cong fun a _ => if_pos h
  · rw [if_neg h]; exact sm_zero fun a _ => if_neg h
end
/-- over cells -/
theorem sm_cells {B : Basin} {f : Cell → Int} : sm B.cells f = sm (List.range B.months) fun m => sm (List.range B.sites.length) fun k => f (k, m) := by
  unfold Basin.cells
  rw [sm_flat, sm_map]
  exact sm_cong fun m _ => sm_map
/-- what comes to a cell, over all cells -/
theorem sm_from {B : Basin} {g : Cell → Int} {c : Cell} : sm (B.letFrom c) g = sm B.cells fun o => if B.letTo o = some c then g o else 0 := by
  unfold Basin.letFrom
  rw [sm_filter]
  exact sm_cong fun o _ => by
    by_cases h : B.letTo o = some c
    · rw [if_pos h, if_pos (decide_eq_true h)]
    · rw [if_neg h, if_neg (by simpa using h)]
theorem letTo_in {B : Basin} (ok : B.Ok) {o d : Cell} (ho : B.In o) (h : B.letTo o = some d) : d ∈ B.cells := by
  obtain ⟨h1, h2, h3⟩ := letTo_some.mp h
  exact mem_cells.mpr ⟨((ok.s ho.1).next _ h1).2, h3⟩
theorem sm_allFrom {B : Basin} (ok : B.Ok) {g : Cell → Int} : sm B.cells (fun c => sm (B.letFrom c) g) = sm B.cells fun o => if B.letTo o ≠ none then g o else 0 := by
  rw [sm_cong (g := fun c => sm B.cells fun o => if B.letTo o = some c then g o else 0) fun c _ => sm_from, sm_swap]
  refine sm_cong fun o ho => ?_
  cases h : B.letTo o with
  | none => rw [if_neg (by simp)]; exact sm_zero fun c _ => if_neg (by simp)
  | some d =>
    rw [if_pos (by simp)]
    have := sm_one (f := fun _ => g o) (cells_nodup B) (letTo_in ok (mem_cells.mp ho) h)
    refine Eq.trans ?_ this
    refine sm_cong fun c _ => ?_
    by_cases e : c = d
    · rw [if_pos e, if_pos (by rw [e])]
    · rw [if_neg e, if_neg (fun z => e (Option.some.inj z).symm)]
theorem sm_range_succ {n : Nat} {f : Nat → Int} : sm (List.range (n + 1)) f = sm (List.range n) f + f n := by
  rw [List.range_succ, sm_app, sm_cons, sm_nil]; omega
theorem sm_shift : ∀ {n : Nat} {f : Nat → Int}, sm (List.range n) (fun m => if 0 < m then f (m - 1) else 0) = sm (List.range n) fun m => if m + 1 < n then f m else 0
  | 0, _ => rfl
  | n + 1, f => by
    have e2 : ∀ n, sm (List.range (n + 1)) (fun m => if 0 < m then f (m - 1) else 0) = sm (List.range n) f := fun n => by
      induction n with
      | zero => rfl
      | succ n ih => rw [sm_range_succ, ih, sm_range_succ, if_pos (by omega)]; rfl
    rw [e2, sm_range_succ, if_neg (by omega), Int.add_zero]
    exact sm_cong fun m hm => (if_pos (by have := List.mem_range.mp hm; omega)).symm
/-- what is kept from month to month -/
theorem sm_kept {B : Basin} {g : Cell → Int} : sm B.cells (fun c => if 0 < c.2 then g (c.1, c.2 - 1) else 0) = sm B.cells fun c => if c.2 + 1 < B.months then g c else 0 := by
  rw [sm_cells, sm_cells, sm_swap, sm_swap (f := fun m k => if m + 1 < B.months then g (k, m) else 0)]
  exact sm_cong fun k _ => sm_shift (f := fun m => g (k, m))
end Hw
set_option Elab.async false
set_option linter.all false
set_option maxRecDepth 100000
set_option maxHeartbeats 4000000
/-! No water is lost, and none is made. -/
namespace Hw
open PySem PySem.Spec L2
theorem tot_nil {o : Org} : tot [] o = 0 := rfl
theorem tot_one {q : Org × Int} {o : Org} : tot [q] o = if q.1 = o then q.2 else 0 := by
  unfold tot
  by_cases h : q.1 = o
  · simp [h]
  · simp [h]
theorem tot_cons {q : Org × Int} {r : Row} {o : Org} : tot (q :: r) o = (if q.1 = o then q.2 else 0) + tot r o := by
  have := tot_app [q] r o
  rw [tot_one] at this
  exact this
theorem tot_flat {l : List Row} {o : Org} : tot l.flatten o = sm l fun r => tot r o := by
  induction l with
  | nil => rfl
  | cons a l ih => rw [List.flatten_cons, tot_app, sm_cons, ih]
theorem tot_joinStep {acc : Row} {p : Org × Int} {o : Org} (hp : 0 ≤ p.2) : tot (joinStep acc p) o = tot acc o + if p.1 = o then p.2 else 0 := by
  unfold joinStep
  split
  · cases hl : acc.getLast? with
    | none => rw [tot_app, tot_one]
    | some l =>
      simp only
      split
      · next e =>
        have h1 : acc = acc.dropLast ++ [l] := by
          have hne : acc ≠ [] := fun z => by rw [z] at hl; cases hl
          have h2 := List.dropLast_concat_getLast hne
          rw [List.getLast?_eq_some_getLast hne] at hl
          cases hl
          exact h2.symm
        have h2 : tot acc o = tot acc.dropLast o + if l.1 = o then l.2 else 0 := by
          have h3 : tot acc o = tot (acc.dropLast ++ [l]) o := congrArg (fun r => tot r o) h1
          rw [tot_app, tot_one] at h3
          exact h3
        rw [tot_app, tot_one, h2]
        show _ + (if p.1 = o then l.2 + p.2 else 0) = _
        rw [e]
        by_cases z : p.1 = o
        · rw [if_pos z, if_pos z, if_pos z]; omega
        · rw [if_neg z, if_neg z, if_neg z]; omega
      · rw [tot_app, tot_one]
  · have : p.2 = 0 := by omega
    rw [this]
    split <;> omega
theorem tot_join {r : Row} {o : Org} (h : RowNN r) : tot (joinRow r) o = tot r o := by
  have : ∀ (r acc : Row), RowNN r → tot (r.foldl joinStep acc) o = tot acc o + tot r o := fun r => by
    induction r with
    | nil => intro acc _; rw [tot_nil]; exact (Int.add_zero _).symm
    | cons p r ih =>
      intro acc h
      rw [List.foldl_cons, ih _ (fun q hq => h q (List.mem_cons_of_mem _ hq)), tot_joinStep (h p (List.mem_cons_self ..)), tot_cons]; omega
  have := this r [] h
  rw [tot_nil, Int.zero_add] at this
  exact this
theorem tot_part {r : Row} {a : Int} {o : Org} : tot (partRow r a).front o + tot (partRow r a).rest o = tot r o := by
  have : ∀ (r : Row) (s : Parts), tot (r.foldl partStep s).front o + tot (r.foldl partStep s).rest o = tot s.front o + tot s.rest o + tot r o := fun r => by
    induction r with
    | nil => intro s; rw [tot_nil]; exact (Int.add_zero _).symm
    | cons p r ih =>
      intro s
      rw [List.foldl_cons, ih, tot_cons]
      unfold partStep
      dsimp only
      rw [tot_app, tot_app, tot_one, tot_one]
      dsimp only
      by_cases z : p.1 = o
      · rw [if_pos z, if_pos z, if_pos z]; omega
      · rw [if_neg z, if_neg z, if_neg z]; omega
  have := this r ⟨[], [], a⟩
  rw [tot_nil] at this
  unfold partRow
  omega
theorem tot_two {r : Row} {a : Int} {o : Org} (hr : RowNN r) (ha : 0 ≤ a) : tot r o = tot (joinRow (partRow r a).front) o + tot (joinRow (partRow r a).rest) o := by
  obtain ⟨h1, h2, _⟩ := partRow_nn hr ha
  rw [tot_join h1, tot_join h2, tot_part]
theorem updC_same {f : Rows} {c : Cell} {r : Row} : updC f c r c = r := if_pos rfl
theorem updC_ne {f : Rows} {c x : Cell} {r : Row} (h : x ≠ c) : updC f c r x = f x := if_neg h
/-- only what belongs to the cell is given -/
theorem giveAll_off {R : List Right} {p : Plan} {c : Cell} {s : Rows × Row} {x : Cell} (h : ((rAt R x.1).site, x.2) ≠ c) : ∀ i, (giveAll R p c s i).1 x = s.1 x := fun i => by
  induction i with
  | zero => rfl
  | succ i ih =>
    rw [giveAll_succ]
    unfold giveStep
    split
    · next e =>
      show updC _ _ _ x = _
      rw [updC_ne (fun z => h (by rw [z]; exact Prod.ext e rfl)), ih]
    · exact ih
theorem giveAll_later {R : List Right} {p : Plan} {c : Cell} {s : Rows × Row} {r : Nat} : ∀ i, r < i → ∀ m, (giveAll R p c s i).1 (r, m) = (giveAll R p c s (r + 1)).1 (r, m) := fun i => by
  induction i with
  | zero => intro h; omega
  | succ i ih =>
    intro h m
    by_cases e : r = i
    · subst e; rfl
    · have h1 := ih (by omega) m
      rw [← h1, giveAll_succ]
      unfold giveStep
      split
      · exact updC_ne (fun z => e (congrArg Prod.fst z))
      · rfl
theorem giveAll_tot {B : Basin} {R : List Right} {p : Plan} {S : TrS} {c : Cell} {o : Org} (pn : ∀ i j, 0 ≤ get2 p.del i j) : ∀ i, tot (rowAt B S c) o = sm (List.range i) (fun r => if (rAt R r).site = c.1 then tot ((giveAll R p c (S.giv, rowAt B S c) i).1 (r, c.2)) o else 0) + tot (giveAll R p c (S.giv, rowAt B S c) i).2 o := fun i => by
  induction i with
  | zero => rw [show List.range 0 = [] from rfl, sm_nil]; show _ = 0 + tot (rowAt B S c) o; omega
  | succ i ih =>
    rw [sm_range_succ]
    have e1 : sm (List.range i) (fun r => if (rAt R r).site = c.1 then tot ((giveAll R p c (S.giv, rowAt B S c) (i + 1)).1 (r, c.2)) o else 0) = sm (List.range i) (fun r => if (rAt R r).site = c.1 then tot ((giveAll R p c (S.giv, rowAt B S c) i).1 (r, c.2)) o else 0) := sm_cong fun r hr => by
      have h := List.mem_range.mp hr
      rw [giveAll_later (i + 1) (by omega), giveAll_later i h]
    rw [e1]
    have hn := giveAll_nn (B := B) (R := R) (p := p) (S := S) (c := c) i
    rw [giveAll_succ]
    generalize giveAll R p c (S.giv, rowAt B S c) i = g at ih hn
    rw [ih]
    unfold giveStep
    by_cases e : (rAt R i).site = c.1
    · rw [if_pos e, if_pos e]
      dsimp only
      rw [updC_same, tot_two (o := o) hn (pn i c.2)]; omega
    · rw [if_neg e, if_neg e]; omega
/-- what a cell's water becomes -/
theorem trace_tot {B : Basin} {R : List Right} {p : Plan} {S : TrS} {c : Cell} {o : Org} (pn : PlanNN p) (hr : RowNN (rowIn B S c)) :
    tot (rowIn B S c) o = sm (List.range R.length) (fun r => if (rAt R r).site = c.1 then tot ((traceStep B R p S c).giv (r, c.2)) o else 0) + (tot ((traceStep B R p S c).lts c) o + (tot ((traceStep B R p S c).sto c) o + tot ((traceStep B R p S c).spi c) o)) := by
  have h1 := giveAll_tot (B := B) (R := R) (p := p) (S := S) (c := c) (o := o) pn.del0 R.length
  have hn := giveAll_nn (B := B) (R := R) (p := p) (S := S) (c := c) R.length
  have h0 : tot (rowAt B S c) o = tot (rowIn B S c) o := tot_join hr
  rw [← h0, h1]
  unfold traceStep
  dsimp only
  generalize giveAll R p c (S.giv, rowAt B S c) R.length = g at hn
  rw [updC_same, updC_same, updC_same]
  rw [tot_two (o := o) hn (pn.rel0 c.1 c.2), tot_two (o := o) (joinRow_nn (partRow g.2 (get2 p.rel c.1 c.2)).rest) (pn.sto0 c.1 c.2)]
theorem take_no {B : Basin} {j : Nat} {c : Cell} (hc : B.cells[j]? = some c) : c ∉ B.cells.take j := fun h => by
  obtain ⟨i, hi⟩ := List.mem_iff_getElem?.mp h
  have hij : i < j := by
    have := (List.getElem?_eq_some_iff.mp hi).1
    rw [List.length_take] at this; omega
  rw [List.getElem?_take_of_lt hij] at hi
  have := (List.getElem?_inj (List.getElem?_eq_some_iff.mp hi).1 (cells_nodup B)).mp (hi.trans hc.symm)
  omega
theorem take_sub {B : Basin} {i j : Nat} (h : i ≤ j) {x : Cell} (hx : x ∈ B.cells.take i) : x ∈ B.cells.take j := by
  have e : B.cells.take i = (B.cells.take j).take i := by rw [List.take_take, Nat.min_eq_left h]
  rw [e] at hx
  exact List.mem_of_mem_take hx
/-- what is told of a cell stays -/
theorem trace_stay {B : Basin} {R : List Right} {p : Plan} {i : Nat} : ∀ d, i + d ≤ B.cells.length →
    (∀ x ∈ B.cells.take i, (traceTo B R p (i + d)).lts x = (traceTo B R p i).lts x ∧ (traceTo B R p (i + d)).sto x = (traceTo B R p i).sto x ∧ (traceTo B R p (i + d)).spi x = (traceTo B R p i).spi x) ∧
    ∀ x : Cell, ((rAt R x.1).site, x.2) ∈ B.cells.take i → (traceTo B R p (i + d)).giv x = (traceTo B R p i).giv x := fun d => by
  induction d with
  | zero => intro _; exact ⟨fun x _ => ⟨rfl, rfl, rfl⟩, fun x _ => rfl⟩
  | succ d ih =>
    intro h
    obtain ⟨h1, h2⟩ := ih (by omega)
    have hc : B.cells[i + d]? = some (B.cells[i + d]'(by omega)) := List.getElem?_eq_getElem _
    generalize B.cells[i + d]'(by omega) = c at hc
    have hno := take_no hc
    rw [show i + (d + 1) = (i + d) + 1 from rfl, traceTo_succ hc]
    refine ⟨fun x hx => ?_, fun x hx => ?_⟩
    · have hne : x ≠ c := fun z => hno (z ▸ take_sub (by omega) hx)
      obtain ⟨a1, a2, a3⟩ := h1 x hx
      unfold traceStep
      dsimp only
      rw [updC_ne hne, updC_ne hne, updC_ne hne]
      exact ⟨a1, a2, a3⟩
    · have hne : ((rAt R x.1).site, x.2) ≠ c := fun z => hno (z ▸ take_sub (by omega) hx)
      show (giveAll R p c ((traceTo B R p (i + d)).giv, rowAt B (traceTo B R p (i + d)) c) R.length).1 x = _
      rw [giveAll_off hne]
      exact h2 x hx
theorem traceTo_all {B : Basin} {R : List Right} {p : Plan} : traceTo B R p B.cells.length = traceAll B R p := by
  unfold traceTo traceAll
  rw [List.take_length]
theorem inf_nn {B : Basin} (ok : B.Ok) {c : Cell} (hc : B.In c) : 0 ≤ B.inf c := by
  have h := infAt ok hc
  rw [List.getElem?_map] at h
  cases e : (B.at c.1).inflows[c.2]? with
  | none => rw [e] at h; cases h
  | some x =>
    rw [e] at h
    have e2 : x = B.inf c := by
      have := Option.some.inj h
      injection this
    rw [← e2]
    exact ((ok.s hc.1).inf x (List.mem_of_getElem? e)).1
theorem sm_ups {B : Basin} (ok : B.Ok) {g : Cell → Int} {c : Cell} (hc : B.In c) : sm (B.ups c) g = sm (B.letFrom c) g := by
  refine sm_perm (List.Perm.symm ?_)
  refine (List.perm_ext_iff_of_nodup (List.Pairwise.filter _ (cells_nodup B)) ?_).mpr fun o => (mem_ups ok hc).symm
  refine List.Pairwise.imp ?_ (ups_rise B c)
  intro a b h e
  rw [e] at h; omega
/-- the same over the last state -/
theorem all_tot {B : Basin} (ok : B.Ok) {R : List Right} {p : Plan} (pn : PlanNN p) {c : Cell} (hc : B.In c) (o : Org) :
    ((if 0 < c.2 then tot ((traceAll B R p).sto (c.1, c.2 - 1)) o else if Org.held c.1 = o then (B.at c.1).held else 0) + sm (B.letFrom c) (fun x => tot ((traceAll B R p).lts x) o)) + (if Org.inn c.1 c.2 = o then B.inf c else 0) =
      sm (List.range R.length) (fun r => if (rAt R r).site = c.1 then tot ((traceAll B R p).giv (r, c.2)) o else 0) + (tot ((traceAll B R p).lts c) o + (tot ((traceAll B R p).sto c) o + tot ((traceAll B R p).spi c) o)) := by
  obtain ⟨i, hi⟩ := List.mem_iff_getElem?.mp (mem_cells.mpr hc)
  have hil := (List.getElem?_eq_some_iff.mp hi).1
  obtain ⟨s1, _⟩ := trace_stay (B := B) (R := R) (p := p) (i := i) (B.cells.length - i) (by omega)
  obtain ⟨s2, g2⟩ := trace_stay (B := B) (R := R) (p := p) (i := i + 1) (B.cells.length - (i + 1)) (by omega)
  rw [show i + (B.cells.length - i) = B.cells.length by omega, traceTo_all] at s1
  rw [show i + 1 + (B.cells.length - (i + 1)) = B.cells.length by omega, traceTo_all] at s2 g2
  have htk : B.cells.take (i + 1) = B.cells.take i ++ [c] := by rw [List.take_succ, hi]; rfl
  have hcin : c ∈ B.cells.take (i + 1) := by rw [htk]; exact List.mem_append_right _ (List.mem_singleton.mpr rfl)
  have nn := traceTo_nn (B := B) (R := R) (p := p) i (by omega)
  have h1 := trace_tot (R := R) (p := p) (o := o) pn (rowIn_nn ok hc nn)
  rw [← traceTo_succ hi] at h1
  have eL : tot (rowIn B (traceTo B R p i) c) o = ((if 0 < c.2 then tot ((traceAll B R p).sto (c.1, c.2 - 1)) o else if Org.held c.1 = o then (B.at c.1).held else 0) + sm (B.letFrom c) (fun x => tot ((traceAll B R p).lts x) o)) + (if Org.inn c.1 c.2 = o then B.inf c else 0) := by
    unfold rowIn
    rw [tot_app, tot_app, tot_flat, sm_map, tot_one]
    congr 1
    congr 1
    · by_cases z : 0 < c.2
      · rw [if_pos z, if_pos z]
        have hm := hc.2
        rw [(s1 (c.1, c.2 - 1) (take_before hi ⟨hc.1, by show c.2 - 1 < B.months; omega⟩ (.inl (by show c.2 - 1 < c.2; omega)))).2.1]
      · rw [if_neg z, if_neg z, tot_one]
    · rw [← sm_ups ok hc]
      refine sm_cong fun x hx => ?_
      have h3 := mem_letFrom.mp ((mem_ups ok hc).mp hx)
      obtain ⟨e1, e2, e3⟩ := letTo_some.mp h3.2
      have h2 := ((ok.s h3.1.1).next _ e1).1
      rw [(s1 x (take_before hi h3.1 (by unfold cellBefore; omega))).1]
  rw [← eL, h1]
  obtain ⟨a1, a2, a3⟩ := s2 c hcin
  rw [a1, a2, a3]
  congr 1
  refine sm_cong fun r _ => ?_
  by_cases z : (rAt R r).site = c.1
  · rw [if_pos z, if_pos z, g2 (r, c.2) (by show ((rAt R r).site, c.2) ∈ _; rw [z]; exact hcin)]
  · rw [if_neg z, if_neg z]
/-- all parcels told -/
def esTold (B : Basin) (R : List Right) (S : TrS) : Row :=
  ((List.range B.sites.length).map fun k => S.sto (k, B.months - 1)).flatten ++
  (((List.range R.length).map fun r => ((List.range B.months).map fun m => S.giv (r, m)).flatten).flatten ++
  (((List.range B.sites.length).map fun k => ((List.range B.months).map fun m => S.spi (k, m)).flatten).flatten ++
  ((List.range B.sites.length).map fun k => ((List.range B.months).map fun m => lostOf B S (k, m)).flatten).flatten))
def esWater (B : Basin) : Row := ((List.range B.sites.length).map fun k => (if 0 < (B.at k).held then [(Org.held k, (B.at k).held)] else []) ++ ((List.range B.months).map fun m => if 0 < B.inf (k, m) then [(Org.inn k m, B.inf (k, m))] else []).flatten).flatten
theorem cells_sm {B : Basin} {f : Cell → Int} : sm B.cells f = sm (List.range B.sites.length) fun k => sm (List.range B.months) fun m => f (k, m) := by
  rw [sm_cells, sm_swap]
theorem tot_water {B : Basin} (ok : B.Ok) (o : Org) : tot (esWater B) o = sm B.cells fun c => (if 0 < c.2 then 0 else if Org.held c.1 = o then (B.at c.1).held else 0) + (if Org.inn c.1 c.2 = o then B.inf c else 0) := by
  unfold esWater
  rw [tot_flat, sm_map, cells_sm]
  refine sm_cong fun k hk => ?_
  have hk := List.mem_range.mp hk
  rw [tot_app, tot_flat, sm_map, sm_add]
  congr 1
  · have hm := ok.m1
    obtain ⟨n, hn⟩ : ∃ n, B.months = n + 1 := ⟨B.months - 1, by omega⟩
    have e : sm (List.range B.months) (fun m => if 0 < m then 0 else if Org.held k = o then (B.at k).held else 0) = if Org.held k = o then (B.at k).held else 0 := by
      rw [hn]
      clear hn
      generalize (if Org.held k = o then (B.at k).held else 0) = y
      induction n with
      | zero =>
        rw [sm_range_succ]
        show 0 + (if 0 < 0 then 0 else y) = y
        rw [if_neg (Nat.lt_irrefl 0), Int.zero_add]
      | succ n ih => rw [sm_range_succ, ih, if_pos (by omega), Int.add_zero]
    show _ = sm (List.range B.months) (fun m => if 0 < m then 0 else if Org.held k = o then (B.at k).held else 0)
    rw [e]
    have h0 := (ok.s hk).held0
    by_cases z : 0 < (B.at k).held
    · rw [if_pos z, tot_one]
    · rw [if_neg z, tot_nil]
      have : (B.at k).held = 0 := by omega
      rw [this]; split <;> rfl
  · refine sm_cong fun m hm => ?_
    have hm := List.mem_range.mp hm
    have h0 := inf_nn ok (c := (k, m)) ⟨hk, hm⟩
    by_cases z : 0 < B.inf (k, m)
    · rw [if_pos z, tot_one]
    · rw [if_neg z, tot_nil]
      have : B.inf (k, m) = 0 := by omega
      rw [this]; split <;> rfl
theorem tot_told {B : Basin} (ok : B.Ok) {R : List Right} (rok : RightsOk B R) {S : TrS} (o : Org) : tot (esTold B R S) o =
    sm B.cells fun c => (if c.2 + 1 < B.months then 0 else tot (S.sto c) o) + (sm (List.range R.length) (fun r => if (rAt R r).site = c.1 then tot (S.giv (r, c.2)) o else 0) + (tot (S.spi c) o + if B.letTo c ≠ none then 0 else tot (S.lts c) o)) := by
  unfold esTold
  rw [tot_app, tot_app, tot_app, sm_add, sm_add, sm_add]
  congr 1
  · rw [tot_flat, sm_map, cells_sm]
    refine sm_cong fun k hk => ?_
    have hm := ok.m1
    obtain ⟨n, hn⟩ : ∃ n, B.months = n + 1 := ⟨B.months - 1, by omega⟩
    show tot (S.sto (k, B.months - 1)) o = sm (List.range B.months) fun m => if m + 1 < B.months then 0 else tot (S.sto (k, m)) o
    rw [hn, sm_range_succ, sm_zero fun m hm => if_pos (by have := List.mem_range.mp hm; omega), if_neg (by omega), Int.zero_add]
    rfl
  congr 1
  · rw [tot_flat, sm_map, sm_cells]
    rw [sm_cong (g := fun r => sm (List.range B.months) fun m => tot (S.giv (r, m)) o) fun r _ => by rw [tot_flat, sm_map], sm_swap]
    refine sm_cong fun m _ => ?_
    show _ = sm (List.range B.sites.length) fun k => sm (List.range R.length) fun r => if (rAt R r).site = k then tot (S.giv (r, m)) o else 0
    rw [sm_swap]
    refine sm_cong fun r hr => ?_
    have h := sm_one (f := fun _ => tot (S.giv (r, m)) o) (List.nodup_range (n := B.sites.length)) (List.mem_range.mpr (rok.at (List.mem_range.mp hr)).site)
    refine h.symm.trans (sm_cong fun k _ => ?_)
    by_cases z : k = (rAt R r).site
    · rw [if_pos z, if_pos z.symm]
    · rw [if_neg z, if_neg (fun y => z y.symm)]
  congr 1
  · rw [tot_flat, sm_map, cells_sm]
    exact sm_cong fun k _ => by rw [tot_flat, sm_map]
  · rw [tot_flat, sm_map, cells_sm]
    refine sm_cong fun k _ => ?_
    rw [tot_flat, sm_map]
    refine sm_cong fun m _ => ?_
    unfold lostOf
    by_cases z : B.letTo (k, m) = none
    · rw [if_pos z, if_neg (by simp [z])]
    · rw [if_neg z, if_pos z, tot_nil]
/-- the amounts of each origin add up -/
theorem tot_same {B : Basin} (ok : B.Ok) {R : List Right} (rok : RightsOk B R) {p : Plan} (pn : PlanNN p) (o : Org) : tot (esTold B R (traceAll B R p)) o = tot (esWater B) o := by
  rw [tot_told ok rok, tot_water ok]
  have h := sm_cong (l := B.cells) fun c hc => all_tot (R := R) (p := p) ok pn (mem_cells.mp hc) o
  generalize traceAll B R p = S at h ⊢
  simp only [sm_add] at h ⊢
  have e1 : sm B.cells (fun c => if 0 < c.2 then tot (S.sto (c.1, c.2 - 1)) o else if Org.held c.1 = o then (B.at c.1).held else 0) = sm B.cells (fun c => if 0 < c.2 then tot (S.sto (c.1, c.2 - 1)) o else 0) + sm B.cells (fun c => if 0 < c.2 then 0 else if Org.held c.1 = o then (B.at c.1).held else 0) := by
    rw [← sm_add]
    refine sm_cong fun c _ => ?_
    by_cases z : 0 < c.2
    · rw [if_pos z, if_pos z, if_pos z]; omega
    · rw [if_neg z, if_neg z, if_neg z]; omega
  rw [e1, sm_kept (g := fun c => tot (S.sto c) o), sm_allFrom ok (g := fun c => tot (S.lts c) o)] at h
  have e2 : sm B.cells (fun c => tot (S.sto c) o) = sm B.cells (fun c => if c.2 + 1 < B.months then tot (S.sto c) o else 0) + sm B.cells (fun c => if c.2 + 1 < B.months then 0 else tot (S.sto c) o) := by
    rw [← sm_add]
    refine sm_cong fun c _ => ?_
    by_cases z : c.2 + 1 < B.months
    · rw [if_pos z, if_pos z]; omega
    · rw [if_neg z, if_neg z]; omega
  have e3 : sm B.cells (fun c => tot (S.lts c) o) = sm B.cells (fun c => if B.letTo c ≠ none then tot (S.lts c) o else 0) + sm B.cells (fun c => if B.letTo c ≠ none then 0 else tot (S.lts c) o) := by
    rw [← sm_add]
    refine sm_cong fun c _ => ?_
    by_cases z : B.letTo c ≠ none
    · rw [if_pos z, if_pos z]; omega
    · rw [if_neg z, if_neg z]; omega
  omega
def RowP (r : Row) : Prop := ∀ q ∈ r, 0 < q.2
structure RowsP (S : TrS) : Prop where
  giv : ∀ x, RowP (S.giv x)
  lts : ∀ x, RowP (S.lts x)
  sto : ∀ x, RowP (S.sto x)
  spi : ∀ x, RowP (S.spi x)
theorem updC_p {f : Rows} {c : Cell} {r : Row} (h : ∀ x, RowP (f x)) (x : Cell) : RowP (updC f c (joinRow r) x) := by
  unfold updC
  split
  · exact joinRow_pos _
  · exact h x
theorem traceStep_p {B : Basin} {R : List Right} {p : Plan} {S : TrS} {c : Cell} (h : RowsP S) : RowsP (traceStep B R p S c) := by
  have hg : ∀ i x, RowP ((giveAll R p c (S.giv, rowAt B S c) i).1 x) := fun i => by
    induction i with
    | zero => exact h.giv
    | succ i ih =>
      intro x
      rw [giveAll_succ]
      unfold giveStep
      split
      · exact updC_p ih x
      · exact ih x
  exact ⟨hg _, updC_p h.lts, updC_p h.sto, updC_p h.spi⟩
theorem traceAll_p {B : Basin} {R : List Right} {p : Plan} : RowsP (traceAll B R p) := by
  have : ∀ (cs : List Cell) (S : TrS), RowsP S → RowsP (cs.foldl (traceStep B R p) S) := fun cs => by
    induction cs with
    | nil => intro S h; exact h
    | cons c cs ih => intro S h; exact ih _ (traceStep_p h)
  exact this _ _ ⟨fun _ _ h => (by cases h), fun _ _ h => (by cases h), fun _ _ h => (by cases h), fun _ _ h => (by cases h)⟩
theorem flat_p {α : Type} {l : List α} {f : α → Row} (h : ∀ a ∈ l, RowP (f a)) : RowP (l.map f).flatten := fun q hq => by
  obtain ⟨r, hr, hq⟩ := List.mem_flatten.mp hq
  obtain ⟨a, ha, rfl⟩ := List.mem_map.mp hr
  exact h a ha q hq
theorem app_p {r s : Row} (h : RowP r) (g : RowP s) : RowP (r ++ s) := fun q hq => (List.mem_append.mp hq).elim (h q) (g q)
theorem told_p {B : Basin} {R : List Right} {S : TrS} (h : RowsP S) : RowP (esTold B R S) :=
  app_p (flat_p fun k _ => h.sto _) (app_p (flat_p fun r _ => flat_p fun m _ => h.giv _) (app_p (flat_p fun k _ => flat_p fun m _ => h.spi _) (flat_p fun k _ => flat_p fun m _ => by
    unfold lostOf
    split
    · exact h.lts _
    · intro q hq; cases hq)))
theorem water_p {B : Basin} : RowP (esWater B) := flat_p fun k _ => app_p (by
    split
    · next z => intro q hq; rw [List.mem_singleton] at hq; rw [hq]; exact z
    · intro q hq; cases hq) (flat_p fun m _ => by
    split
    · next z => intro q hq; rw [List.mem_singleton] at hq; rw [hq]; exact z
    · intro q hq; cases hq)
theorem key_tot {r : Row} {o : Org} (h : RowP r) : o ∈ r.map (·.1) ↔ 0 < tot r o := by
  induction r with
  | nil => rw [tot_nil]; exact ⟨fun z => (by cases z), fun z => absurd z (by omega)⟩
  | cons q r ih =>
    have h1 := h q (List.mem_cons_self ..)
    have h2 := ih fun x hx => h x (List.mem_cons_of_mem _ hx)
    have h3 : 0 ≤ tot r o := by
      clear ih h2
      induction r with
      | nil => exact Int.le_refl _
      | cons x r ih =>
        have h4 := h x (List.mem_cons_of_mem _ (List.mem_cons_self ..))
        have h5 := ih fun y hy => h y ((List.mem_cons.mp hy).elim (fun z => z ▸ List.mem_cons_self ..) fun z => List.mem_cons_of_mem _ (List.mem_cons_of_mem _ z))
        rw [tot_cons]
        split <;> omega
    rw [List.map_cons, List.mem_cons, tot_cons, h2]
    by_cases e : q.1 = o
    · rw [if_pos e]
      exact ⟨fun _ => by omega, fun _ => .inl e.symm⟩
    · rw [if_neg e, Int.zero_add]
      exact ⟨fun z => z.resolve_left fun y => e y.symm, .inr⟩
theorem keys_same {B : Basin} (ok : B.Ok) {R : List Right} (rok : RightsOk B R) {p : Plan} (pn : PlanNN p) (o : Org) : o ∈ (esTold B R (traceAll B R p)).map (·.1) ↔ o ∈ (esWater B).map (·.1) := by
  rw [key_tot (told_p traceAll_p), key_tot water_p, tot_same ok rok pn]
end Hw
set_option Elab.async false
set_option linter.all false
set_option maxRecDepth 100000
set_option maxHeartbeats 4000000
/-! The three plans are right. -/
namespace Hw
open PySem PySem.Spec L2
theorem fault_free {B : Basin} {R : List Right} {p : Plan} (hd : ∀ r m, r < R.length → m < B.months → get2 p.del r m ≤ ((rAt R r).demands[m]?).getD 0)
    (hc : ∀ c, B.In c → badRel B p c = false ∧ get2 p.sto c.1 c.2 ≤ (B.at c.1).room ∧ 0 ≤ spillOf B R p c) : planFault B R p = none := by
  refine fs_none fun m hm => ?_
  unfold monthFault
  rw [fs_none (f := rightFault R p m) fun r hr => ?_]
  · refine fs_none fun k hk => ?_
    obtain ⟨h1, h2, h3⟩ := hc (k, m) ⟨hk, hm⟩
    unfold cellFault
    rw [if_neg (by rw [h1]; decide), if_neg (by omega), if_neg (by omega)]
  · unfold rightFault
    have := hd r m hr hm
    rw [if_neg (by omega)]
theorem dem_nn {B : Basin} {R : List Right} (rok : RightsOk B R) {r m : Nat} (hr : r < R.length) : 0 ≤ ((rAt R r).demands[m]?).getD 0 := by
  cases h : (rAt R r).demands[m]? with
  | none => exact Int.le_refl _
  | some x => exact ((rok.at hr).dem x (List.mem_of_getElem? h)).1
theorem sup_nn {B : Basin} (ok : B.Ok) {c : Cell} (hc : B.In c) : 0 ≤ B.supply c := by
  have h1 := inf_nn ok hc
  have h2 := (ok.s hc.1).held0
  unfold Basin.supply
  split <;> omega
theorem taken_sm {R : List Right} {p : Plan} {c : Cell} {i : Nat} : taken R p c i = sm (List.range i) fun r => if (rAt R r).site = c.1 then get2 p.del r c.2 else 0 := rfl
theorem recv_sm {B : Basin} {p : Plan} {c : Cell} : recv B p c = (B.supply c + if 0 < c.2 then get2 p.sto c.1 (c.2 - 1) else 0) + sm (B.letFrom c) fun o => get2 p.rel o.1 o.2 := rfl
theorem recv_nn {B : Basin} (ok : B.Ok) {p : Plan} (pn : PlanNN p) {c : Cell} (hc : B.In c) : 0 ≤ recv B p c := by
  have h1 := sup_nn ok hc
  have h2 := pn.sto0 c.1 (c.2 - 1)
  have h3 : 0 ≤ sm (B.letFrom c) fun o => get2 p.rel o.1 o.2 := sm_nonneg fun o _ => pn.rel0 o.1 o.2
  rw [recv_sm]
  split <;> omega
theorem PlanGood.nn {B : Basin} {R : List Right} {p : Plan} (g : PlanGood B R p) : PlanNN p := ⟨g.del0, g.rel0, g.sto0⟩
/-! nothing but spilling -/
theorem get2_rep {a b i j : Nat} : get2 (List.replicate a (List.replicate b 0)) i j = 0 := by
  unfold get2
  rw [List.getElem?_replicate]
  split
  · show ((List.replicate b (0 : Int))[j]?).getD 0 = 0
    rw [List.getElem?_replicate]
    split <;> rfl
  · rfl
theorem tab_rep {a b : Nat} : Tab a b (List.replicate a (List.replicate b 0)) := ⟨List.length_replicate, fun r hr => by rw [List.eq_of_mem_replicate hr, List.length_replicate]⟩
theorem noPlan_good {B : Basin} (ok : B.Ok) {R : List Right} (rok : RightsOk B R) : PlanGood B R (noPlan B R) := by
  have e1 : ∀ i j, get2 (noPlan B R).del i j = 0 := fun i j => get2_rep
  have e2 : ∀ i j, get2 (noPlan B R).rel i j = 0 := fun i j => get2_rep
  have e3 : ∀ i j, get2 (noPlan B R).sto i j = 0 := fun i j => get2_rep
  have nn : PlanNN (noPlan B R) := ⟨fun i j => by rw [e1]; omega, fun i j => by rw [e2]; omega, fun i j => by rw [e3]; omega⟩
  refine ⟨⟨tab_rep, tab_rep, tab_rep⟩, fault_free (fun r m hr hm => by rw [e1]; exact dem_nn rok hr) (fun c hc => ⟨?_, by rw [e3]; exact (ok.s hc.1).room0, ?_⟩), nn.del0, nn.rel0, nn.sto0⟩
  · unfold badRel
    rw [e2]
    cases h : (B.at c.1).reach with
    | none => simp
    | some r =>
      have := (ok.s hc.1).reach r h
      simp; omega
  · have h1 := recv_nn ok nn hc
    have h2 : taken R (noPlan B R) c R.length = 0 := by
      rw [taken_sm]
      exact sm_zero fun r _ => by rw [e1]; split <;> rfl
    unfold spillOf
    rw [e2, e3, h2]; omega
/-! the plan run by targets -/
structure Fix (p q : Plan) (R : List Right) (l : List Cell) : Prop where
  del : ∀ r m, ((rAt R r).site, m) ∈ l → get2 p.del r m = get2 q.del r m
  rel : ∀ c ∈ l, get2 p.rel c.1 c.2 = get2 q.rel c.1 c.2
  sto : ∀ c ∈ l, get2 p.sto c.1 c.2 = get2 q.sto c.1 c.2
theorem Fix.refl {p : Plan} {R : List Right} {l : List Cell} : Fix p p R l := ⟨fun _ _ _ => rfl, fun _ _ => rfl, fun _ _ => rfl⟩
theorem Fix.trans {p q s : Plan} {R : List Right} {l : List Cell} (h : Fix p q R l) (g : Fix q s R l) : Fix p s R l := ⟨fun r m z => (h.del r m z).trans (g.del r m z), fun c z => (h.rel c z).trans (g.rel c z), fun c z => (h.sto c z).trans (g.sto c z)⟩
theorem Fix.sub {p q : Plan} {R : List Right} {l m : List Cell} (h : Fix p q R l) (s : ∀ c ∈ m, c ∈ l) : Fix p q R m := ⟨fun r t z => h.del r t (s _ z), fun c z => h.rel c (s _ z), fun c z => h.sto c (s _ z)⟩
structure ServeF (B : Basin) (R : List Right) (c : Cell) (p : Plan) (w : Int) (i : Nat) (s : Plan × Int) : Prop where
  sh : s.1.Shape B R
  rel : s.1.rel = p.rel
  sto : s.1.sto = p.sto
  del : ∀ r m, ¬ ((rAt R r).site = c.1 ∧ m = c.2 ∧ r < i) → get2 s.1.del r m = get2 p.del r m
  got : ∀ r, (rAt R r).site = c.1 → r < i → 0 ≤ get2 s.1.del r c.2 ∧ get2 s.1.del r c.2 ≤ ((rAt R r).demands[c.2]?).getD 0
  w0 : 0 ≤ s.2
  sum : s.2 = w - taken R s.1 c i
theorem serveAll_f {B : Basin} {R : List Right} (rok : RightsOk B R) {c : Cell} (hc : B.In c) {p : Plan} {w : Int} (sh : p.Shape B R) (hw : 0 ≤ w) : ∀ i, i ≤ R.length → ServeF B R c p w i (serveAll R c (p, w) i) := fun i => by
  induction i with
  | zero => intro _; exact ⟨sh, rfl, rfl, fun _ _ _ => rfl, fun _ _ h => by omega, hw, by rw [taken_sm]; show w = w - sm [] _; rw [sm_nil]; omega⟩
  | succ i ih =>
    intro hi
    have S := ih (by omega)
    rw [serveAll_succ]
    generalize serveAll R c (p, w) i = s at S
    unfold serveStep
    have hd := dem_nn rok (r := i) (m := c.2) (by omega)
    by_cases e : (rAt R i).site = c.1
    · rw [if_pos e]
      generalize hdm : ((rAt R i).demands[c.2]?).getD 0 = dm at hd
      have hw0 := S.w0
      have g2 : ∀ r m, get2 (set2 s.1.del i c.2 (min dm s.2)) r m = if r = i ∧ m = c.2 then min dm s.2 else get2 s.1.del r m := fun r m => get2_set2 S.sh.del (by omega) hc.2
      refine ⟨⟨S.sh.del.set2, S.sh.rel, S.sh.sto⟩, S.rel, S.sto, fun r m h => ?_, fun r h1 h2 => ?_, ?_, ?_⟩
      · show get2 (set2 s.1.del i c.2 (min dm s.2)) r m = _
        rw [g2, if_neg (fun z => h ⟨by rw [z.1]; exact e, z.2, by omega⟩)]
        exact S.del r m fun z => h ⟨z.1, z.2.1, by omega⟩
      · show 0 ≤ get2 (set2 s.1.del i c.2 (min dm s.2)) r c.2 ∧ get2 (set2 s.1.del i c.2 (min dm s.2)) r c.2 ≤ _
        rw [g2]
        by_cases z : r = i
        · subst z
          rw [if_pos ⟨rfl, rfl⟩, hdm]
          omega
        · rw [if_neg (fun y => z y.1)]
          exact S.got r h1 (by omega)
      · show 0 ≤ s.2 - min dm s.2
        omega
      · show s.2 - min dm s.2 = w - taken R ⟨set2 s.1.del i c.2 (min dm s.2), s.1.rel, s.1.sto⟩ c (i + 1)
        rw [taken_sm, sm_range_succ, if_pos e]
        dsimp only
        rw [g2, if_pos ⟨rfl, rfl⟩]
        have : sm (List.range i) (fun r => if (rAt R r).site = c.1 then get2 (set2 s.1.del i c.2 (min dm s.2)) r c.2 else 0) = taken R s.1 c i := by
          rw [taken_sm]
          refine sm_cong fun r hr => ?_
          have := List.mem_range.mp hr
          have e3 := g2 r c.2
          rw [if_neg (fun z => by omega)] at e3
          rw [e3]
        rw [this]
        have := S.sum
        omega
    · rw [if_neg e]
      refine ⟨S.sh, S.rel, S.sto, fun r m h => ?_, fun r h1 h2 => ?_, S.w0, ?_⟩
      · exact S.del r m fun z => h ⟨z.1, z.2.1, by omega⟩
      · by_cases z : r = i
        · exact absurd (z ▸ h1) e
        · exact S.got r h1 (by omega)
      · have := S.sum
        rw [taken_sm, sm_range_succ, if_neg e, ← taken_sm]; omega
structure RunF (B : Basin) (R : List Right) (c : Cell) (p q : Plan) : Prop where
  sh : q.Shape B R
  nn : PlanNN q
  del : ∀ r m, ((rAt R r).site, m) ≠ c → get2 q.del r m = get2 p.del r m
  rel : ∀ d, d ≠ c → get2 q.rel d.1 d.2 = get2 p.rel d.1 d.2
  sto : ∀ d, d ≠ c → get2 q.sto d.1 d.2 = get2 p.sto d.1 d.2
  got : ∀ r, r < R.length → (rAt R r).site = c.1 → get2 q.del r c.2 ≤ ((rAt R r).demands[c.2]?).getD 0
  bad : badRel B q c = false
  room : get2 q.sto c.1 c.2 ≤ (B.at c.1).room
  spill : 0 ≤ recv B p c - get2 q.rel c.1 c.2 - get2 q.sto c.1 c.2 - taken R q c R.length
theorem runCell_f {B : Basin} (ok : B.Ok) {R : List Right} (rok : RightsOk B R) {T : List (List Int)} (hT : ∀ i j, 0 ≤ get2 T i j) {c : Cell} (hc : B.In c) {p : Plan} (sh : p.Shape B R) (nn : PlanNN p) (h0 : get2 p.rel c.1 c.2 = 0) : RunF B R c p (runCell B R T p c) := by
  have S := serveAll_f rok hc sh (recv_nn ok nn hc) R.length (Nat.le_refl _)
  unfold runCell
  generalize serveAll R c (p, recv B p c) R.length = s at S
  have so := ok.s hc.1
  have hw := S.w0
  have hT0 := hT c.1 c.2
  have hr0 := so.room0
  dsimp only
  generalize hk : min (min (get2 T c.1 c.2) (B.at c.1).room) s.2 = k
  have k0 : 0 ≤ k := by omega
  have k1 : k ≤ (B.at c.1).room := by omega
  have k2 : k ≤ s.2 := by omega
  have del0 : ∀ i j, 0 ≤ get2 s.1.del i j := fun i j => by
    by_cases z : (rAt R i).site = c.1 ∧ j = c.2 ∧ i < R.length
    · rw [z.2.1]; exact (S.got i z.1 z.2.2).1
    · rw [S.del i j z]; exact nn.del0 i j
  have delO : ∀ r m, ((rAt R r).site, m) ≠ c → get2 s.1.del r m = get2 p.del r m := fun r m h => S.del r m fun z => h (by rw [z.1, z.2.1])
  -- what is let down
  have main : ∃ l : Plan × Int, letDown B s.1 c (s.2 - k) = l ∧ l.1.del = s.1.del ∧ l.1.sto = s.1.sto ∧ Tab B.sites.length B.months l.1.rel ∧ (∀ d, d ≠ c → get2 l.1.rel d.1 d.2 = get2 p.rel d.1 d.2) ∧ 0 ≤ get2 l.1.rel c.1 c.2 ∧ l.2 = s.2 - k - get2 l.1.rel c.1 c.2 ∧ 0 ≤ l.2 ∧ ((B.at c.1).next = none → get2 l.1.rel c.1 c.2 = 0) ∧ ∀ x, (B.at c.1).reach = some x → get2 l.1.rel c.1 c.2 ≤ x := by
    refine ⟨_, rfl, ?_⟩
    unfold letDown
    by_cases z : B.letTo c = none
    · rw [if_pos z]
      dsimp only
      rw [S.rel, h0]
      refine ⟨rfl, rfl, sh.rel, fun _ _ => rfl, Int.le_refl _, by omega, by omega, fun _ => rfl, fun x hx => so.reach x hx⟩
    · rw [if_neg z]
      dsimp only
      have hg : ∀ i j, get2 (set2 s.1.rel c.1 c.2 (downOf B c (s.2 - k))) i j = if i = c.1 ∧ j = c.2 then downOf B c (s.2 - k) else get2 s.1.rel i j := fun i j => get2_set2 S.sh.rel hc.1 hc.2
      have hd : 0 ≤ downOf B c (s.2 - k) ∧ downOf B c (s.2 - k) ≤ s.2 - k ∧ ∀ x, (B.at c.1).reach = some x → downOf B c (s.2 - k) ≤ x := by
        unfold downOf
        cases h : (B.at c.1).reach with
        | none => exact ⟨by dsimp only; omega, by dsimp only; omega, fun x hx => by cases hx⟩
        | some r =>
          have := so.reach r h
          exact ⟨by dsimp only; omega, by dsimp only; omega, fun x hx => by cases hx; dsimp only; omega⟩
      have e1 := hg c.1 c.2
      rw [if_pos ⟨rfl, rfl⟩] at e1
      rw [e1]
      refine ⟨rfl, rfl, S.sh.rel.set2, fun d hd => ?_, hd.1, rfl, by omega, fun hn => ?_, hd.2.2⟩
      · rw [hg, if_neg (fun z => hd (Prod.ext z.1 z.2)), S.rel]
      · exact absurd (by unfold Basin.letTo; rw [hn]) z
  obtain ⟨l, hl, m1, m2, m3, m4, m5, m6, m7, m8, m9⟩ := main
  rw [hl]
  have hg : ∀ i j, get2 (set2 l.1.sto c.1 c.2 (min (B.at c.1).room (k + l.2))) i j = if i = c.1 ∧ j = c.2 then min (B.at c.1).room (k + l.2) else get2 p.sto i j := fun i j => by
    rw [get2_set2 (by rw [m2]; exact S.sh.sto) hc.1 hc.2, m2, S.sto]
  have e1 := hg c.1 c.2
  rw [if_pos ⟨rfl, rfl⟩] at e1
  refine ⟨⟨by dsimp only; rw [m1]; exact S.sh.del, m3, by dsimp only; rw [m2]; exact S.sh.sto.set2⟩, ⟨?_, ?_, ?_⟩, ?_, m4, ?_, ?_, ?_, ?_, ?_⟩
  · dsimp only; rw [m1]; exact del0
  · intro i j
    by_cases z : (i, j) = c
    · cases z; exact m5
    · have := m4 (i, j) z
      dsimp only at this ⊢
      rw [this]; exact nn.rel0 i j
  · intro i j
    show 0 ≤ get2 (set2 l.1.sto c.1 c.2 (min (B.at c.1).room (k + l.2))) i j
    rw [hg]
    split
    · omega
    · exact nn.sto0 i j
  · dsimp only; rw [m1]; exact delO
  · intro d hd
    show get2 (set2 l.1.sto c.1 c.2 (min (B.at c.1).room (k + l.2))) d.1 d.2 = _
    rw [hg, if_neg (fun z => hd (Prod.ext z.1 z.2))]
  · intro r hr he
    dsimp only; rw [m1]; exact (S.got r he hr).2
  · unfold badRel
    dsimp only
    have hn : ((B.at c.1).next.isNone && decide (0 < get2 l.1.rel c.1 c.2)) = false := by
      cases h : (B.at c.1).next with
      | none => rw [m8 h]; rfl
      | some _ => rfl
    rw [hn, Bool.false_or]
    cases h : (B.at c.1).reach with
    | none => rfl
    | some x =>
      have := m9 x h
      exact decide_eq_false (by omega)
  · show get2 (set2 l.1.sto c.1 c.2 (min (B.at c.1).room (k + l.2))) c.1 c.2 ≤ _
    rw [e1]; omega
  · show 0 ≤ recv B p c - get2 l.1.rel c.1 c.2 - get2 (set2 l.1.sto c.1 c.2 (min (B.at c.1).room (k + l.2))) c.1 c.2 - taken R ⟨l.1.del, l.1.rel, set2 l.1.sto c.1 c.2 (min (B.at c.1).room (k + l.2))⟩ c R.length
    have e2 : taken R ⟨l.1.del, l.1.rel, set2 l.1.sto c.1 c.2 (min (B.at c.1).room (k + l.2))⟩ c R.length = taken R s.1 c R.length := by
      rw [taken_sm, taken_sm]
      exact sm_cong fun r _ => by dsimp only; rw [m1]
    rw [e1, e2]
    have := S.sum
    omega
def runTo (B : Basin) (R : List Right) (T : List (List Int)) (i : Nat) : Plan := (B.cells.take i).foldl (runCell B R T) (noPlan B R)
theorem runTo_succ {B : Basin} {R : List Right} {T : List (List Int)} {i : Nat} {c : Cell} (hc : B.cells[i]? = some c) : runTo B R T (i + 1) = runCell B R T (runTo B R T i) c := foldl_take _ _ _ _ _ hc
theorem runTo_f {B : Basin} (ok : B.Ok) {R : List Right} (rok : RightsOk B R) {T : List (List Int)} (hT : ∀ i j, 0 ≤ get2 T i j) : ∀ i, i ≤ B.cells.length → (runTo B R T i).Shape B R ∧ PlanNN (runTo B R T i) ∧ ∀ d, d ∉ B.cells.take i → get2 (runTo B R T i).rel d.1 d.2 = 0
  | 0, _ => by
    have g := noPlan_good ok rok
    exact ⟨g.sh, g.nn, fun d _ => get2_rep⟩
  | i + 1, h => by
    have hc : B.cells[i]? = some (B.cells[i]'(by omega)) := List.getElem?_eq_getElem _
    generalize B.cells[i]'(by omega) = c at hc
    obtain ⟨a1, a2, a3⟩ := runTo_f ok rok hT i (by omega)
    have F := runCell_f ok rok hT (mem_cells.mp (List.mem_of_getElem? hc)) a1 a2 (a3 c (take_no hc))
    rw [runTo_succ hc]
    refine ⟨F.sh, F.nn, fun d hd => ?_⟩
    have htk : B.cells.take (i + 1) = B.cells.take i ++ [c] := by rw [List.take_succ, hc]; rfl
    rw [htk, List.mem_append, not_or, List.mem_singleton] at hd
    rw [F.rel d hd.2]; exact a3 d hd.1
theorem runTo_at {B : Basin} (ok : B.Ok) {R : List Right} (rok : RightsOk B R) {T : List (List Int)} (hT : ∀ i j, 0 ≤ get2 T i j) {i : Nat} {c : Cell} (hc : B.cells[i]? = some c) : RunF B R c (runTo B R T i) (runTo B R T (i + 1)) := by
  have hi := (List.getElem?_eq_some_iff.mp hc).1
  obtain ⟨a1, a2, a3⟩ := runTo_f ok rok hT i (by omega)
  rw [runTo_succ hc]
  exact runCell_f ok rok hT (mem_cells.mp (List.mem_of_getElem? hc)) a1 a2 (a3 c (take_no hc))
theorem runTo_stay {B : Basin} (ok : B.Ok) {R : List Right} (rok : RightsOk B R) {T : List (List Int)} (hT : ∀ i j, 0 ≤ get2 T i j) {i : Nat} : ∀ d, i + d ≤ B.cells.length → Fix (runTo B R T (i + d)) (runTo B R T i) R (B.cells.take i) := fun d => by
  induction d with
  | zero => intro _; exact .refl
  | succ d ih =>
    intro h
    have hc : B.cells[i + d]? = some (B.cells[i + d]'(by omega)) := List.getElem?_eq_getElem _
    generalize B.cells[i + d]'(by omega) = c at hc
    have F := runTo_at ok rok hT hc
    have hno : ∀ x ∈ B.cells.take i, x ≠ c := fun x hx z => take_no hc (z ▸ take_sub (by omega) hx)
    refine Fix.trans ⟨fun r m z => F.del r m (hno _ z), fun x z => F.rel x (hno x z), fun x z => F.sto x (hno x z)⟩ (ih (by omega))
theorem runBy_good {B : Basin} (ok : B.Ok) {R : List Right} (rok : RightsOk B R) {T : List (List Int)} (hT : ∀ i j, 0 ≤ get2 T i j) : PlanGood B R (runBy B R T) := by
  have e : runBy B R T = runTo B R T B.cells.length := by
    unfold runTo runBy
    rw [List.take_length]
  rw [e]
  obtain ⟨a1, a2, _⟩ := runTo_f ok rok hT B.cells.length (Nat.le_refl _)
  have key : ∀ c, B.In c → ∃ i, B.cells[i]? = some c ∧ Fix (runTo B R T B.cells.length) (runTo B R T (i + 1)) R (B.cells.take (i + 1)) ∧ Fix (runTo B R T B.cells.length) (runTo B R T i) R (B.cells.take i) ∧ c ∈ B.cells.take (i + 1) := fun c hc => by
    obtain ⟨i, hi⟩ := List.mem_iff_getElem?.mp (mem_cells.mpr hc)
    have hl := (List.getElem?_eq_some_iff.mp hi).1
    have f1 := runTo_stay ok rok hT (i := i + 1) (B.cells.length - (i + 1)) (by omega)
    have f2 := runTo_stay ok rok hT (i := i) (B.cells.length - i) (by omega)
    rw [show i + 1 + (B.cells.length - (i + 1)) = B.cells.length by omega] at f1
    rw [show i + (B.cells.length - i) = B.cells.length by omega] at f2
    refine ⟨i, hi, f1, f2, ?_⟩
    have htk : B.cells.take (i + 1) = B.cells.take i ++ [c] := by rw [List.take_succ, hi]; rfl
    rw [htk]; exact List.mem_append_right _ (List.mem_singleton.mpr rfl)
  refine ⟨a1, fault_free (fun r m hr hm => ?_) (fun c hc => ?_), a2.del0, a2.rel0, a2.sto0⟩
  · obtain ⟨i, hi, f1, _, hin⟩ := key ((rAt R r).site, m) ⟨(rok.at hr).site, hm⟩
    rw [f1.del r m hin]
    exact (runTo_at ok rok hT hi).got r hr rfl
  · obtain ⟨i, hi, f1, f2, hin⟩ := key c hc
    have F := runTo_at ok rok hT hi
    refine ⟨?_, by rw [f1.sto c hin]; exact F.room, ?_⟩
    · have := F.bad
      unfold badRel at this ⊢
      rw [f1.rel c hin]; exact this
    · have h1 := F.spill
      have e1 : recv B (runTo B R T B.cells.length) c = recv B (runTo B R T i) c := by
        rw [recv_sm, recv_sm]
        congr 1
        · congr 1
          by_cases z : 0 < c.2
          · have hm := hc.2
            rw [if_pos z, if_pos z]
            exact f2.sto (c.1, c.2 - 1) (take_before hi ⟨hc.1, by show c.2 - 1 < B.months; omega⟩ (.inl (by show c.2 - 1 < c.2; omega)))
          · rw [if_neg z, if_neg z]
        · refine sm_cong fun x hx => ?_
          have h3 := mem_letFrom.mp hx
          obtain ⟨e1, e2, e3⟩ := letTo_some.mp h3.2
          have h2 := ((ok.s h3.1.1).next _ e1).1
          exact f2.rel x (take_before hi h3.1 (by unfold cellBefore; omega))
      have e2 : taken R (runTo B R T B.cells.length) c R.length = taken R (runTo B R T (i + 1)) c R.length := by
        rw [taken_sm, taken_sm]
        refine sm_cong fun r _ => ?_
        by_cases z : (rAt R r).site = c.1
        · rw [if_pos z, if_pos z, f1.del r c.2 (by rw [z]; exact hin)]
        · rw [if_neg z, if_neg z]
      unfold spillOf
      rw [e1, e2, f1.rel c hin, f1.sto c hin]
      exact h1
end Hw
set_option Elab.async false
set_option linter.all false
set_option maxRecDepth 100000
set_option maxHeartbeats 4000000
/-! The operation's plan is right. -/
namespace Hw
open PySem PySem.Spec L2
theorem netF_sm {B : Basin} {F : Kind → Int} {q : Pl} : netF B F q = sm B.cells fun d => kNet B F q (.src d) + ((if d.2 + 1 < B.months then kNet B F q (.sto d) else 0) + (if B.letTo d ≠ none then kNet B F q (.rel d) else 0)) := by
  show sm (kinds B B.cells) (kNet B F q) = _
  unfold kinds
  rw [sm_flat, sm_map]
  refine sm_cong fun d _ => ?_
  unfold kindsOf
  rw [sm_cons, sm_app]
  congr 1
  congr 1
  · by_cases h : d.2 + 1 < B.months
    · rw [if_pos h, if_pos h, sm_cons, sm_nil, Int.add_zero]
    · rw [if_neg h, if_neg h, sm_nil]
  · by_cases h : B.letTo d ≠ none
    · rw [if_pos h, if_pos h, sm_cons, sm_nil, Int.add_zero]
    · rw [if_neg h, if_neg h, sm_nil]
/-- what flows into a cell and out of it -/
theorem net_cell {B : Basin} (ok : B.Ok) {F : Kind → Int} {c : Cell} (hc : B.In c) : netF B F (.cell c) =
    F (.src c) + ((if 0 < c.2 then F (.sto (c.1, c.2 - 1)) else 0) - (if c.2 + 1 < B.months then F (.sto c) else 0)) + (sm (B.letFrom c) (fun d => F (.rel d)) - (if B.letTo c ≠ none then F (.rel c) else 0)) := by
  have hin := mem_cells.mpr hc
  have nd := cells_nodup B
  rw [netF_sm, sm_add, sm_add]
  have e1 : sm B.cells (fun d => kNet B F (.cell c) (.src d)) = F (.src c) := by
    rw [← sm_one (f := fun d => F (.src d)) nd hin]
    refine sm_cong fun d _ => ?_
    unfold kNet Kind.head Kind.tail
    dsimp only
    rw [if_neg (c := Pl.src = Pl.cell c) (by simp)]
    by_cases e : d = c
    · rw [if_pos e, if_pos (by rw [e])]; omega
    · rw [if_neg e, if_neg (by simpa using e)]; omega
  have e2 : sm B.cells (fun d => if d.2 + 1 < B.months then kNet B F (.cell c) (.sto d) else 0) = (if 0 < c.2 then F (.sto (c.1, c.2 - 1)) else 0) - (if c.2 + 1 < B.months then F (.sto c) else 0) := by
    have h1 : sm B.cells (fun d => if d.2 + 1 < B.months then kNet B F (.cell c) (.sto d) else 0) = sm B.cells (fun d => if d = (c.1, c.2 - 1) then (if 0 < c.2 then F (.sto d) else 0) else 0) - sm B.cells (fun d => if d = c then (if d.2 + 1 < B.months then F (.sto d) else 0) else 0) := by
      rw [← sm_sub]
      refine sm_cong fun d hd => ?_
      have hd := mem_cells.mp hd
      unfold kNet Kind.head Kind.tail
      dsimp only
      have a1 : (Pl.cell (d.1, d.2 + 1) = Pl.cell c ∧ d.2 + 1 < B.months) ↔ (d = (c.1, c.2 - 1) ∧ 0 < c.2) := by
        obtain ⟨d1, d2⟩ := d
        obtain ⟨c1, c2⟩ := c
        have := hc.2
        simp only [Pl.cell.injEq, Prod.mk.injEq] at this ⊢
        constructor
        · rintro ⟨⟨h1, h2⟩, h3⟩; exact ⟨⟨h1, by omega⟩, by omega⟩
        · rintro ⟨⟨h1, h2⟩, h3⟩; exact ⟨⟨h1, by omega⟩, by omega⟩
      have a2 : Pl.cell d = Pl.cell c ↔ d = c := by simp
      by_cases z : d.2 + 1 < B.months
      · rw [if_pos z]
        congr 1
        · by_cases y : Pl.cell (d.1, d.2 + 1) = Pl.cell c
          · have y2 := a1.mp ⟨y, z⟩
            rw [if_pos y, if_pos y2.1, if_pos y2.2]
          · rw [if_neg y]
            by_cases x : d = (c.1, c.2 - 1)
            · rw [if_pos x]
              by_cases x2 : 0 < c.2
              · exact absurd (a1.mpr ⟨x, x2⟩).1 y
              · rw [if_neg x2]
            · rw [if_neg x]
        · by_cases y : d = c
          · rw [if_pos y, if_pos (a2.mpr y), if_pos z]
          · rw [if_neg y, if_neg (fun x => y (a2.mp x))]
      · rw [if_neg z]
        have b1 : (if d = (c.1, c.2 - 1) then (if 0 < c.2 then F (.sto d) else 0) else 0) = 0 := by
          by_cases x : d = (c.1, c.2 - 1)
          · rw [if_pos x]
            by_cases x2 : 0 < c.2
            · exact absurd (a1.mpr ⟨x, x2⟩).2 z
            · rw [if_neg x2]
          · rw [if_neg x]
        rw [b1]
        by_cases y : d = c
        · rw [if_pos y, if_neg z]; rfl
        · rw [if_neg y]; rfl
    rw [h1, sm_one nd hin]
    congr 1
    by_cases z : 0 < c.2
    · have hm := hc.2
      have hin2 : (c.1, c.2 - 1) ∈ B.cells := mem_cells.mpr ⟨hc.1, by show c.2 - 1 < B.months; omega⟩
      rw [sm_one nd hin2]
    · rw [if_neg z]
      exact sm_zero fun d _ => by rw [if_neg z]; split <;> rfl
  have e3 : sm B.cells (fun d => if B.letTo d ≠ none then kNet B F (.cell c) (.rel d) else 0) = sm (B.letFrom c) (fun d => F (.rel d)) - (if B.letTo c ≠ none then F (.rel c) else 0) := by
    rw [sm_from, ← sm_one (f := fun d => if B.letTo d ≠ none then F (.rel d) else 0) nd hin, ← sm_sub]
    refine sm_cong fun d _ => ?_
    by_cases h : B.letTo d = none
    · have h2 : (if B.letTo d ≠ none then F (.rel d) else 0) = 0 := if_neg fun z => z h
      rw [h2, if_neg (fun z => z h), if_neg (fun z => by rw [h] at z; cases z)]
      split <;> rfl
    · obtain ⟨e, he⟩ := Option.ne_none_iff_exists'.mp h
      have h1 : Kind.head B (.rel d) = .cell e := by
        show (match B.letTo d with
          | some h => Pl.cell h
          | none => Pl.src) = _
        rw [he]
      have h2 : (if B.letTo d ≠ none then F (.rel d) else 0) = F (.rel d) := if_pos h
      rw [h2, if_pos (c := B.letTo d ≠ none) h]
      unfold kNet
      rw [h1]
      show (if Pl.cell e = Pl.cell c then F (.rel d) else 0) - (if Pl.cell d = Pl.cell c then F (.rel d) else 0) = _
      congr 1
      · by_cases z : e = c
        · rw [if_pos (by rw [z]), if_pos (by rw [he, z])]
        · rw [if_neg (by simpa using z), if_neg (fun y => z (Option.some.inj (he.symm.trans y)))]
      · by_cases z : d = c
        · rw [if_pos (by rw [z]), if_pos z]
        · rw [if_neg (by simpa using z), if_neg z]
  rw [e1, e2, e3]; omega
/-- what the claims at a cell got -/
theorem due_cell {B : Basin} (ok : B.Ok) {R : List Right} {f : Claim → Int} {c : Cell} (hc : B.In c) : dueAt B R (claimsOf B R) ((claimsOf B R).map f) c =
    sm (List.range R.length) (fun r => if (rAt R r).site = c.1 then f (.right r c.2) else 0) + (if c.2 + 1 < B.months then 0 else f (.room c.1)) := by
  have e0 : dueAt B R (claimsOf B R) ((claimsOf B R).map f) c = sm (claimsOf B R) fun x => if claimCell B R x = c then f x else 0 := by
    unfold dueAt
    generalize claimsOf B R = l
    induction l with
    | nil => rfl
    | cons a l ih =>
      rw [List.map_cons, List.zip_cons_cons, List.map_cons, List.sum_cons, ih, sm_cons]
  rw [e0]
  unfold claimsOf
  rw [sm_app, sm_flat, sm_map, sm_map]
  congr 1
  · refine sm_cong fun r _ => ?_
    rw [sm_map]
    show sm (List.range B.months) (fun m => if ((rAt R r).site, m) = c then f (.right r m) else 0) = _
    by_cases z : (rAt R r).site = c.1
    · rw [if_pos z, ← sm_one (f := fun m => f (.right r m)) (List.nodup_range (n := B.months)) (List.mem_range.mpr hc.2)]
      refine sm_cong fun m _ => ?_
      by_cases y : m = c.2
      · rw [if_pos y, if_pos (Prod.ext z y)]
      · rw [if_neg y, if_neg (fun x => y (congrArg Prod.snd x))]
    · rw [if_neg z]
      exact sm_zero fun m _ => if_neg fun x => z (congrArg Prod.fst x)
  · show sm (List.range B.sites.length) (fun s => if (s, B.months - 1) = c then f (.room s) else 0) = _
    have hm := hc.2
    by_cases z : c.2 + 1 < B.months
    · rw [if_pos z]
      exact sm_zero fun s _ => if_neg fun x => by
        have := congrArg Prod.snd x
        simp only at this
        omega
    · rw [if_neg z, ← sm_one (f := fun s => f (.room s)) (List.nodup_range (n := B.sites.length)) (List.mem_range.mpr hc.1)]
      refine sm_cong fun s _ => ?_
      by_cases y : s = c.1
      · rw [if_pos y, if_pos (Prod.ext y (by show B.months - 1 = c.2; omega))]
      · rw [if_neg y, if_neg (fun x => y (congrArg Prod.fst x))]
theorem in_right {B : Basin} {R : List Right} {r m : Nat} (h1 : r < R.length) (h2 : m < B.months) : Claim.right r m ∈ claimsOf B R := by
  unfold claimsOf
  exact List.mem_append_left _ (List.mem_flatten.mpr ⟨_, List.mem_map.mpr ⟨r, List.mem_range.mpr h1, rfl⟩, List.mem_map.mpr ⟨m, List.mem_range.mpr h2, rfl⟩⟩)
theorem in_room {B : Basin} {R : List Right} {s : Nat} (h1 : s < B.sites.length) : Claim.room s ∈ claimsOf B R := by
  unfold claimsOf
  exact List.mem_append_right _ (List.mem_map.mpr ⟨s, List.mem_range.mpr h1, rfl⟩)
theorem get2_out {a b : Nat} {t : List (List Int)} (T : Tab a b t) {i j : Nat} (h : ¬ (i < a ∧ j < b)) : get2 t i j = 0 := by
  unfold get2
  by_cases hi : i < t.length
  · have hl := T.2 _ (List.getElem_mem hi)
    have h1 := T.1
    have e : t[i]?.getD [] = t[i] := by rw [List.getElem?_eq_getElem hi]; rfl
    rw [e, List.getElem?_eq_none (l := t[i]) (i := j) (by omega)]; rfl
  · rw [List.getElem?_eq_none (l := t) (i := i) (by omega)]; rfl
theorem kind_rel {B : Basin} {c : Cell} (hc : B.In c) (h : B.letTo c ≠ none) : Kind.rel c ∈ ksOf B := by
  refine mem_kinds.mpr ⟨mem_cells.mpr hc, ?_⟩
  unfold kindsOf Kind.cell
  rw [if_pos (c := B.letTo c ≠ none) h]; simp
theorem kind_sto {B : Basin} {c : Cell} (hc : B.In c) (h : c.2 + 1 < B.months) : Kind.sto c ∈ ksOf B := by
  refine mem_kinds.mpr ⟨mem_cells.mpr hc, ?_⟩
  unfold kindsOf Kind.cell
  rw [if_pos h]; simp
theorem kind_src {B : Basin} {c : Cell} (hc : B.In c) : Kind.src c ∈ ksOf B := by
  refine mem_kinds.mpr ⟨mem_cells.mpr hc, ?_⟩
  unfold kindsOf Kind.cell
  simp
theorem op_good {B : Basin} (ok : B.Ok) {R : List Right} (rok : RightsOk B R) {F : Kind → Int} {f : Claim → Int} {p : Plan} (hF : FlowOk B F) (hf : ∀ c ∈ claimsOf B R, 0 ≤ f c ∧ f c ≤ claimSize B R c)
    (hN : ∀ c, netF B F (.cell c) = dueAt B R (claimsOf B R) ((claimsOf B R).map f) c) (O : OpPlan B R F f p) : PlanGood B R p := by
  have eR : ∀ c, B.In c → get2 p.rel c.1 c.2 = if B.letTo c ≠ none then F (.rel c) else 0 := fun c hc => O.rel c.1 c.2 hc.1 hc.2
  have eS : ∀ c, B.In c → get2 p.sto c.1 c.2 = if c.2 + 1 < B.months then F (.sto c) else f (.room c.1) := fun c hc => O.sto c.1 c.2 hc.1 hc.2
  have r0 : ∀ c, B.In c → 0 ≤ get2 p.rel c.1 c.2 := fun c hc => by
    rw [eR c hc]
    by_cases z : B.letTo c ≠ none
    · rw [if_pos z]; exact (hF _ (kind_rel hc z)).1
    · rw [if_neg z]; exact Int.le_refl _
  have s0 : ∀ c, B.In c → 0 ≤ get2 p.sto c.1 c.2 ∧ get2 p.sto c.1 c.2 ≤ (B.at c.1).room := fun c hc => by
    rw [eS c hc]
    by_cases z : c.2 + 1 < B.months
    · rw [if_pos z]
      obtain ⟨h1, h2⟩ := hF _ (kind_sto hc z)
      exact ⟨h1, h2 _ rfl⟩
    · rw [if_neg z]; exact hf _ (in_room hc.1)
  refine ⟨O.sh, fault_free (fun r m hr hm => ?_) (fun c hc => ⟨?_, (s0 c hc).2, ?_⟩), fun i j => ?_, fun i j => ?_, fun i j => ?_⟩
  · rw [O.del r m hr hm]; exact (hf _ (in_right hr hm)).2
  · unfold badRel
    have hn : ((B.at c.1).next.isNone && decide (0 < get2 p.rel c.1 c.2)) = false := by
      cases h : (B.at c.1).next with
      | none =>
        have : B.letTo c = none := by unfold Basin.letTo; rw [h]
        rw [eR c hc, if_neg (by simp [this])]; rfl
      | some _ => rfl
    rw [hn, Bool.false_or]
    cases h : (B.at c.1).reach with
    | none => rfl
    | some x =>
      refine decide_eq_false ?_
      rw [eR c hc]
      by_cases z : B.letTo c ≠ none
      · rw [if_pos z]
        have := (hF _ (kind_rel hc z)).2 x h
        omega
      · rw [if_neg z]
        have := (ok.s hc.1).reach x h
        omega
  · have h1 := hN c
    rw [net_cell ok hc, due_cell ok hc] at h1
    have h2 := (hF _ (kind_src hc)).2 _ rfl
    unfold spillOf
    have e1 : sm (B.letFrom c) (fun o => get2 p.rel o.1 o.2) = sm (B.letFrom c) fun d => F (.rel d) := sm_cong fun d hd => by
      obtain ⟨h3, h4⟩ := mem_letFrom.mp hd
      rw [eR d h3, if_pos (by rw [h4]; simp)]
    have e2 : taken R p c R.length = sm (List.range R.length) fun r => if (rAt R r).site = c.1 then f (.right r c.2) else 0 := by
      rw [taken_sm]
      refine sm_cong fun r hr => ?_
      rw [O.del r c.2 (List.mem_range.mp hr) hc.2]
    have e3 : (if 0 < c.2 then get2 p.sto c.1 (c.2 - 1) else 0) = if 0 < c.2 then F (.sto (c.1, c.2 - 1)) else 0 := by
      by_cases z : 0 < c.2
      · have hm := hc.2
        rw [if_pos z, if_pos z, O.sto c.1 (c.2 - 1) hc.1 (by omega), if_pos (by omega)]
      · rw [if_neg z, if_neg z]
    rw [recv_sm, e1, e2, e3, eR c hc, eS c hc]
    by_cases z : c.2 + 1 < B.months
    · rw [if_pos z] at h1 ⊢
      rw [if_pos z] at h1
      omega
    · rw [if_neg z] at h1 ⊢
      rw [if_neg z] at h1
      omega
  · by_cases z : i < R.length ∧ j < B.months
    · rw [O.del i j z.1 z.2]; exact (hf _ (in_right z.1 z.2)).1
    · rw [get2_out O.sh.del z]; exact Int.le_refl _
  · by_cases z : i < B.sites.length ∧ j < B.months
    · exact r0 (i, j) z
    · rw [get2_out O.sh.rel z]; exact Int.le_refl _
  · by_cases z : i < B.sites.length ∧ j < B.months
    · exact (s0 (i, j) z).1
    · rw [get2_out O.sh.sto z]; exact Int.le_refl _
end Hw
set_option Elab.async false
set_option linter.all false
set_option maxRecDepth 100000
set_option maxHeartbeats 4000000
/-! Defs that are called where no repr is under way: what repr gives is known there. -/
namespace Hw
open PySem PySem.Spec PyProof.Rows L2
structure FnG (P : Program) (w : World) (K : PySem.W.Frag) (mg : Str → Option Value) (base : Heap) (k : Nat) (f : Addr) (fd : FuncData) (ps : List Str) (sp : Sp) : Prop where
  len : ∀ xs H Q E, sp xs H Q E → xs.length = ps.length
  run : ∀ (A : Around) (out : List Env) (z : Shared) (H : Hp) (as : Args) (us : List Value) (xs : List V) (Q : VK) (E : XK), Room k A → A.guards = some [] → Env0 P w K mg base A out z H → BindsTo z fd as (ps.zip us) → Vals xs us → sp xs H Q E →
    codeAny (model P w) A (.call (.ref f) as) (CR CX0 out P w H z Q E) z
section
variable {P : Program} {w : World} {K : PySem.W.Frag} {mg : Str → Option Value} {base : Heap} {x qual : Str} {params : Arguments} {body : List Stmt} {scope : Scope} {f C : Addr} {fd : FuncData} {N ps : List Str} {k : Nat} {sp : Sp}
theorem fnG_ok (F : FunD K x qual params body scope [] [] f fd) (S : FnScope N ps scope) (len : ∀ xs H Q E, sp xs H Q E → xs.length = ps.length)
    (hb : ∀ (cd : Value) (A : Around) (out : List Env) (z : Shared) (H : Hp) (xs : List V) (Q : VK) (E : XK), Room k (A.deeper (PyProof.Rows.envOfC qual scope z.heap.objs.size f cd)) → A.guards = some [] → sp xs H Q E →
      ∃ t, PSs (cxOf CX0 P w K mg base N qual scope f cd A out z H E) body t ∧ t { nx := fun _ H' => Q .non H', rt := Q } (L2.start N xs) H) : FnG P w K mg base (k + 1) f fd ps sp := by
  obtain ⟨oc, od, dV, kV, doc, pm, an, cd, ct, sl, rfl, lk, hcode, _, _⟩ := F.ex
  constructor
  · exact len
  intro A out z H as us xs Q E room hg env bind vals hs
  have hlen := len _ _ _ _ hs
  have there : ∀ b o, base.get? b = some o → z.heap.get? b = some o := fun b o e => (env.bs b o e).1
  have inK : K.In z.heap := env.mod.kin.keeps there
  have nolim : z.heap.NoLimit := env.mod.nolimit.keeps there
  have kinds : ∀ y ∈ ps.zip us, scope.names.lookup y.1 = some .local ∨ (scope.names.lookup y.1 = some .cell ∧ ((cellsFrom (z.heap.objs.size + 1) scope.names []).lookup y.1).isSome = true) := by
    rintro ⟨n, v⟩ hy
    cases S.par n (List.of_mem_zip hy).1 with
    | inl q => exact Or.inl q
    | inr q => exact Or.inr ⟨q, PySem.W.cellsFrom_some _ _ _ (Or.inl q)⟩
  apply codeAny_call_function room.depth (inK _ _ lk) rfl S.co S.gen rfl (PySem.W.codeRec_of inK hcode)
  apply bind
  refine wpAny_newFunctionEnv_cells S.kind kinds fun env' he z1 ic => ?_
  subst he
  constructor
  · exact nolim.keeps ic.toInCall.keep
  apply codeAny_func
  obtain ⟨t, ht, hq⟩ := hb cd A out z H xs Q E (room.deeper _) hg hs
  have I0 : Inv (cxOf CX0 P w K mg base N qual scope f cd A out z H E) [] (L2.start N xs) H z1 := inv_start S room.hd env hlen vals ic
  have last : ∀ {σ' : L2.St} {H' : Hp} {v : V} {u : Value} {z' : Shared}, Inv (cxOf CX0 P w K mg base N qual scope f cd A out z H E) [] σ' H' z' → RelV v u → Q v H' → CE out P w H z Q u z' :=
    fun {σ' H' v u z'} J r q => ⟨v, H', J.os, J.bare, J.base, J.hok, r, q⟩
  refine wpAny_mono (ht.run [] z1 (L2.start N xs) H _ I0 hq) ?_ fun _ _ h => h
  intro fl z' h
  match fl, h with
  | .ret u, ⟨v, σ', H', J, r, q⟩ => exact last J r q
  | .next, ⟨σ', H', J, q⟩ => exact last (v := .non) (u := .none) J rfl q
  | .brk, ⟨_, _, _, q⟩ => exact q.elim
  | .cont, ⟨_, _, _, q⟩ => exact q.elim
/-- the same by the calculus -/
theorem fngok {S : Spec} (F : FunD K x qual params body scope [] [] f fd) (Sc : FnScope N ps scope) (len : S.len ps.length)
    (hbody : ∀ (cdv : Value) (A : Around) (outer : List Env) (s : Shared) (H : Hp) (E : XK), Room k (A.deeper (PyProof.Rows.envOfC qual scope s.heap.objs.size f cdv)) → A.guards = some [] →
      ∃ t, PSs (cxOf CX0 P w K mg base N qual scope f cdv A outer s H E).nox body t ∧ ∀ ds μ P, S ds μ P → PW K t (startR N.length ds) μ (retO P)) : FnG P w K mg base (k + 1) f fd ps (lift K S) := by
  refine fnG_ok F Sc (fun vs H Q E h => ?_) (fun cdv A outer s H vs Q E hr hg h => ?_)
  · obtain ⟨G, H0, ds, μ, A, l, hS⟩ := h
    rw [l.len]; exact len _ _ _ hS
  · obtain ⟨t, ht, hp⟩ := hbody cdv A outer s H E hr hg
    refine ⟨t, ht.nox, ?_⟩
    obtain ⟨G, H0, ds, μ, At0, l, hS⟩ := h
    refine hp ds μ _ hS G H0 G H _ _ (At0.ofSl (Sl.start l)) ⟨?_, ?_, ?_, ?_⟩
    · rintro ρ1 μ1 σ1 G1 H1 ⟨μ2, sb, p⟩ A1
      exact p _ G1 H1 (A1.bare.drop sb) rfl
    · rintro d1 μ1 v1 G1 H1 ⟨μ2, sb, p⟩ A1 i1
      exact p _ G1 H1 (A1.drop sb) i1
    · intro _ _ _ _ _ h; exact h.elim
    · intro _ _ _ _ _ h; exact h.elim
end
structure CalG (P : Program) (w : World) (K : PySem.W.Frag) (mg : Str → Option Value) (base : Heap) (k : Nat) (x : Str) (S : Spec) : Prop where
  ex : ∃ (f : Addr) (fd : FuncData) (ps : List Str), FnG P w K mg base k f fd ps (lift K S) ∧ mg x = some (.ref f) ∧ PySem.W.keepIn K (.ref f) = true ∧ Binds K fd ps []
section
variable {X : Cx} {K : PySem.W.Frag} {P : Program} {w : World} {mg : Str → Option Value} {base : Heap} {k j : Nat} {f : Addr} {fd : FuncData} {ps : List Str} {sp : Sp} {x : Str} {S : Spec} {p pos : Pos} {e : Expr} {es : List Expr} {t : TA}
theorem run_fnG {pins : List (Addr × Obj)} {σ : L2.St} {H : Hp} {z : Shared} {Q : VK} {us : List Value} {xs : List V} (F : FnG X.prog X.w X.K X.mg X.base k f fd ps sp) (hr : Room k X.A) (hg : X.A.guards = some []) (hb : Binds X.K fd ps [])
    (I : Inv X pins σ H z) (r : Vals xs us) (h : sp xs H Q E0) : wpAny (model X.prog X.w) X.A (call (.ref f) us) (EP X pins σ Q) X.xe z := by
  have hl : us.length = ps.length := r.length.symm.trans (F.len _ _ _ _ h)
  have bt := hb z us I.kIn (by rw [List.append_nil]; exact hl)
  rw [List.append_nil] at bt
  refine wpAny_call (codeAny_mono (F.run X.A X.stack z H ⟨us, []⟩ us xs Q E0 hr hg I.env0 bt r h) ?_)
  intro q z' hq
  match q, hq with
  | .error er, hq => exact pass0 pins σ H z er z' I hq
  | .ok (.ret u), hq => exact I.after hq
theorem pe_calG (c : CalG X.prog X.w X.K X.mg X.base k x S) (hr : Room j X.A) (hk : k ≤ j) (hgu : X.A.guards = some []) (hg : Gl X x) (ha : PA X (e :: es) t)
    (hdb : (x == ("__debug__" : Str)) = false := by decide) (he : starEach (e :: es) X.env = (false, eval e X.env) :: starEach es X.env := by rfl) (hpl : (backTo pos (starEach es X.env)).any (·.1) = false := by rfl) :
    PE X (.Call (.Name x p) (e :: es) [] pos) (tCall (lift X.K S) [] E0 t) := by
  obtain ⟨f, fd, ps, F, hm, kp, b⟩ := c.ex
  constructor
  intro pins s σ H Q I h
  refine wpAny_Call_Name_kw (ld_glob I hg hm ?_ hdb)
  refine PySem.W.callWith_K (h₀ := X.base) I.ok.mod.kin kp (thn (ha.run pos pins s σ H _ I h) ?_) he hpl
  rintro us s1 ⟨vs, H1, I1, r, q⟩
  refine ⟨I1.kIn, run_fnG F (hr.mono hk) hgu b I1 r ?_⟩
  have q' : lift X.K S (vs ++ []) H1 Q E0 := q
  rw [List.append_nil] at q'
  exact q'
theorem k_calG (c : CalG P w K mg base k x S) (hr : Room j X.A) (hk : k ≤ j) (hgu : X.A.guards = some []) (hg : Gl X x) (ha : PA X (e :: es) t) (h1 : X.prog = P := by rfl) (h2 : X.w = w := by rfl) (h3 : X.K = K := by rfl) (h4 : X.mg = mg := by rfl) (h5 : X.base = base := by rfl)
    (hdb : (x == ("__debug__" : Str)) = false := by decide) (he : starEach (e :: es) X.env = (false, eval e X.env) :: starEach es X.env := by rfl) (hpl : (backTo pos (starEach es X.env)).any (·.1) = false := by rfl) :
    PE X (.Call (.Name x p) (e :: es) [] pos) (tCall (lift K S) [] E0 t) := by subst h1 h2 h3 h4 h5; exact pe_calG c hr hk hgu hg ha hdb he hpl
/-! repr -/
def rReprD (K : PySem.W.Frag) : List V → Hp → VK → Prop := fun xs H Q => ∃ a d, xs = [.ref a] ∧ Dp K H (.ref a) d ∧ d.showable = true ∧ d.hasDict = false ∧ d.depth ≤ 60 ∧ d.shown.length ≤ sizeLine ∧ Q (.str d.shown) H
theorem call_reprD (hg : X.A.guards = some []) (hu : X.A.units + 64 < cLine) : CallR X (.builtin "repr") (rReprD X.K) := by
  intro pins s σ H xs us Q I r h
  obtain ⟨a, d, rfl, hd, h1, h2, h3, h4, q⟩ := h
  obtain ⟨u, rfl, ru⟩ := vals1 r
  cases ru
  obtain ⟨as, rd⟩ := Dp.reads I d (.ref a) (.ref a) hd rfl
  refine repr_of_reads' rd h1 (PyData.noDict_hsm h2) hg (by omega) (fun b o e => e) (fun h' u tk hk => ?_) h4
  exact ⟨.str d.shown, H, I.kept hk, ⟨u, rfl⟩, q⟩
theorem k_reprD (hg : X.A.guards = some []) (hu : X.A.units + 64 < cLine) (h : X.K = K := by rfl) : CallR X (.builtin "repr") (rReprD K) := by subst h; exact call_reprD hg hu
end
section
variable {K : PySem.W.Frag} {ρ : List (Option D)} {μ : Mu} {P : D → Mu → Prop} {ds : List D}
theorem rb_reprD (ok : okD (.tup ds) = true) (h1 : (toPy (.tup ds)).showable = true) (h2 : (toPy (.tup ds)).hasDict = false) (h3 : (toPy (.tup ds)).depth ≤ 60) (h4 : (toPy (.tup ds)).shown.length ≤ sizeLine) (p : P (.str (toPy (.tup ds)).shown) μ) : RB K (rReprD K) [.tup ds] μ P := fun G0 H0 G H ρ σ vs A l Q q => by
  obtain ⟨v, r, rfl, i, e⟩ := l
  cases e
  have hd := Is.dp A.gh ok i
  obtain ⟨a, xs, rfl, _, _⟩ := i
  exact ⟨a, _, rfl, hd, h1, h2, h3, h4, q _ _ μ G H p (Ex.refl _) A rfl⟩
end
/-- the end: the law's def is called where no repr is under way -/
theorem law_callG {P : Program} {w : World} {K : PySem.W.Frag} {mg mb : Str → Option Value} {k : Nat} {fa a : Addr} {fd : FuncData} {x : Str} {sp : Sp} {z : Shared} {vals : List Value} {ns : List Int}
    (inK : K.In z.heap) (hns : z.heap.Ns mainGlobals mg) (hbn : z.heap.Ns builtinsNs mb) (hbb : ∀ y : Str, y ≠ "__name__" → mb y = bootBuiltins y) (hlim : z.heap.NoLimit) (hgen : z.gens = #[])
    (hscript : z.heap.get? a = some { cls := .type "list", data := .seq vals.toArray }) (hints : IntsAre vals ns) (hlen : ns.length ≤ sizeLine) (room : Room k callerA)
    (F : ∀ b0 : Heap, K.In b0 → b0.Ns mainGlobals mg → FnG P w K mg b0 k fa fd [x] sp) (hbind : ∀ (s : Shared) (u : Value), BindsTo s fd ⟨[u], []⟩ [(x, u)])
    (hsp : ∀ H : Hp, Only H → SqL K H a (ns.map V.int) → sp [.ref a] H (fun v _ => v = .bl true) fun _ _ _ => False) :
    codeAny (model P w) callerA (.call (.ref fa) ⟨[.ref a], []⟩) (fun r s' => r = .ok (.ret (.bool true)) ∧ OldK z.heap s'.heap ∧ s'.os = z.os ∧ AllBare s'.gens) z := by
  have rel := vals_ints hints
  have hlv := hints.length
  suffices core : ∀ H : Hp, Only H → SqL K H a (ns.map V.int) → HOk P w H z.heap → (∀ b, H b ≠ none → b = a) → (H a ≠ none → K.lookup a = none) →
      codeAny (model P w) callerA (.call (.ref fa) ⟨[.ref a], []⟩) (fun r s' => r = .ok (.ret (.bool true)) ∧ OldK z.heap s'.heap ∧ s'.os = z.os ∧ AllBare s'.gens) z by
    cases hk : K.lookup a with
    | some o =>
      have e := inK a o hk
      rw [hscript] at e
      cases e
      refine core (fun _ => none) (fun _ => Or.inl rfl) (Or.inr ⟨_, vals.toArray, _, hk, rfl, rfl, rfl, ?_, by simpa using rel⟩) (fun b u y => by cases (show (none : Option HO) = some u from y)) (fun b y => absurd rfl y) (fun y => absurd rfl y)
      rw [List.size_toArray, hlv]; exact hlen
    | none =>
      let T : Hp := fun b => if b = a then some (.frz { cls := .type "list", data := .seq vals.toArray } (.lst (ns.map V.int))) else none
      have Ta : T a = some (.frz { cls := .type "list", data := .seq vals.toArray } (.lst (ns.map V.int))) := if_pos rfl
      have Tn : ∀ b, b ≠ a → T b = none := fun b h => if_neg h
      refine core T (fun b => ?_) (Or.inl (Or.inr ⟨_, Ta⟩)) (fun b u y => ?_) (fun b y => ?_) fun _ => hk
      · by_cases h : b = a
        · subst h; exact Or.inr ⟨_, _, Ta⟩
        · exact Or.inl (Tn b h)
      · by_cases h : b = a
        · subst h
          rw [Ta] at y
          cases y
          exact ⟨hscript, by rw [List.length_map]; exact hlen, vals, _, rel, hscript⟩
        · rw [Tn b h] at y; cases y
      · exact Decidable.byContradiction fun h => y (Tn b h)
  intro H hO hS hok hA hK
  have untr : ∀ {b : Addr}, b ≠ a → H b = none := fun {b} h => by
    cases q : H b with
    | none => rfl
    | some u => exact absurd (hA b (by rw [q]; simp)) h
  have dictOff : ∀ {b : Addr} {o : Obj} {es : Array DictEntry} {ep : Nat}, z.heap.get? b = some o → o.data = .dict es ep → H b = none := fun {b o es ep} e d => by
    by_cases h : b = a
    · subst h
      rw [hscript] at e; cases e
      cases (show Data.seq vals.toArray _ = Data.dict es ep from d)
    · exact untr h
  have ns_b : ∀ {b : Addr} {m : Str → Option Value}, z.heap.Ns b m → (hidT z.heap H).Ns b m := fun {b m} ⟨o, es, ep, e, d, r⟩ => ⟨o, es, ep, hidT_get e (dictOff e d), d, r⟩
  have K_b : K.In (hidT z.heap H) := fun b o e => hidT_get (inK b o e) (by
    by_cases h : b = a
    · subst h
      cases q : H b with
      | none => rfl
      | some u => rw [hK (by rw [q]; simp)] at e; cases e
    · exact untr h)
  obtain ⟨ml, hl1, hl2⟩ := hlim
  have M : Mod K mg (hidT z.heap H) := ⟨K_b, ns_b hns, ⟨mb, ns_b hbn, hbb⟩, ⟨ml, ns_b hl1, hl2⟩⟩
  have env : Env0 P w K mg (hidT z.heap H) callerA [] z H := ⟨rfl, M, fun b o e => of_hidT e, Nat.le_of_eq (hidT_size _ _), trivial, fun b hb => (by cases (show b ∈ ([] : List Addr) from hb)), hok, .of_eq hgen⟩
  have main := (F _ K_b (ns_b hns)).run callerA [] z H ⟨[.ref a], []⟩ [.ref a] [.ref a] _ _ room rfl env (hbind z (.ref a)) (.cons rfl .nil) (hsp H hO hS)
  refine codeAny_mono main ?_
  intro r s' h
  match r, h with
  | .ok (.ret u), ⟨v, H', os, bare, un, hok', rv, q⟩ =>
    have qv : v = .bl true := q
    subst qv
    obtain rfl : u = Value.bool true := rv
    refine ⟨rfl, OldK.of_keep fun b o e => ?_, os, bare⟩
    cases hb : H b with
    | none => exact un.keep b o e hb (fun y => by cases (show b ∈ ([] : List Addr) from y)) (by simp)
    | some u2 =>
      rcases hO b with y | ⟨ob, xs, y⟩
      · rw [hb] at y; cases y
      · obtain ⟨e1, _⟩ := hok b _ y
        obtain ⟨e2, _⟩ := hok' b _ (un.frzs b ob _ y)
        rw [e] at e1; cases e1
        exact e2
/-- what is to be shown at a head: its fixed part K, the law's function with its one argument, and what a call of it promises -/
inductive EndG (P : Program) (n k : Nat) (x : Str) (w : World) (mg : Str → Option Value) (fa : Addr) (h : Heap) : Prop
  | of {K : PySem.W.Frag} {fd : FuncData} {sp : Sp} (fixed : K.In h) (one : ∀ (s : Shared) (u : Value), BindsTo s fd ⟨[u], []⟩ [(x, u)])
      (runs : ∀ b0 : Heap, K.In b0 → b0.Ns mainGlobals mg → FnG P w K mg b0 k fa fd [x] sp)
      (tells : ∀ (ns : List Int) (H : Hp) (a : Addr), Only H → ns.length ≤ n → SqL K H a (ns.map V.int) → sp [.ref a] H (fun v _ => v = .bl true) fun _ _ _ => False)
/-- the law's walk -/
theorem walk_G {l : PySem.W.OpenLaw} {n k : Nat} {x : Str} {q : Program} {loose : List Str} {d : DefRec} {YP : World → Heap → Prop} {XP : (Str → Option Value) → Heap → Prop}
    (most : l.most = some n) (few : n ≤ sizeLine) (plain : d.params.defaults = []) (room : Room k callerA)
    (F : ∀ w mg fa h, YP w h → h.Ns mainGlobals mg → mg d.name = some (.ref fa) → EndG l.prog n k x w mg fa h) :
    PySem.W.WalkO q loose XP YP l.row.toRowW d [] (fun f vs => PySem.call f vs) := by
  refine Att.attach_call most plain ?_
  rintro w s₀ s₁ mg mb fa o pm cd doc a vs ns G Y _ _ _ named script whole short gens
  obtain ⟨fixed, one, runs, tells⟩ := F w mg fa s₁.heap Y G.T.g named
  have enough : ns.length ≤ sizeLine := Nat.le_trans short few
  exact law_callG fixed G.T.g G.T.b G.T.builtins G.T.nolimit gens script whole enough room runs one fun H only here => tells ns H a only short here
end Hw
set_option Elab.async false
set_option linter.all false
set_option maxRecDepth 100000
set_option maxHeartbeats 4000000
/-! What is told and what is due, compared as texts. -/
namespace Hw
open PySem PySem.Spec L2
structure Shows (ds : List D) : Prop where
  ok : okD (.tup ds) = true
  show_ : (toPy (.tup ds)).showable = true
  nod : (toPy (.tup ds)).hasDict = false
  dep : (toPy (.tup ds)).depth ≤ 60
  len : (toPy (.tup ds)).shown.length ≤ sizeLine
section
variable {P : Program} {w : World} {K : PySem.W.Frag} {mg : Str → Option Value} {base : Heap}
theorem sc_law_same : FnScope ["_law_actual", "_law_due_here"] ["_law_actual", "_law_due_here"] (defScope s_law_same) := ⟨rfl, rfl, rfl, by decide +kernel, rfl, by decide +kernel, by decide +kernel⟩
-- _law_same: 0 _law_actual, 1 _law_due_here
def S_law_same : Spec := fun ds μ Q => ∃ (es : List D), ds = [.tup es, .tup es] ∧ Shows es ∧ Q (.bl true) μ
theorem len_law_same : S_law_same.len 2 := fun ds μ Q h => by obtain ⟨_, rfl, _⟩ := h; rfl
theorem mono_law_same : Mono S_law_same := fun ds μ P P' f h => by obtain ⟨B, e, h1, q⟩ := h; exact ⟨B, e, h1, f _ _ q⟩
theorem c_law_same (Fx : Fx K mg) : CalG P w K mg base 1 "_law_same" S_law_same := by
  have hlen : Spec.len S_law_same 2 := len_law_same
  obtain ⟨fd, F⟩ := Fx.c.def_ 44 (d := d_law_same) rfl
  refine ⟨_, fd, ["_law_actual", "_law_due_here"], fngok F sc_law_same hlen (fun cdv A outer s H E hr hg => ?_), Fx.glo 26, F.kp, FunD.bindsN F fun _ _ _ _ _ _ us hl => match us, hl with | [_, _], _ => rfl⟩
  have hu := hu_of hr
  have nd := sc_law_same.nd
  refine ⟨_, (pss_one (ps_ret (pe_cmpR op_eq (pe_callB (k_reprD (K := K) hg hr.units) (by rfl) (Fx.free 107) (by decide +kernel) (pa_cons (pv 0) pa_nil)) (pe_callB (k_reprD (K := K) hg hr.units) (by rfl) (Fx.free 107) (by decide +kernel) (pa_cons (pv 1) pa_nil)) (nomark _)))), fun ds μ Pq hS => ?_⟩
  obtain ⟨es, rfl, h, q⟩ := hS
  have e1 : ∀ {i : Nat} {ρ : List (Option D)}, ρ[i]? = some (some (.tup es)) → Ev K (tCB (rReprD K) (tCons (tVar i) tNil)) ρ μ (.str (toPy (.tup es)).shown) := fun hi => ev_cb (ea_cons (ev_var hi) ea_nil) (rb_reprD h.ok h.show_ h.nod h.dep h.len ⟨rfl, rfl⟩)
  have e2 := ev_eqS (K := K) (e1 (i := 0) (ρ := startR 2 [.tup es, .tup es]) rfl) (e1 (i := 1) rfl)
  rw [decide_eq_true rfl] at e2
  exact s_retS e2 (Mu.sub.refl _) q
end
end Hw
set_option Elab.async false
set_option linter.all false
set_option maxRecDepth 100000
set_option maxHeartbeats 0
/-! What the top leaves of BadPlan. -/
namespace Hw
open PySem PySem.Spec PyProof.Rows L2
abbrev s_BadPlan_init : Stmt := inClass (top 19) 0
def bpC (K : PySem.W.Frag) : Addr := He.ga K "BadPlan"
def bpI (K : PySem.W.Frag) : Addr := He.ma K (bpC K) "__init__"
abbrev FnB : Type := Option (Str × Str × Arguments × FuncBody × Scope × Addr × List Str × Value × Addr)
def bpF (K : PySem.W.Frag) : FnB := match K.lookup (bpI K) with
  | some ⟨_, _, .func fd, _⟩ => some (fd.name, fd.qualname, fd.params, fd.body, fd.scope, fd.globals, fd.closure.map (·.1), fd.defaults, fd.builtins)
  | _ => none
def bpV : FnB := some ("__init__", "BadPlan.__init__", defArgs s_BadPlan_init, .stmts (defBody s_BadPlan_init), defScope s_BadPlan_init, mainGlobals, ["__class__"], .none, builtinsNs)
def bpClsB (K : PySem.W.Frag) : Bool := match K.lookup (bpC K) with
  | some ⟨.type t, _, .cls cd, ⟨[_, _, _, _, some (.builtin n), _]⟩⟩ => decide (t = "type") && (decide (n = "ValueError.__new__") && (cd.hasDict && (!cd.hasDel && (match cd.mro with
    | .ref c :: bm => decide (c = bpC K) && PySem.HandSPX.refsVE bm
    | _ => false))))
  | _ => false
def cellB (K : PySem.W.Frag) (cc : Addr) : Bool := match K.lookup cc with
  | some ⟨_, _, .cell (some (.ref D)), _⟩ => decide (D = bpC K)
  | _ => false
def fileB (K : PySem.W.Frag) (c : Value) : Bool := match c with
  | .ref a => (match K.lookup a with
    | some ⟨_, _, .fields vs, _⟩ => (match (vs[2]? : Option Value) with
      | some (.str z _) => decide (z = "/claim/cut.py")
      | _ => false)
    | _ => false)
  | _ => false
def bpCodeB (K : PySem.W.Frag) : Bool := match K.lookup (bpI K) with
  | some ⟨_, _, .func fd, _⟩ => PySem.W.codeIn K fd.code "BadPlan.__init__" && (fileB K fd.code && (match fd.closure with
    | [(_, cc)] => cellB K cc
    | _ => false))
  | _ => false
def bpB1 (K : PySem.W.Frag) : Bool := He.eqO (PySem.W.nsIn K mainGlobals "BadPlan") (some (some (.ref (bpC K)))) && (He.eqO (PySem.W.findIn K (.ref (bpC K)) "__setattr__") (some (some (.builtin "object.__setattr__"))) && (decide (PySem.W.subIn K (.ref (bpC K)) (.type "BaseException") = some true) && (decide (PySem.W.typeIn K (.ref (bpC K)) = some (.type "type")) && PySem.W.keepIn K (.ref (bpC K)))))
def bpB2 (K : PySem.W.Frag) : Bool := He.eqO (PySem.W.findIn K (.ref (bpC K)) "__init__") (some (some (.ref (bpI K)))) && (decide (PySem.W.typeIn K (.ref (bpI K)) = some (.type "function")) && (He.eqO (PySem.W.findIn K (.ref (bpC K)) "reason") (some none) && (decide (PySem.W.mroIn K (bpC K) (.ref (bpC K)) = some true) && He.eqO (PySem.W.nsIn K cStatics "thirdparty.any") (some none))))
def bpB3 (K : PySem.W.Frag) : Bool := He.eqO (PySem.W.ks_superIn K (bpC K) (bpC K) "__init__") (some (some (.builtin "ValueError.__init__"))) && (decide (PySem.W.subIn K (.ref (bpC K)) (.type "ValueError") = some true) && (decide (PySem.W.exmOne K (.ref (bpC K)) (.ref (bpC K)) = some true) && xfB K (bpC K)))
def bpB (K : PySem.W.Frag) : Bool := bpClsB K && (bpCodeB K && (bpB1 K && (bpB2 K && bpB3 K)))
abbrev R : PySem.W.OpenRow := PySem.W.OpenLaw.row PySem.Challenge.rw_heldwater_k47_parcels_followed
abbrev AlB : Type := He.AlD × Bool × FnB
def obK (K : PySem.W.Frag) : AlB := (He.obsD fa fn K, bpB K, bpF K)
def obG (g : Addr → Option Obj) : AlB := obK (He.frG g (He.asD g 4 ++ [cStatics]))
structure Says (K : PySem.W.Frag) : Prop where
  d : He.SaysD fa fn K
  b : bpB K = true
  f : bpF K = bpV
theorem says_of {K : PySem.W.Frag} (e : obK K = (He.valD fn, true, bpV)) : Says K := ⟨congrArg (fun z : AlB => z.1) e, congrArg (fun z : AlB => z.2.1) e, congrArg (fun z : AlB => z.2.2) e⟩
def hk : PySem.W.Hook where
  α := AlB
  obs := fun s => obG s.heap.get?
  val := fun _ => (He.valD fn, true, bpV)
  says := fun _ h => ∃ K : PySem.W.Frag, K.In h ∧ Says K
  of := fun _ _ e => ⟨_, He.frG_in, says_of e⟩
  keeps := fun _ _ _ ⟨K, hK, c⟩ k => ⟨K, PySem.W.Frag.In.keeps hK k, c⟩
def ob (s : PySem.W.SharedT) : AlB := obG (HandSHeadRun.getT s)
theorem ob_eq (s : PySem.W.SharedT) : ob s = hk.obs s.abs := by
  have e : HandSHeadRun.getT s = s.abs.heap.get? := funext (HandSHeadRun.getT_eq s)
  unfold ob
  rw [e] <;> rfl
theorem run (w : World) : HandSHeadRun.RunEq R (PySem.W.view R.prog [63]) hk ob 4000 loose w := by
  intro os
  kernel_rfl
end Hw
set_option Elab.async false
set_option linter.all false
set_option maxRecDepth 100000
set_option maxHeartbeats 4000000
/-! BadPlan.__init__, run on the heap. -/
namespace Hw
open PySem PySem.Spec PyProof.Rows PySem.Calls L2
section
variable {K : PySem.W.Frag}
theorem Says.parts (S : Says K) : bpClsB K = true ∧ bpCodeB K = true ∧ bpB1 K = true ∧ bpB2 K = true ∧ bpB3 K = true := by
  obtain ⟨h1, h⟩ := He.ba S.b
  obtain ⟨h2, h⟩ := He.ba h
  obtain ⟨h3, h⟩ := He.ba h
  obtain ⟨h4, h5⟩ := He.ba h
  exact ⟨h1, h2, h3, h4, h5⟩
theorem bp_cls (h : bpClsB K = true) : ∃ nm q N bs bm sn sub ab col dd k0 k1 k2 k3 k5, K.lookup (bpC K) = some (excClassObj nm q (bpC K) N bs bm true sn sub ab col dd k0 k1 k2 k3 k5 "ValueError.__new__") ∧ PySem.HandSPX.refsVE bm = true := by
  unfold bpClsB at h
  split at h
  · next t od cd k0 k1 k2 k3 n k5 e =>
    obtain ⟨h1, h⟩ := He.ba h
    obtain ⟨h2, h⟩ := He.ba h
    obtain ⟨h3, h4⟩ := He.ba h
    have e1 := of_decide_eq_true h1
    have e2 := of_decide_eq_true h2
    obtain ⟨nm, bs, mro, ns, qn, hd, sn, sb, ab, col, del⟩ := cd
    dsimp only at h3 h4
    cases mro with
    | nil => simp at h4
    | cons c bm =>
      cases c with
      | ref c =>
        obtain ⟨h7, h4⟩ := He.ba h4
        obtain ⟨h5, h6⟩ := He.ba h4
        have e5 := of_decide_eq_true h5
        subst e1 e2 e5 h3
        have e6 : del = false := by simpa using h7
        subst e6
        exact ⟨nm, qn, ns, bs, bm, sn, sb, ab, col, od, k0, k1, k2, k3, k5, e, h6⟩
      | _ => simp at h4
  · cases h
/-- the def as it stands -/
structure BpFn (K : PySem.W.Frag) (fd : FuncData) (cda cc : Addr) : Prop where
  is_ : ∃ kV doc pm an ct, fd = PySem.W.ksFn "__init__" "BadPlan.__init__" (defArgs s_BadPlan_init) (defBody s_BadPlan_init) (defScope s_BadPlan_init) .none kV doc pm an (.ref cda) ct cc
  lk : ∃ oc od osl, K.lookup (bpI K) = some ⟨oc, od, .func fd, osl⟩
  code : PySem.W.codeIn K (.ref cda) "BadPlan.__init__" = true
  file : ∃ oc od vs osl tf, K.lookup cda = some ⟨oc, od, .fields vs, osl⟩ ∧ vs[2]? = some (.str "/claim/cut.py" tf)
  cell : ∃ oc od osl, K.lookup cc = some ⟨oc, od, .cell (some (.ref (bpC K))), osl⟩
theorem bp_fn (h : bpCodeB K = true) (hf : bpF K = bpV) : ∃ fd cda cc, BpFn K fd cda cc := by
  unfold bpCodeB at h
  unfold bpF at hf
  cases q : K.lookup (bpI K) with
  | none => rw [q] at h; cases h
  | some o =>
    obtain ⟨oc, od, dt, osl⟩ := o
    rw [q] at h hf
    cases dt with
    | func fd =>
      dsimp only at h hf
      obtain ⟨h1, h⟩ := He.ba h
      obtain ⟨h2, h3⟩ := He.ba h
      obtain ⟨n1, n2, n3, n4, n5, n6, n7, n8, n9, n10, n11, n12, n13, n14, n15⟩ := fd
      dsimp only at h1 h2 h3 hf
      simp only [bpV, Option.some.injEq, Prod.mk.injEq] at hf
      obtain ⟨e1, e2, e3, e4, e5, e6, e7, e8, e9⟩ := hf
      subst e1 e2 e3 e4 e5 e6 e8 e9
      cases n7 with
      | nil => cases e7
      | cons p r =>
        obtain ⟨nm, cc⟩ := p
        cases r with
        | cons _ _ => cases e7
        | nil =>
          have e7' : nm = Str.ofString "__class__" := by simpa using e7
          subst e7'
          dsimp only at h3
          cases n13 with
          | ref cda =>
            unfold fileB at h2
            dsimp only at h2
            cases q2 : K.lookup cda with
            | none => rw [q2] at h2; cases h2
            | some o2 =>
              obtain ⟨oc2, od2, dt2, osl2⟩ := o2
              rw [q2] at h2
              cases dt2 with
              | fields vs =>
                dsimp only at h2
                cases q3 : (vs[2]? : Option Value) with
                | none => rw [q3] at h2; cases h2
                | some v =>
                  rw [q3] at h2
                  cases v with
                  | str z tf =>
                    have ez : z = "/claim/cut.py" := of_decide_eq_true h2
                    subst ez
                    unfold cellB at h3
                    cases q4 : K.lookup cc with
                    | none => rw [q4] at h3; cases h3
                    | some o3 =>
                      obtain ⟨oc3, od3, dt3, osl3⟩ := o3
                      rw [q4] at h3
                      cases dt3 with
                      | cell v =>
                        cases v with
                        | none => cases h3
                        | some v =>
                          cases v with
                          | ref D =>
                            have eD : D = bpC K := of_decide_eq_true h3
                            subst eD
                            exact ⟨_, cda, cc, ⟨n9, n10, n11, n12, n14, rfl⟩, ⟨_, _, _, q⟩, h1, ⟨_, _, vs, _, tf, q2, q3⟩, ⟨_, _, _, q4⟩⟩
                          | _ => cases h3
                      | _ => cases h3
                  | _ => cases h2
              | _ => cases h2
          | _ => cases h2
    | _ => cases h
theorem bp_oex (S : Says K) : OexC K (bpC K) := by
  obtain ⟨h1, _, h3, _, _⟩ := S.parts
  obtain ⟨_, h⟩ := He.ba h3
  obtain ⟨a2, h⟩ := He.ba h
  obtain ⟨a3, h⟩ := He.ba h
  obtain ⟨a4, a5⟩ := He.ba h
  exact ⟨bp_cls h1, He.eqO_ok a2, of_decide_eq_true a3, of_decide_eq_true a4, a5⟩
structure BpMore (K : PySem.W.Frag) : Prop where
  ini : PySem.W.findIn K (.ref (bpC K)) "__init__" = some (some (.ref (bpI K)))
  tI : PySem.W.typeIn K (.ref (bpI K)) = some (.type "function")
  rs : PySem.W.findIn K (.ref (bpC K)) "reason" = some none
  mro : PySem.W.mroIn K (bpC K) (.ref (bpC K)) = some true
  op : PySem.W.nsIn K cStatics "thirdparty.any" = some none
  sup : PySem.W.ks_superIn K (bpC K) (bpC K) "__init__" = some (some (.builtin "ValueError.__init__"))
  sub : PySem.W.subIn K (.ref (bpC K)) (.type "ValueError") = some true
  exm : PySem.W.exmOne K (.ref (bpC K)) (.ref (bpC K)) = some true
  xf : XfC K (bpC K)
theorem bp_more (S : Says K) : BpMore K := by
  obtain ⟨_, _, _, h4, h5⟩ := S.parts
  obtain ⟨a1, h⟩ := He.ba h4
  obtain ⟨a2, h⟩ := He.ba h
  obtain ⟨a3, h⟩ := He.ba h
  obtain ⟨a4, a5⟩ := He.ba h
  obtain ⟨b1, h⟩ := He.ba h5
  obtain ⟨b2, h⟩ := He.ba h
  obtain ⟨b3, b4⟩ := He.ba h
  exact ⟨He.eqO_ok a1, of_decide_eq_true a2, He.eqO_ok a3, of_decide_eq_true a4, He.eqO_ok a5, He.eqO_ok b1, of_decide_eq_true b2, of_decide_eq_true b3, xfB_ok b4⟩
end
theorem bp_body : ∃ p1 p2 p3 p4 p5 p6 p7 p8 p9 q1 q2 q3 q4 : Pos, defBody s_BadPlan_init =
    [.Expr (.Call (.Attribute (.Call (.Name "super" p1) [] [] p2) "__init__" p3) [.JoinedStr [.Constant (.str "bad plan: ") 0 p4, .FormattedValue (.Name "reason" p5) (-1) none p6] p7] [] p8) p9,
      .Assign [.Attribute (.Name "self" q1) "reason" q2] (.Name "reason" q3) q4] ∧ (p3.endLine == p8.line) = true := ⟨_, _, _, _, _, _, _, _, _, _, _, _, _, rfl, rfl⟩
section
variable {K : PySem.W.Frag} {prog : Program} {w : World} {A : Around} {R : Result → Shared → Prop} {hp : Heap} {g : Array GenState} {d : Drawn} {t : Nat} {os : OsState} {mg mb : Str → Option Value} {e t0 : Addr} {z : Str} {tz : Tok} {fd : FuncData} {cda cc : Addr} {args : Args}
/-- BadPlan.__init__(e, z): z under reason in e's own dict -/
theorem bp_init (S : Says K) (F : BpFn K fd cda cc) (hbind : BindsTo ⟨hp, g, d, t, os⟩ fd args [("self", .ref e), ("reason", .str z tz)]) (X : K.In hp) (nolim : hp.NoLimit) (G : hp.Ns mainGlobals mg) (hs : mg "super" = none) (Bn : hp.Ns builtinsNs mb) (hb : mb "super" = some (.type "super")) (hfile : ((prog.main.file : Str) == "/claim/cut.py") = true) (htop : (prog.main.scope.names.lookup ("super" : Str)).isSome = false)
    (he : hp.get? e = some (PySem.HandSPX.excO (bpC K) t0)) (room : A.depth < recursionLimit) (hz : z.length ≤ 1000) (hK : K.lookup e = none)
    (hq : ∀ h' tk' dx t1, (∀ b o, b ≠ e → hp.get? b = some o → h'.get? b = some o) → hp.objs.size ≤ dx → dx ≠ e → h'.get? e = some { cls := .ref (bpC K), dict := some dx, data := .fields #[.ref t1, .none, .none, .none, .bool false, .none] } →
      h'.Ns1 dx (fun y => if y = "reason" then some (.str z tz) else none) → R (.ok (.ret .none)) ⟨h', g, d, tk', os⟩) :
    codeAny (model prog w) A (.call (.ref (bpI K)) args) R ⟨hp, g, d, t, os⟩ := by
  have M := bp_more S
  obtain ⟨nm, q, N, bs, bm, sn, sub, ab, col, dd, k0, k1, k2, k3, k5, hC, hbm⟩ := bp_cls S.parts.1
  obtain ⟨kV, doc, pm, an, ct, rfl⟩ := F.is_
  obtain ⟨oc, od, osl, lk⟩ := F.lk
  obtain ⟨p1, p2, p3, p4, p5, p6, p7, p8, p9, q1, q2, q3, q4, hbody, hline⟩ := bp_body
  have cl : PySem.W.clsIn K (bpC K) = some { name := nm, bases := bs, mro := .ref (bpC K) :: bm, ns := N, qualname := q, hasDict := true, slotNames := sn, subclasses := sub, abstract := ab, collection := col, hasDel := false } := by
    unfold PySem.W.clsIn
    rw [hC] <;> rfl
  have elt : e < hp.objs.size := Heap.lt_size he
  refine PySem.ks_codeAny_call_defAt (fd := PySem.W.ksFn "__init__" "BadPlan.__init__" (defArgs s_BadPlan_init) (defBody s_BadPlan_init) (defScope s_BadPlan_init) .none kV doc pm an (.ref cda) ct cc) (binds := [("self", .ref e), ("reason", .str z tz)]) room (X _ _ lk) rfl nolim (PySem.W.codeRec_of X F.code) (congrArg FuncBody.stmts hbody) hbind (show ∀ x ∈ (defScope s_BadPlan_init).names, x.2 ≠ .cell by decide +kernel) (locs rfl) (fun h1 ns1 k1 => ?_)
  have X1 : K.In h1 := X.keeps k1
  have he1 := k1 _ _ he
  generalize hL : hp.objs.size = L at ns1
  change _root_.PySem.wpAt (model prog w) _ (.func _ (PySem.W.ksEnv "BadPlan.__init__" (defScope s_BadPlan_init) L (bpI K) (.ref cda) cc)) (execs _ (PySem.W.ksEnv "BadPlan.__init__" (defScope s_BadPlan_init) L (bpI K) (.ref cda) cc)) _ (fun er s' => wpAny _ _ (leaving (PySem.W.ksEnv "BadPlan.__init__" (defScope s_BadPlan_init) L (bpI K) (.ref cda) cc) er) _ _ s') _
  generalize henv : PySem.W.ksEnv "BadPlan.__init__" (defScope s_BadPlan_init) L (bpI K) (.ref cda) cc = env
  have hcall : eval (.Call (.Attribute (.Call (.Name "super" p1) [] [] p2) "__init__" p3) [.JoinedStr [.Constant (.str "bad plan: ") 0 p4, .FormattedValue (.Name "reason" p5) (-1) none p6] p7] [] p8) env = (do
      let ov ← attributeBase (.Call (.Name "super" p1) [] [] p2) "__init__" env (eval (.Call (.Name "super" p1) [] [] p2) env)
      standAt p3.atName
      let (f, first) ← holding [ov] (getMethod ov "__init__" (plainOf (.Call (.Name "super" p1) [] [] p2) env))
      callWith p8 f first (backTo p8 (starEach [.JoinedStr [.Constant (.str "bad plan: ") 0 p4, .FormattedValue (.Name "reason" p5) (-1) none p6] p7] env)) []) := by
    rw [arm_eval_Call]
    exact bind_congr fun ov => bind_congr fun _ => mcall_line (by rfl) hline
  have kS : env.kindOf "super" = some .globalImplicit := by subst henv; rfl
  have kC : env.kindOf "__class__" = some .free := by subst henv; rfl
  have kX : env.kindOf "self" = some .local := by subst henv; rfl
  have kR : env.kindOf "reason" = some .local := by subst henv; rfl
  have kF : env.scope.kind = .function := by subst henv; rfl
  have eF : env.func = some (bpI K) := by subst henv; rfl
  have eC : env.code = .ref cda := by subst henv; rfl
  have eL : env.locals = L := by subst henv; rfl
  have eG : env.globals = mainGlobals := by subst henv; rfl
  have eB : env.builtins = builtinsNs := by subst henv; rfl
  have eK : env.cells.lookup ("__class__" : Str) = some cc := by subst henv; rfl
  obtain ⟨oc2, od2, vs2, osl2, tf, lk2, hv2⟩ := F.file
  obtain ⟨oc3, od3, osl3, lk3⟩ := F.cell
  refine PySem.ks_wpAt_execs_cons (PySem.ks_wpAt_Expr_any (PySem.ks_wpAt_MethodCall (PySem.ks_wpAt_super_base kS kC (by decide) eF (X1 _ _ lk) rfl rfl eC (X1 _ _ lk2) rfl hv2 hfile htop ?_) hcall) (by subst henv; rfl) (by rfl))
  refine PySem.W.ks_loadName_global kF kS (loadGlobal_builtin (by rw [eG]; exact G.keeps k1) hs (by rw [eB]; exact Bn.keeps k1) hb ⟨rfl, ?_⟩)
  refine wpAny_loadName_free kF kC eK ⟨_, X1 _ _ lk3, rfl⟩ ?_
  refine wpAny_loadName_local kF kX (by rw [eL]; exact ns1) (v := .ref e) (by rfl) ?_
  refine PySem.ks_wpAny_isType_cls (X1 _ _ hC) rfl ⟨rfl, ?_⟩
  refine PySem.ks_wpAny_call_super (X1 _ _ hC) rfl he1 rfl (fun c z => by cases z) (PySem.W.looks_mroIn X1 M.mro) (fun h2 e2 k2 => ?_)
  have X2 : K.In h2 := X1.keeps k2
  have he2 := k2 _ _ he1
  have hne : e ≠ bpC K := fun y => by
    have h3 := X1 _ _ hC
    rw [← y, he1] at h3
    cases h3
  have ns2 := ns1.keeps k2
  have supIn : PySem.W.alongIn K "__init__" (((.ref (bpC K) :: bm : List Value).dropWhile (· != .ref (bpC K))).drop 1) = some (some (.builtin "ValueError.__init__")) := by
    have h3 := M.sup
    unfold PySem.W.ks_superIn at h3
    rw [cl] at h3
    exact h3
  have tI : PySem.W.Looks (model prog w) h2 (typeOf (.ref e)) (.ref (bpC K)) := fun A Q E s k q => wpAny_typeOf_ref (k _ _ he2) q
  refine PySem.W.kxs_getMethod PySem.W.kxs_ValueError e2 (PySem.W.looks_opaque X2 M.op) (fun A Q E s k q => wpAny_bind ((PySem.W.looks_clsIn X2 cl) A _ E s k (wpAny_pure q))) rfl X2 supIn (tI.andThen (PySem.W.looks_subIn X2 M.sub)) hne (by decide) ?_
  have harg : starEach [.JoinedStr [.Constant (.str "bad plan: ") 0 p4, .FormattedValue (.Name "reason" p5) (-1) none p6] p7] env = [(false, eval (.JoinedStr [.Constant (.str "bad plan: ") 0 p4, .FormattedValue (.Name "reason" p5) (-1) none p6] p7) env)] := by rfl
  rw [harg]
  have k3 : ∀ b o, h2.get? b = some o → (h2.push (PySem.W.kxs_mw "ValueError.__init__" e)).get? b = some o := fun b o y => Heap.get?_push_of_some _ y
  have hu : (h2.push (PySem.W.kxs_mw "ValueError.__init__" e)).get? h2.objs.size = some (PySem.W.kxs_mw "ValueError.__init__" e) := Heap.get?_push_at rfl rfl
  generalize h2.push (PySem.W.kxs_mw "ValueError.__init__" e) = h3 at k3 hu
  have he3 := k3 _ _ he2
  have ns3 := ns2.keeps k3
  have X3 : K.In h3 := X2.keeps k3
  show wpAny _ _ (callWith p8 (.ref h2.objs.size) [] (backTo p8 [(false, eval _ env)]) []) _ _ _
  refine PySem.W.kxs_callWith (i := "ValueError.__init__") (x := e) (by rfl) (evalArgs_plain ?_)
  refine Calls.spliced_cons ?_
  refine wpAny_JoinedStr (pos := p7) ?_
  show wpAny _ _ (eval (.Constant (.str "bad plan: ") 0 p4) env) _ _ _
  have hz1 : (Str.empty ++ ("bad plan: " : Str)).length ≤ sizeLine := by decide +kernel
  have hz2 : (Str.empty ++ ("bad plan: " : Str) ++ z).length ≤ sizeLine := by
    rw [strLen_append, sizeLine_eq]
    have e10 : (Str.empty ++ ("bad plan: " : Str)).length = 10 := by decide +kernel
    omega
  refine Calls.Constant_str ⟨_, _, rfl, hz1, ?_⟩
  show wpAny _ _ (eval (.FormattedValue (.Name "reason" p5) (-1) none p6) env) _ _ _
  refine wpAny_FormattedValue_plain (wpAny_Name (wpAny_loadName_local kF kR (by rw [eL]; exact ns3) (v := .str z tz) (by rfl) ?_) (by decide))
  have tail : ∀ tk : Nat, ∀ u : Value, wpAny (model prog w) (A.deeper (PySem.W.ksEnv "BadPlan.__init__" (defScope s_BadPlan_init) L (bpI K) (.ref cda) cc)) (spliced []) (fun vs s₂ => PySem.W.KxsAt "ValueError.__init__" h2.objs.size e s₂.heap ∧ wpAny (model prog w) (A.deeper (PySem.W.ksEnv "BadPlan.__init__" (defScope s_BadPlan_init) L (bpI K) (.ref cda) cc)) (call (.ref h2.objs.size) (u :: vs)) (fun _ s' => _root_.PySem.wpAt (model prog w) (A.deeper (PySem.W.ksEnv "BadPlan.__init__" (defScope s_BadPlan_init) L (bpI K) (.ref cda) cc)) (.func (defBody s_BadPlan_init) env) (execs [.Assign [.Attribute (.Name "self" q1) "reason" q2] (.Name "reason" q3) q4] env) (fun f s' => R (.ok (.ret (match f with | .ret v => v | _ => .none))) s') (fun er s' => wpAny (model prog w) (A.deeper (PySem.W.ksEnv "BadPlan.__init__" (defScope s_BadPlan_init) L (bpI K) (.ref cda) cc)) (leaving env er) (fun _ s'' => R (.error er) s'') (fun e' s'' => R (.error e') s'') s') s')
      (fun er s' => wpAny (model prog w) (A.deeper (PySem.W.ksEnv "BadPlan.__init__" (defScope s_BadPlan_init) L (bpI K) (.ref cda) cc)) (leaving env er) (fun _ s'' => R (.error er) s'') (fun e' s'' => R (.error e') s'') s') s₂) (fun er s' => wpAny (model prog w) (A.deeper (PySem.W.ksEnv "BadPlan.__init__" (defScope s_BadPlan_init) L (bpI K) (.ref cda) cc)) (leaving env er) (fun _ s'' => R (.error er) s'') (fun e' s'' => R (.error e') s'') s') ⟨h3, g, d, tk, os⟩ := fun tk u => by
    refine Calls.spliced_nil ⟨hu, wpAny_call (codeAny_of_tree ?_)⟩
    show wpAny _ (Around.in1 _) (callAny (.ref h2.objs.size) ⟨[u], []⟩) _ _ _
    simp only [callAny]
    refine wpAny_bind (wpAny_load hu ?_)
    have m1 : (Value.type "method-wrapper" == Value.type "method" || Value.type "method-wrapper" == Value.type "builtin_function_or_method" ||
      Value.type "method-wrapper" == Value.type "method-wrapper") = true := by decide
    simp only [PySem.W.kxs_mw, m1, if_true]
    refine PySem.W.KFB.if_so (by decide) ?_
    refine wpAny_bind (PySem.W.check_bound_init PySem.F.excBase_ValueError.toExcCallFacts (X3 _ _ hC) he3 rfl ?_)
    refine wpAny_bind (wpAny_pure (wpAny_pure ⟨plainId_quiet PySem.F.excBase_ValueError.init.plain _, codeAny_builtin PySem.F.excBase_ValueError.initEntry ?_⟩))
    refine PySem.W.exc_init_tree (cls := .ref (bpC K)) (t0 := t0) (dv := none) (c2 := .none) (c3 := .none) (b4 := .bool false) he3 (by show 1 ≤ sizeLine; decide) fun h4 k4 he4 _ => ?_
    have X4 : K.In h4 := fun b o y => k4 b o (fun q => by rw [q, hK] at y; cases y) (X3 b o y)
    have ns4 : h4.Ns L _ := let ⟨oL, es, ep, ho, r⟩ := ns3; ⟨oL, es, ep, k4 _ _ (fun q => by have y : e < L := hL ▸ elt; rw [q] at y; exact absurd y (Nat.lt_irrefl _)) ho, r⟩
    refine PySem.ks_wpAt_execs_cons (PySem.ks_wpAt_Assign_Attr (wpAt_of_wpAny (wpAny_Name (wpAny_loadName_local kF kR (by rw [eL]; exact ns4) (v := .str z tz) (by rfl) ?_) (by decide))) (by rfl))
    refine wpAny_Name (wpAny_loadName_local kF kX (by rw [eL]; exact ns4) (v := .ref e) (by rfl) ?_) (by decide)
    refine PySem.W.set_plain X4 (ox := { cls := .ref (bpC K), dict := none, data := .fields #[.ref h3.objs.size, .none, .none, .none, .bool false, .none] }) (od := none) ⟨he4, rfl, rfl, trivial⟩ (bp_oex S).sa ?_
    refine PySem.HandSPX.exc_osa X4 he4 cl (show PySem.HandSPX.refsVE (.ref (bpC K) :: bm) = true from hbm) rfl M.rs (fun h5 tk5 dx k5 dn dne hx hn => ?_)
    have all4 : ∀ b o, b ≠ e → hp.get? b = some o → h4.get? b = some o := fun b o hb y => k4 b o hb (k3 b o (k2 b o (k1 b o y)))
    have sz : hp.objs.size ≤ dx := by
      have : L < h4.objs.size := by
        obtain ⟨oL, _, _, ho, _⟩ := ns4
        exact Heap.lt_size ho
      rw [hL]
      exact Nat.le_trans (Nat.le_of_lt this) dn
    exact wpAt_of_wpAny (wpAny_execs_nil (hq h5 tk5 dx _ (fun b o hb y => k5 b o hb (all4 b o hb y)) sz dne hx hn))
  rw [← hbody] at *
  refine wpAny_formatField_str ⟨_, _, rfl, hz2, ?_⟩ ⟨_, _, rfl, hz2, ?_⟩ (by rw [sizeLine_eq]; omega)
  · exact ⟨hz2, tail _ _⟩
  · exact ⟨hz2, tail _ _⟩
/-- its promise -/
def sp_bp (K : PySem.W.Frag) : Sp := fun vs H Q _ => ∃ (e : Addr) (z : Str), vs = [.ref e, .str z] ∧ H e = some (exo e (bpC K) none) ∧ z.length ≤ 1000 ∧ ∀ dx, H dx = none → dx ≠ e → Q .non (upd (upd H dx (exd dx [("reason", .str z)])) e (exo e (bpC K) (some dx)))
theorem bp_ok {base : Heap} {P : Program} (S : Says K) (F : BpFn K fd cda cc) (hs : mg "super" = none) (hfile : ((P.main.file : Str) == "/claim/cut.py") = true) (htop : (P.main.scope.names.lookup ("super" : Str)).isSome = false) : FnOk P w K mg base CX0 1 (bpI K) fd ["self", "reason"] (sp_bp K) := by
  refine ⟨fun vs H Q E h => ?_, fun A outer s H args us vs Q E room env bind vals h => ?_⟩
  · obtain ⟨e, z, rfl, _⟩ := h
    rfl
  · obtain ⟨e, z, rfl, he, hz, q⟩ := h
    cases vals with
    | @cons _ u1 _ ur r1 rr =>
      cases rr with
      | @cons _ u2 _ ur2 r2 rr2 =>
        cases rr2
        obtain rfl : u1 = Value.ref e := r1
        obtain ⟨tz, rfl⟩ := r2
        obtain ⟨t1, ho⟩ := exo_at env.hok he
        obtain ⟨hp, g, d, t, os⟩ := s
        have there : ∀ b o, base.get? b = some o → hp.get? b = some o := fun b o y => (env.bs b o y).1
        obtain ⟨mb, nb, hbb⟩ := env.mod.blt
        have hK : K.lookup e = none := by
          cases y : K.lookup e with
          | none => rfl
          | some o =>
            have h2 := (env.bs e o (env.mod.kin _ _ y)).2
            rw [he] at h2
            cases h2
        refine bp_init (mg := mg) (mb := mb) S F bind (env.mod.kin.keeps there) (env.mod.nolimit.keeps there) (env.mod.glob.keeps there) hs (nb.keeps there) ((hbb _ (by decide)).trans (by decide +kernel)) hfile htop ho room.depth hz hK (fun h' tk' dx t2 k sz dne hx hn => ?_)
        have hnd : H dx = none := env.hok.fresh sz
        have nd : ∀ {b : Addr} {o : Obj}, hp.get? b = some o → b ≠ dx := fun {b o} y => Nat.ne_of_lt (Nat.lt_of_lt_of_le (Heap.lt_size y) sz)
        have na : ∀ {b : Addr}, H b = none → b ≠ e := fun {b} n y => by
          rw [y, he] at n; cases n
        refine ⟨.non, _, rfl, env.bare, ?_, ?_, rfl, q dx hnd dne⟩
        · constructor
          · exact fun b o y n _ _ => k b o (na n) y
          · exact fun b o y n _ _ => ⟨o.slots, k b o (na n) y⟩
          · exact fun b o y n _ => by rw [upd_ne (na n), upd_ne (nd y)]; exact n
          · intro b o y _
            by_cases hb : b = e
            · exact ⟨_, by rw [hb]; exact hx⟩
            · exact ⟨o, k b o hb y⟩
          · exact fun b xs y => by rw [upd_ne (at_ne he y exo_tup), upd_ne (ne_of_none y hnd)]; exact y
          · exact fun b o v y => by rw [upd_ne (at_ne he y exo_frz), upd_ne (ne_of_none y hnd)]; exact y
          · exact fun b ps y => ⟨#[], by rw [upd_ne (at_ne he y exo_tbl), upd_ne (ne_of_none y hnd), y]; simp⟩
        · intro b o y
          by_cases hb : b = e
          · subst hb
            rw [upd_same] at y; cases y
            exact exo_ok hx
          · rw [upd_ne hb] at y
            by_cases hd : b = dx
            · subst hd
              rw [upd_same] at y; cases y
              exact exd_ok hn (relO_put (fs := []) ⟨tz, rfl⟩ fun _ => True.intro)
            · rw [upd_ne hd] at y
              refine (env.hok b o y).stay (fun c v hc w => k c v ?_ w) (fun c hc => ?_) (fun c xs hc => ?_)
              · rcases hc with hc | hc
                · rw [hc]; exact hb
                · exact at_ne he hc exo_own
              · rw [upd_ne (at_ne he hc exo_own), upd_ne (ne_of_none hc hnd)]; exact hc
              · rw [upd_ne (at_ne he hc exo_tup), upd_ne (ne_of_none hc hnd)]; exact hc
end
end Hw
set_option Elab.async false
set_option linter.all false
set_option maxRecDepth 100000
set_option maxHeartbeats 4000000
/-! Parcels of a plan that is not right. -/
namespace Hw
open PySem PySem.Spec L2
structure Fy (P : Program) (K : PySem.W.Frag) (mg : Str → Option Value) : Prop where
  fx : Fx K mg
  s : Says K
  file : ((P.main.file : Str) == "/claim/cut.py") = true
  top : (P.main.scope.names.lookup ("super" : Str)).isSome = false
section
variable {P : Program} {w : World} {K : PySem.W.Frag} {mg : Str → Option Value} {base : Heap}
theorem Fy.bad (Y : Fy P K mg) : mg "BadPlan" = some (.ref (bpC K)) := by
  obtain ⟨_, a, b⟩ := Y.fx.ex
  exact PySem.W.mg_of a b (He.eqO_ok (He.ba Y.s.parts.2.2.1).1)
def Wrong (ds : List D) : Prop := ∃ (B : Basin) (R : List Right) (p : Plan), ds = [basinD B, rightsD R, planD p] ∧ B.Ok ∧ RightsOk B R ∧ p.Shape B R ∧ planFault B R p ≠ none
def sp_parcelsX (K : PySem.W.Frag) : Sp := fun vs H Q E => ∃ (G H0 : Hp) (ds : List D) (μ : Mu), At K G H0 [] μ G H [] ∧ IsL K G ds vs ∧ Wrong ds ∧
  ∀ d G' H', At K G H0 [] μ G' H' [] → H' d = some (.xd [("reason", .str "not right")]) → E (.ref (bpC K)) (some d) H'
structure CalX (P : Program) (w : World) (K : PySem.W.Frag) (mg : Str → Option Value) (base : Heap) (k : Nat) (x : Str) (sp : Sp) : Prop where
  ex : ∃ (f : Addr) (fd : FuncData) (ps : List Str), FnOk P w K mg base (L2.CX P w) k f fd ps sp ∧ mg x = some (.ref f) ∧ PySem.W.keepIn K (.ref f) = true ∧ Binds K fd ps []
theorem c_parcelsX (Y : Fy P K mg) : CalX P w K mg base 9 "parcels" (sp_parcelsX K) := by
  have Fx := Y.fx
  obtain ⟨fd, F⟩ := Fx.c.def_ 20 (d := d_parcels) rfl
  obtain ⟨fb, cda, cc, FB⟩ := bp_fn Y.s.parts.2.1 Y.s.f
  have hbind : Binds K fb ["self", "reason"] [] := by
    obtain ⟨kV, doc, pm, an, ct, rfl⟩ := FB.is_
    exact Binds.all fun us hl => match us, hl with | [_, _], _ => rfl
  have okB : FnOk P w K mg base CX0 1 (bpI K) fb ["self", "reason"] (sp_bp K) := bp_ok Y.s FB (Fx.free 108) Y.file Y.top
  have M := bp_more Y.s
  refine ⟨_, fd, ["basin", "rights", "plan"], F.ok sc_parcels (fun vs H Q E h => ?_) (fun cdv A outer s H vs Q E hr h => ?_), Fx.glo 16, F.kp, FunD.bindsN F fun _ _ _ _ _ _ us hl => match us, hl with | [_, _, _], _ => rfl⟩
  · obtain ⟨G, H0, ds, μ, A, l, ⟨B, R, p, rfl, _⟩, _⟩ := h
    rw [l.len]; rfl
  · have hu := hu_of hr
    have nd := sc_parcels.nd
    refine ⟨_, pss_cons (ps_if (pt_cmp (pc_notN (k_cal (c_plan_fault Fx) hr (by decide) rfl (pa_cons (pv 0) (pa_cons (pv 1) (pa_cons (pv 2) pa_nil)))))) (pss_one (ps_raise rfl (takes_of rfl rfl rfl rfl) (pmk_oex (bp_oex Y.s) M.ini M.tI okB (hr.mono (by decide)) hbind .nil pass0 (by rfl) Y.bad (pa_cons pe_str pa_nil)))) pss_nil) (PSs.nox (pss_cons (ps_set (i := 3) nd rfl (by first | exact Or.inl rfl | exact Or.inr rfl) (k_mak (m_Tracing Fx) hr (by decide) rfl (pa_cons (pv 0) (pa_cons (pv 1) (pa_cons (pv 2) pa_nil)))))
      (pss_cons (ps_for PassesOwn.never rfl (k_list_ (K := K) (k_cal (c_cells Fx) hr (by decide) rfl (pa_cons (pv 0) pa_nil))) (pg_name (i := 4) nd rfl (by first | exact Or.inl rfl | exact Or.inr rfl)) (pss_one (ps_expr (k_met (c_Tracing_trace Fx) hr (by decide) (pv 3) (pa_cons (pv 4) pa_nil)))))
      (pss_cons (ps_asg (pv 0) (pg_tup rfl (pgs_cons (pg_name (i := 5) nd rfl (by first | exact Or.inl rfl | exact Or.inr rfl)) (pgs_cons (pg_name (i := 6) nd rfl (by first | exact Or.inl rfl | exact Or.inr rfl)) pgs_nil))))
      (pss_cons (ps_setDcT (i := 7) (own := [("cell", 4)]) (g := (gName 4)) (tt := tYes) hu rfl nd rfl rfl (sw_dict rfl rfl rfl (by decide +kernel)) (k_list_ (K := K) (k_cal (c_cells Fx) hr (by decide) rfl (pa_cons (pv 0) pa_nil))) (blkOk_by (by kernel_rfl)) (fun _ _ _ _ _ => by exact (pg_name (i := 4) nd rfl (by first | exact Or.inl rfl | exact Or.inr rfl))) (fun _ _ _ _ _ => by exact pts_nil) (fun _ _ _ _ _ => by exact (pv 4)) (fun _ _ _ _ _ => by exact (k_met (c_Tracing_lost Fx) hr (by decide) (pv 3) (pa_cons (pv 4) pa_nil))))
      (pss_cons (ps_set (i := 8) nd rfl (by first | exact Or.inl rfl | exact Or.inr rfl) (k_cal (c_tuples Fx) hr (by decide) rfl (pa_cons (k_fld (K := K) (pv 3) rfl) (pa_cons (pe_callB (k_len (K := K)) (by rfl) (Fx.free 97) PySem.boot_len (pa_cons (pv 1) pa_nil)) (pa_cons (pv 5) pa_nil)))))
      (pss_cons (ps_set (i := 9) nd rfl (by first | exact Or.inl rfl | exact Or.inr rfl) (pe_callTy (k_tuple (K := K)) (by rfl) (Fx.free 101) (by decide +kernel) (pa_cons (pe_lc (own := [("number", 10)]) (g := (gName 10)) (tt := tYes) rfl nd (pi_range1 rfl (Fx.free 98) (pa_cons (pe_callB (k_len (K := K)) (by rfl) (Fx.free 97) PySem.boot_len (pa_cons (pv 6) pa_nil)) pa_nil)) (blkOk_by (by kernel_rfl)) (fun _ _ _ _ _ => by exact (pg_name (i := 10) nd rfl (by first | exact Or.inl rfl | exact Or.inr rfl))) (fun _ _ _ _ _ => by exact pts_nil) (fun _ _ _ _ _ => by exact (pe_callTy (k_tuple (K := K)) (by rfl) (Fx.free 101) (by decide +kernel) (pa_cons (pe_dget hu (k_fld (K := K) (pv 3) rfl) (pe_tup (pa_cons (pv 10) (pa_cons (pe_op op_sub (pv 5) pe_int) pa_nil))) (fun _ _ => rfl)) pa_nil)))) pa_nil)))
      (pss_one (ps_ret (pe_tup (pa_cons (pv 8) (pa_cons (pv 9) (pa_cons (k_cal (c_tuples Fx) hr (by decide) rfl (pa_cons (k_fld (K := K) (pv 3) rfl) (pa_cons (pe_callB (k_len (K := K)) (by rfl) (Fx.free 97) PySem.boot_len (pa_cons (pv 6) pa_nil)) (pa_cons (pv 5) pa_nil)))) (pa_cons (k_cal (c_tuples Fx) hr (by decide) rfl (pa_cons (pv 7) (pa_cons (pe_callB (k_len (K := K)) (by rfl) (Fx.free 97) PySem.boot_len (pa_cons (pv 6) pa_nil)) (pa_cons (pv 5) pa_nil)))) pa_nil)))))))))))))), ?_⟩
    obtain ⟨G, H0, ds, μ, At0, l, ⟨B, R, p, rfl, ok, rok, sh, hf⟩, q⟩ := h
    have hne : (!(optD faultD (planFault B R p)).isN) = true := by
      cases e : planFault B R p with
      | none => exact absurd e hf
      | some x => rfl
    have hT : EvT K _ (startR 11 [basinD B, rightsD R, planD p]) μ _ := et_B (ev_notN (ev_call (E := E0) (ea_cons (V' 0) (ea_cons (V' 1) (ea_cons (V' 2) ea_nil))) ⟨B, R, p, rfl, ok, rok, sh, rfl, rfl⟩ mono_plan_fault))
    refine hT G H0 G H (L2.start _ vs) (At0.ofSl (Sl.start (N := ["basin", "rights", "plan", "tracing", "cell", "months", "sites", "lost", "given", "stored", "number"]) l)) _ (fun b μ' G' H1 pe e A' => ?_)
    obtain ⟨rfl, rfl⟩ := pe
    rw [if_pos hne]
    refine ⟨by decide, fun a ha => ⟨a, "not right", rfl, L2.upd_same, by decide +kernel, fun dx hdx dne => ⟨rfl, dx, [("reason", .str "not right")], L2.upd_same, ?_, ?_, ?_⟩⟩⟩
    · rw [L2.upd_ne dne, L2.upd_same]
    · rw [L2.upd_ne dne] at hdx; exact hdx
    · have hdx' : H1 dx = none := by rw [L2.upd_ne dne] at hdx; exact hdx
      have e1 : L2.upd (del (L2.upd (L2.upd (L2.upd H1 a (exo a (bpC K) none)) dx (exd dx [("reason", .str "not right")])) a (exo a (bpC K) (some dx))) a) dx (.xd [("reason", .str "not right")]) = L2.upd H1 dx (.xd [("reason", .str "not right")]) := by
        funext b
        by_cases hb : b = dx
        · subst hb
          rw [L2.upd_same, L2.upd_same]
        · rw [L2.upd_ne hb, L2.upd_ne hb]
          by_cases hc : b = a
          · subst hc
            rw [del_same, ha]
          · rw [del_ne hc, L2.upd_ne hc, L2.upd_ne hb, L2.upd_ne hc]
      have q2 := q dx G' _ (A'.bare.step (Ex.refl _) (Ex.new hdx') (A'.gh.trans (Ex.new hdx')) (fun _ x _ => x)) L2.upd_same
      rw [← e1] at q2
      exact q2
end
end Hw
set_option Elab.async false
set_option linter.all false
set_option maxRecDepth 100000
set_option maxHeartbeats 4000000
/-! A plan that is not right is refused. -/
namespace Hw
open PySem PySem.Spec L2
section
variable {P : Program} {w : World} {K : PySem.W.Frag} {mg : Str → Option Value} {base : Heap}
theorem sc_law_refused : FnScope ["_law_basin_here", "_law_rights_here", "_law_plan", "e"] ["_law_basin_here", "_law_rights_here", "_law_plan"] (defScope s_law_refused) := ⟨rfl, rfl, rfl, by decide +kernel, rfl, by decide +kernel, by decide +kernel⟩
-- _law_refused: 0 _law_basin_here, 1 _law_rights_here, 2 _law_plan, 3 e
def S_law_refused : Spec := fun ds μ Q => Wrong ds ∧ Q (.bl true) μ
theorem len_law_refused : S_law_refused.len 3 := fun ds μ Q h => by obtain ⟨⟨_, _, _, rfl, _⟩, _⟩ := h; rfl
theorem mono_law_refused : Mono S_law_refused := fun ds μ P P' f h => ⟨h.1, f _ _ h.2⟩
theorem c_law_refused (Y : Fy P K mg) : Cal P w K mg base 10 "_law_refused" S_law_refused := by
  have hlen : Spec.len S_law_refused 3 := len_law_refused
  have Fx := Y.fx
  obtain ⟨fd, F⟩ := Fx.c.def_ 57 (d := d_law_refused) rfl
  obtain ⟨fp, fdp, ps, FP, gp, kp, bp⟩ := (c_parcelsX (w := w) (base := base) Y).ex
  have M := bp_more Y.s
  refine ⟨_, fd, ["_law_basin_here", "_law_rights_here", "_law_plan"], fnok F sc_law_refused hlen (fun cdv A outer s H E hr => ?_), Fx.glo 39, F.kp, FunD.bindsN F fun _ _ _ _ _ _ us hl => match us, hl with | [_, _, _], _ => rfl⟩
  have hu := hu_of hr
  have nd := sc_law_refused.nd
  refine ⟨_, pss_cons (ps_try_as (i := 3) rfl rfl nd rfl rfl ⟨rfl, by decide, .inl Y.bad⟩ takes0 (fun W pn xe tk _ => pss_one (ps_expr (pe_callS FP (hr.mono (by decide)) (by rfl) gp kp bp (fun σ => passAt tk σ) (pa_cons (pv 0) (pa_cons (pv 1) (pa_cons (pv 2) pa_nil))))))
    (fun a oe cls d pn hz hf => pss_one (ps_ret (pe_cmpR op_eq (pe_xf M.xf M.rs hz hf (pv 3)) pe_str (nomark _))))) (pss_one (ps_ret pe_bl)), fun ds μ Pq hS => ?_⟩
  obtain ⟨⟨B, R, p, rfl, ok, rok, sh, hf⟩, q⟩ := hS
  intro G0 H0 G H1 σ D At0 hd
  have hA : EvA K _ (startR 4 [basinD B, rightsD R, planD p]) μ _ := ea_cons (V' 0) (ea_cons (V' 1) (ea_cons (V' 2) ea_nil))
  unfold tSeq tDrop tCallS
  dsimp only
  refine hA G0 H0 G H1 σ At0 _ (fun vs ds2 μ' G' H2 pe e A' l => ?_)
  obtain ⟨rfl, rfl⟩ := pe
  obtain ⟨H3, C, back⟩ := A'.callee
  refine ⟨G', H3, _, μ', C, l, ⟨B, R, p, rfl, ok, rok, sh, hf⟩, fun d G2 H4 A2 hx => ?_⟩
  refine ⟨true, M.exm, fun _ a ha => ?_, fun z => by cases z⟩
  obtain ⟨e2, A3⟩ := back A2
  have hl : σ.length = 4 := by rw [A3.sl.1]; rfl
  refine ⟨_, List.getElem?_set_self (by omega), rfl, rfl, d, [("reason", .str "not right")], .str "not right", rfl, hx, rfl, rfl, ?_⟩
  refine hd.rt (.bl true) μ' _ G2 H4 ⟨_, Mu.sub.refl _, q⟩ A3.bare ?_
  show V.bl (decide (V.str "not right" = V.str "not right")) = V.bl true
  rw [decide_eq_true rfl]
end
end Hw
set_option Elab.async false
set_option linter.all false
set_option maxRecDepth 100000
set_option maxHeartbeats 4000000
/-! What of each origin is told, and what water there is. -/
namespace Hw
open PySem PySem.Spec L2
def rowT (r : Row) : D := .tup (r.map parD)
def stoRows (B : Basin) (S : TrS) : List Row := (List.range B.sites.length).map fun k => S.sto (k, B.months - 1)
def tab3 (n m : Nat) (f : Rows) : List (List Row) := (List.range n).map fun k => (List.range m).map fun j => f (k, j)
def prts (B : Basin) (R : List Right) (S : TrS) : List (List (List Row)) := [tab3 R.length B.months S.giv, tab3 B.sites.length B.months S.spi, tab3 B.sites.length B.months (lostOf B S)]
def partD (p : List (List Row)) : D := .tup (p.map fun rs => .tup (rs.map rowT))
theorem tups_part {n m : Nat} {f : Rows} : tupsD n m f = partD (tab3 n m f) := by
  unfold tupsD partD tab3
  rw [List.map_map]
  congr 1
  refine List.map_congr_left fun k _ => ?_
  show D.tup _ = D.tup (((List.range m).map fun j => f (k, j)).map rowT)
  rw [List.map_map]; rfl
theorem parcels_prts {B : Basin} {R : List Right} {S : TrS} : parcelsD B R S = .tup [partD (tab3 R.length B.months S.giv), .tup ((stoRows B S).map rowT), partD (tab3 B.sites.length B.months S.spi), partD (tab3 B.sites.length B.months (lostOf B S))] := by
  unfold parcelsD
  rw [tups_part, tups_part, tups_part]
  congr 3
  unfold stoRows
  rw [List.map_map]; rfl
def allRows (B : Basin) (R : List Right) (S : TrS) : List Row := stoRows B S ++ (prts B R S).flatten.flatten
theorem flat_tab3 {n m : Nat} {f : Rows} : (tab3 n m f).flatten.flatten = ((List.range n).map fun k => ((List.range m).map fun j => f (k, j)).flatten).flatten := by
  rw [List.flatten_flatten]
  unfold tab3
  rw [List.map_map]; rfl
theorem allRows_es {B : Basin} {R : List Right} {S : TrS} : (allRows B R S).flatten = esTold B R S := by
  unfold allRows prts esTold
  rw [List.flatten_append]
  simp only [List.flatten_cons, List.flatten_nil, List.append_nil, List.flatten_append]
  rw [flat_tab3, flat_tab3, flat_tab3]
  rfl
theorem tab3_len {n m : Nat} {f : Rows} (hn : n ≤ 3) (hm : m ≤ 4) : (tab3 n m f).length ≤ 3 ∧ ∀ rs ∈ tab3 n m f, rs.length ≤ 4 := by
  unfold tab3
  refine ⟨by rw [List.length_map, List.length_range]; exact hn, fun rs h => ?_⟩
  obtain ⟨k, _, rfl⟩ := List.mem_map.mp h
  rw [List.length_map, List.length_range]; exact hm
theorem flat_le {α : Type} {M : Nat} : ∀ l : List (List α), (∀ x ∈ l, x.length ≤ M) → l.flatten.length ≤ l.length * M
  | [], _ => by simp
  | a :: l, h => by
    have h1 := flat_le l fun x hx => h x (List.mem_cons_of_mem _ hx)
    have h2 := h a (List.mem_cons_self ..)
    rw [List.flatten_cons, List.length_append, List.length_cons, Nat.succ_mul]; omega
theorem flat_take {α : Type} (l : List (List α)) (i : Nat) : (l.take i).flatten.length ≤ l.flatten.length := by
  have h := congrArg List.length (congrArg List.flatten (List.take_append_drop i l))
  rw [List.flatten_append, List.length_append] at h
  omega
theorem tab3_mem {n m : Nat} {f : Rows} {M : Nat} (h : ∀ x, (f x).length ≤ M) : ∀ r ∈ (tab3 n m f).flatten, r.length ≤ M := fun r hr => by
  obtain ⟨rs, h1, h2⟩ := List.mem_flatten.mp hr
  obtain ⟨k, _, rfl⟩ := List.mem_map.mp h1
  obtain ⟨j, _, rfl⟩ := List.mem_map.mp h2
  exact h _
theorem allRows_len {B : Basin} (ok : B.Ok) {R : List Right} (rok : RightsOk B R) {S : TrS} : (allRows B R S).length ≤ 39 := by
  have hm := ok.m4
  have hn := ok.n3
  have hr := rok.1
  have g := flat_le _ (tab3_len (f := S.giv) hr hm).2
  have s := flat_le _ (tab3_len (f := S.spi) hn hm).2
  have l := flat_le _ (tab3_len (f := lostOf B S) hn hm).2
  have g2 := (tab3_len (f := S.giv) hr hm).1
  have s2 := (tab3_len (f := S.spi) hn hm).1
  have l2 := (tab3_len (f := lostOf B S) hn hm).1
  unfold allRows prts stoRows
  simp only [List.flatten_cons, List.flatten_nil, List.append_nil, List.flatten_append, List.length_append, List.length_map, List.length_range]
  omega
theorem allRows_mem {B : Basin} {R : List Right} {S : TrS} {M : Nat} (h : RowsLe S M) : ∀ r ∈ allRows B R S, r.length ≤ M := fun r hr => by
  have hl : ∀ x, (lostOf B S x).length ≤ M := fun x => by
    unfold lostOf
    split
    · exact h.lts x
    · exact Nat.zero_le _
  unfold allRows prts at hr
  simp only [List.flatten_cons, List.flatten_nil, List.append_nil, List.flatten_append] at hr
  rcases List.mem_append.mp hr with z | z
  · obtain ⟨k, _, rfl⟩ := List.mem_map.mp z
    exact h.sto _
  · rcases List.mem_append.mp z with z | z
    · exact tab3_mem h.giv r z
    · rcases List.mem_append.mp z with z | z
      · exact tab3_mem h.spi r z
      · exact tab3_mem hl r z
theorem prts_len {B : Basin} (ok : B.Ok) {R : List Right} (rok : RightsOk B R) {S : TrS} : ∀ p ∈ prts B R S, p.length ≤ 3 ∧ ∀ rs ∈ p, rs.length ≤ 4 := fun p hp => by
  unfold prts at hp
  simp only [List.mem_cons, List.not_mem_nil, or_false] at hp
  rcases hp with e | e | e
  · rw [e]; exact tab3_len rok.1 ok.m4
  · rw [e]; exact tab3_len ok.n3 ok.m4
  · rw [e]; exact tab3_len ok.n3 ok.m4
section
variable {P : Program} {w : World} {K : PySem.W.Frag} {mg : Str → Option Value} {base : Heap}
theorem sc_law_amounts : FnScope ["_law_told", "_law_found", "_law_rows", "_law_part", "_law_rows_of_site", "_law_row", "_law_origin", "_law_amount"] ["_law_told"] (defScope s_law_amounts) := ⟨rfl, rfl, rfl, by decide +kernel, rfl, by decide +kernel, by decide +kernel⟩
-- _law_amounts: 0 _law_told, 1 _law_found, 2 _law_rows, 3 _law_part, 4 _law_rows_of_site, 5 _law_row, 6 _law_origin, 7 _law_amount
def S_law_amounts : Spec := fun ds μ Q => ∃ (B : Basin) (R : List Right) (S : TrS), ds = [parcelsD B R S] ∧ B.Ok ∧ RightsOk B R ∧ RowsLe S 1000 ∧ ∀ a m, μ a = none → AmM m (esTold B R S) → Q (.raw (.ref a)) (μ.upd a (.dct m))
theorem len_law_amounts : S_law_amounts.len 1 := fun ds μ Q h => by obtain ⟨_, _, _, rfl, _⟩ := h; rfl
theorem mono_law_amounts : Mono S_law_amounts := fun ds μ P P' f h => by obtain ⟨B, R, p, e, h1, h2, h3, q⟩ := h; exact ⟨B, R, p, e, h1, h2, h3, fun a m h1 h2 => f _ _ (q a m h1 h2)⟩
theorem c_law_amounts (Fx : Fx K mg) : Cal P w K mg base 1 "_law_amounts" S_law_amounts := by
  have hlen : Spec.len S_law_amounts 1 := len_law_amounts
  obtain ⟨fd, F⟩ := Fx.c.def_ 55 (d := d_law_amounts) rfl
  refine ⟨_, fd, ["_law_told"], fnok F sc_law_amounts hlen (fun cdv A outer s H E hr => ?_), Fx.glo 37, F.kp, FunD.bindsN F fun _ _ _ _ _ _ us hl => match us, hl with | [_], _ => rfl⟩
  have hu := hu_of hr
  have nd := sc_law_amounts.nd
  refine ⟨_, (pss_cons (ps_set (i := 1) nd rfl (by first | exact Or.inl rfl | exact Or.inr rfl) pe_dnewT)
      (pss_cons (ps_set (i := 2) nd rfl (by first | exact Or.inl rfl | exact Or.inr rfl) (pe_callTy (k_list (K := K)) (by rfl) (Fx.free 102) (by decide +kernel) (pa_cons (pe_ix (k_ix (K := K)) (pv 0) pe_int (fun _ _ => rfl)) pa_nil)))
      (pss_cons (ps_for PassesOwn.never rfl (k_tup_ (K := K) (pe_tup (pa_cons (pe_ix (k_ix (K := K)) (pv 0) pe_int (fun _ _ => rfl)) (pa_cons (pe_ix (k_ix (K := K)) (pv 0) pe_int (fun _ _ => rfl)) (pa_cons (pe_ix (k_ix (K := K)) (pv 0) pe_int (fun _ _ => rfl)) pa_nil))))) (pg_name (i := 3) nd rfl (by first | exact Or.inl rfl | exact Or.inr rfl)) (pss_one (ps_for PassesOwn.never rfl (k_tup_ (K := K) (pv 3)) (pg_name (i := 4) nd rfl (by first | exact Or.inl rfl | exact Or.inr rfl)) (pss_one (ps_set (i := 2) nd rfl (by first | exact Or.inl rfl | exact Or.inr rfl) (pe_op op_cat (pv 2) (pe_callTy (k_list (K := K)) (by rfl) (Fx.free 102) (by decide +kernel) (pa_cons (pv 4) pa_nil))))))))
      (pss_cons (ps_for PassesOwn.never rfl (k_list_ (K := K) (pv 2)) (pg_name (i := 5) nd rfl (by first | exact Or.inl rfl | exact Or.inr rfl)) (pss_one (ps_for PassesOwn.never rfl (k_tup_ (K := K) (pv 5)) (pg_tup rfl (pgs_cons (pg_name (i := 6) nd rfl (by first | exact Or.inl rfl | exact Or.inr rfl)) (pgs_cons (pg_name (i := 7) nd rfl (by first | exact Or.inl rfl | exact Or.inr rfl)) pgs_nil))) (pss_one (ps_dput hu (pv 1) (pv 6) (pe_op op_add (pe_dget2 hu (pv 1) (pv 6) pe_int ⟨by rfl, by rfl, by rfl, by rfl⟩) (pv 7)) rfl)))))
      (pss_one (ps_ret (pv 1))))))), fun ds μ Pq hS => ?_⟩
  obtain ⟨B, R, S, rfl, ok, rok, hle, q⟩ := hS
  rw [parcels_prts]
  have hall := allRows_len ok rok (S := S)
  have hpl := prts_len ok rok (S := S)
  have htot : (allRows B R S).flatten.length ≤ 39000 := by
    have := flat_le _ (allRows_mem (B := B) (R := R) hle)
    have h2 : (allRows B R S).length * 1000 ≤ 39 * 1000 := Nat.mul_le_mul hall (Nat.le_refl _)
    omega
  have hs0 : (stoRows B S).length ≤ 3 := by
    unfold stoRows
    rw [List.length_map, List.length_range]; exact ok.n3
  have hes := allRows_es (B := B) (R := R) (S := S)
  have hpr : [partD (tab3 R.length B.months S.giv), partD (tab3 B.sites.length B.months S.spi), partD (tab3 B.sites.length B.months (lostOf B S))] = (prts B R S).map partD := rfl
  refine q_newD fun a ha => ?_
  refine q_set (d := .lst ((stoRows B S).map rowT)) (ev_listOf (ev_ix (V' 0) ev_int) (.inl rfl)) ?_
  generalize hT : D.tup [partD (tab3 R.length B.months S.giv), .tup ((stoRows B S).map rowT), partD (tab3 B.sites.length B.months S.spi), partD (tab3 B.sites.length B.months (lostOf B S))] = T
  refine pw_seq (pw_for (fun i ρ μ' => μ' = μ.upd a (.dct []) ∧ (stoRows B S ++ ((prts B R S).take i).flatten.flatten).length ≤ 3 + 12 * i ∧ ∃ x3 x4, ρ = [some T, some (.raw (.ref a)), some (.lst ((stoRows B S ++ ((prts B R S).take i).flatten.flatten).map rowT)), x3, x4, none, none, none]) ?_)
  refine wi_tupE (ds := (prts B R S).map partD) ?_ ⟨⟨rfl, ?_, none, none, ?_⟩, fun _ _ _ _ => trivial, ?_, ?_⟩
  · subst hT
    rw [← hpr]
    exact ev_tup (ea_cons (ev_ix (V' 0) ev_int) (ea_cons (ev_ix (V' 0) ev_int) (ea_cons (ev_ix (V' 0) ev_int) ea_nil)))
  · rw [List.take_zero, List.flatten_nil, List.flatten_nil, List.append_nil]; omega
  · rw [List.take_zero, List.flatten_nil, List.flatten_nil, List.append_nil]; rfl
  · rintro i d ρ μ' hd ⟨rfl, hlen, x3, x4, rfl⟩
    rw [List.getElem?_map] at hd
    cases hp : (prts B R S)[i]? with
    | none => rw [hp] at hd; cases hd
    | some p =>
      rw [hp] at hd; cases hd
      have hi : i < 3 := (List.getElem?_eq_some_iff.mp hp).1
      obtain ⟨hp3, hp4⟩ := hpl p (List.mem_of_getElem? hp)
      have htk : (prts B R S).take (i + 1) = (prts B R S).take i ++ [p] := by rw [List.take_succ, hp]; rfl
      have enx : stoRows B S ++ ((prts B R S).take (i + 1)).flatten.flatten = (stoRows B S ++ ((prts B R S).take i).flatten.flatten) ++ p.flatten := by
        rw [htk, List.flatten_append, List.flatten_append, List.flatten_cons, List.flatten_nil, List.append_nil, List.append_assoc]
      generalize stoRows B S ++ ((prts B R S).take i).flatten.flatten = rows at hlen enx
      refine wg_name (pw_for (fun j ρ μ' => μ' = μ.upd a (.dct []) ∧ (rows ++ (p.take j).flatten).length ≤ 3 + 12 * i + 4 * j ∧ ∃ x4, ρ = [some T, some (.raw (.ref a)), some (.lst ((rows ++ (p.take j).flatten).map rowT)), some (partD p), x4, none, none, none]) ?_)
      refine wi_tupE (V' 3) ⟨⟨rfl, ?_, x4, ?_⟩, fun _ _ _ _ => trivial, ?_, ?_⟩
      · rw [List.take_zero, List.flatten_nil, List.append_nil]; omega
      · rw [List.take_zero, List.flatten_nil, List.append_nil]; rfl
      · rintro j d ρ μ' hd ⟨rfl, hl2, x4, rfl⟩
        rw [List.getElem?_map] at hd
        cases hr : p[j]? with
        | none => rw [hr] at hd; cases hd
        | some rs =>
          rw [hr] at hd; cases hd
          have hj := (List.getElem?_eq_some_iff.mp hr).1
          have h4 := hp4 rs (List.mem_of_getElem? hr)
          have htk2 : p.take (j + 1) = p.take j ++ [rs] := by rw [List.take_succ, hr]; rfl
          have e : rows ++ (p.take (j + 1)).flatten = (rows ++ (p.take j).flatten) ++ rs := by
            rw [htk2, List.flatten_append, List.flatten_cons, List.flatten_nil, List.append_nil, List.append_assoc]
          refine wg_name (s_set (d := .lst (((rows ++ (p.take j).flatten).map rowT) ++ (rs.map rowT))) ?_ ⟨rfl, ?_, some (.tup (rs.map rowT)), ?_⟩)
          · exact ev_cat (V' 2) (ev_listOf (V' 4) (.inl rfl)) (.inl rfl) (.inl rfl) (sz_of (by rw [List.length_map, List.length_map]; omega))
          · rw [e, List.length_append]; omega
          · rw [e, List.map_append (l₂ := rs)]; rfl
      · rintro ρ μ' ⟨rfl, hl2, x4, rfl⟩
        rw [List.length_map, List.take_length] at hl2
        rw [List.length_map, List.take_length]
        refine ⟨rfl, ?_, some (partD p), x4, ?_⟩
        · rw [enx]; omega
        · rw [enx]
  · rintro ρ μ' ⟨rfl, _, x3, x4, rfl⟩
    rw [List.length_map, List.take_length]
    have eall : stoRows B S ++ (prts B R S).flatten.flatten = allRows B R S := rfl
    rw [eall]
    generalize allRows B R S = Rws at hall htot hes
    refine pw_seq (pw_for (fun i ρ μ' => (∀ b, b ≠ a → μ' b = μ b) ∧ AmT μ' a (Rws.take i).flatten ∧ ∃ x5 x6 x7, ρ = [some T, some (.raw (.ref a)), some (.lst (Rws.map rowT)), x3, x4, x5, x6, x7]) ?_)
    refine wi_lstE (V' 2) ⟨⟨fun b hb => Mu.upd_ne hb, ⟨[], Mu.upd_same, by rw [List.take_zero]; exact AmM.nil⟩, none, none, none, rfl⟩, fun _ _ _ _ => trivial, ?_, ?_⟩
    · rintro i d ρ μ1 hd ⟨fr, hA, x5, x6, x7, rfl⟩
      rw [List.getElem?_map] at hd
      cases hr : Rws[i]? with
      | none => rw [hr] at hd; cases hd
      | some r =>
        rw [hr] at hd; cases hd
        have htk : (Rws.take (i + 1)).flatten = (Rws.take i).flatten ++ r := by
          rw [List.take_succ, hr, List.flatten_append]
          show _ ++ [r].flatten = _
          rw [List.flatten_cons, List.flatten_nil, List.append_nil]
        have hz : (Rws.take i).flatten.length + r.length ≤ 39000 := by
          have := flat_take Rws (i + 1)
          rw [htk, List.length_append] at this; omega
        refine wg_name (pw_for (fun j ρ μ' => (∀ b, b ≠ a → μ' b = μ b) ∧ AmT μ' a ((Rws.take i).flatten ++ r.take j) ∧ ∃ x6 x7, ρ = [some T, some (.raw (.ref a)), some (.lst (Rws.map rowT)), x3, x4, some (rowT r), x6, x7]) ?_)
        refine wi_tupE (V' 5) ⟨⟨fr, by rw [List.take_zero, List.append_nil]; exact hA, x6, x7, rfl⟩, fun _ _ _ _ => trivial, ?_, ?_⟩
        · rintro j d ρ μ2 hd ⟨fr2, ⟨m, hm, hA2⟩, x6, x7, rfl⟩
          rw [List.getElem?_map] at hd
          cases hq : r[j]? with
          | none => rw [hq] at hd; cases hd
          | some x =>
            rw [hq] at hd; cases hd
            have hj := (List.getElem?_eq_some_iff.mp hq).1
            have htk2 : r.take (j + 1) = r.take j ++ [x] := by rw [List.take_succ, hq]; rfl
            have hml : m.length ≤ 39000 := by
              have h1 := hA2.len
              rw [List.length_append, List.length_take] at h1
              omega
            have eg := ev_dget2 (K := K) (ρ := [some T, some (.raw (.ref a)), some (.lst (Rws.map rowT)), x3, x4, some (rowT r), some (orgD x.1), some (.int x.2)]) (μ := μ2) (V' (d := .raw (.ref a)) 1) (V' (d := orgD x.1) 6) (ev_int (i := 0)) (.inr ⟨a, rfl, hm⟩) (orgK_of x.1)
            rw [hA2.get] at eg
            refine wg_tup rfl (wgs_cons (wg_name (wgs_cons (wg_name (wgs_nil ?_)))))
            refine pw_dput ((ev_add eg (V' 7)).go ((V' (d := .raw (.ref a)) 1).go ((V' (d := orgD x.1) 6).go ⟨a, m, orgK x.1, rfl, hm, orgK_of x.1, sz_lt (by omega), fun b hb => by rw [Mu.upd_ne hb]; exact fr2 b hb, ⟨_, Mu.upd_same, ?_⟩, some (orgD x.1), some (.int x.2), rfl⟩)))
            rw [htk2, ← List.append_assoc]
            exact hA2.add x.1 x.2
        · rintro ρ μ2 ⟨fr2, hA2, x6, x7, rfl⟩
          rw [List.length_map, List.take_length] at hA2
          exact ⟨fr2, by rw [htk]; exact hA2, some (rowT r), x6, x7, rfl⟩
    · rintro ρ μ2 ⟨fr2, ⟨m, hm, hA2⟩, x5, x6, x7, rfl⟩
      rw [List.length_map, List.take_length, hes] at hA2
      refine s_retS (V' 1) (μ0 := μ.upd a (.dct m)) (fun b o e => ?_) (q a m ha hA2)
      by_cases hb : b = a
      · subst hb
        rw [Mu.upd_same] at e
        rw [hm]; exact e
      · rw [Mu.upd_ne hb] at e
        rw [fr2 b hb]; exact e
end
end Hw
set_option Elab.async false
set_option linter.all false
set_option maxRecDepth 100000
set_option maxHeartbeats 4000000
/-! What water there is. -/
namespace Hw
open PySem PySem.Spec L2
theorem AmM.new {m : List (List Key × D)} {es : Row} (h : AmM m es) {o : Org} (v : Int) (hno : o ∉ es.map (·.1)) : AmM (put m (orgK o) (.int v)) (es ++ [(o, v)]) := by
  have := h.add o v
  rw [tot_none hno, Int.zero_add] at this
  exact this
def inRow (B : Basin) (k : Nat) (j : Nat) : Row := ((List.range j).map fun m => if 0 < B.inf (k, m) then [(Org.inn k m, B.inf (k, m))] else []).flatten
def heRow (B : Basin) (k : Nat) : Row := if 0 < (B.at k).held then [(Org.held k, (B.at k).held)] else []
def waRow (B : Basin) (i : Nat) : Row := ((List.range i).map fun k => heRow B k ++ inRow B k B.months).flatten
theorem waRow_all {B : Basin} : waRow B B.sites.length = esWater B := rfl
theorem flat_range_succ {α : Type} {f : Nat → List α} {n : Nat} : ((List.range (n + 1)).map f).flatten = ((List.range n).map f).flatten ++ f n := by
  rw [List.range_succ, List.map_append, List.flatten_append]
  show _ ++ [f n].flatten = _
  rw [List.flatten_cons, List.flatten_nil, List.append_nil]
theorem inRow_mem {B : Basin} {k j : Nat} {q : Org × Int} (h : q ∈ inRow B k j) : ∃ m, m < j ∧ q.1 = .inn k m := by
  obtain ⟨l, hl, hq⟩ := List.mem_flatten.mp h
  obtain ⟨m, hm, rfl⟩ := List.mem_map.mp hl
  by_cases z : 0 < B.inf (k, m)
  · rw [if_pos z, List.mem_singleton] at hq
    exact ⟨m, List.mem_range.mp hm, by rw [hq]⟩
  · rw [if_neg z] at hq; cases hq
theorem heRow_mem {B : Basin} {k : Nat} {q : Org × Int} (h : q ∈ heRow B k) : q.1 = .held k := by
  unfold heRow at h
  by_cases z : 0 < (B.at k).held
  · rw [if_pos z, List.mem_singleton] at h; rw [h]
  · rw [if_neg z] at h; cases h
theorem waRow_mem {B : Basin} {i : Nat} {q : Org × Int} (h : q ∈ waRow B i) : ∃ k, k < i ∧ (q.1 = .held k ∨ ∃ m, q.1 = .inn k m) := by
  obtain ⟨l, hl, hq⟩ := List.mem_flatten.mp h
  obtain ⟨k, hk, rfl⟩ := List.mem_map.mp hl
  refine ⟨k, List.mem_range.mp hk, ?_⟩
  rcases List.mem_append.mp hq with z | z
  · exact .inl (heRow_mem z)
  · obtain ⟨m, _, e⟩ := inRow_mem z
    exact .inr ⟨m, e⟩
theorem inRow_len {B : Basin} {k : Nat} : ∀ j, (inRow B k j).length ≤ j := fun j => by
  have h := flat_le ((List.range j).map fun m => if 0 < B.inf (k, m) then [(Org.inn k m, B.inf (k, m))] else []) (M := 1) (fun x hx => by
    obtain ⟨m, _, rfl⟩ := List.mem_map.mp hx
    split
    · exact Nat.le_refl _
    · exact Nat.zero_le _)
  rw [List.length_map, List.length_range, Nat.mul_one] at h
  exact h
theorem heRow_len {B : Basin} {k : Nat} : (heRow B k).length ≤ 1 := by
  unfold heRow
  split
  · exact Nat.le_refl _
  · exact Nat.zero_le _
theorem waRow_len {B : Basin} (ok : B.Ok) {i : Nat} (hi : i ≤ 3) : (waRow B i).length ≤ 15 := by
  have h := flat_le ((List.range i).map fun k => heRow B k ++ inRow B k B.months) (M := 5) (fun x hx => by
    obtain ⟨k, _, rfl⟩ := List.mem_map.mp hx
    have h1 := inRow_len (B := B) (k := k) B.months
    have h2 := heRow_len (B := B) (k := k)
    have h3 := ok.m4
    rw [List.length_append]; omega)
  rw [List.length_map, List.length_range] at h
  have : i * 5 ≤ 3 * 5 := Nat.mul_le_mul hi (Nat.le_refl _)
  show ((List.range i).map fun k => heRow B k ++ inRow B k B.months).flatten.length ≤ 15
  omega
section
variable {P : Program} {w : World} {K : PySem.W.Frag} {mg : Str → Option Value} {base : Heap}
theorem sc_law_water : FnScope ["_law_basin_here", "_law_found", "_law_k", "_law_m"] ["_law_basin_here"] (defScope s_law_water) := ⟨rfl, rfl, rfl, by decide +kernel, rfl, by decide +kernel, by decide +kernel⟩
-- _law_water: 0 _law_basin_here, 1 _law_found, 2 _law_k, 3 _law_m
def S_law_water : Spec := fun ds μ Q => ∃ (B : Basin), ds = [basinD B] ∧ B.Ok ∧ ∀ a m, μ a = none → AmM m (esWater B) → Q (.raw (.ref a)) (μ.upd a (.dct m))
theorem len_law_water : S_law_water.len 1 := fun ds μ Q h => by obtain ⟨_, rfl, _⟩ := h; rfl
theorem mono_law_water : Mono S_law_water := fun ds μ P P' f h => by obtain ⟨B, e, h1, q⟩ := h; exact ⟨B, e, h1, fun a m h1 h2 => f _ _ (q a m h1 h2)⟩
theorem c_law_water (Fx : Fx K mg) : Cal P w K mg base 1 "_law_water" S_law_water := by
  have hlen : Spec.len S_law_water 1 := len_law_water
  obtain ⟨fd, F⟩ := Fx.c.def_ 56 (d := d_law_water) rfl
  refine ⟨_, fd, ["_law_basin_here"], fnok F sc_law_water hlen (fun cdv A outer s H E hr => ?_), Fx.glo 38, F.kp, FunD.bindsN F fun _ _ _ _ _ _ us hl => match us, hl with | [_], _ => rfl⟩
  have hu := hu_of hr
  have nd := sc_law_water.nd
  refine ⟨_, (pss_cons (ps_set (i := 1) nd rfl (by first | exact Or.inl rfl | exact Or.inr rfl) pe_dnewT)
      (pss_cons (ps_for PassesOwn.never rfl (pi_range1 rfl (Fx.free 98) (pa_cons (pe_callB (k_len (K := K)) (by rfl) (Fx.free 97) PySem.boot_len (pa_cons (pe_ix (k_ix (K := K)) (pv 0) pe_int (fun _ _ => rfl)) pa_nil)) pa_nil)) (pg_name (i := 2) nd rfl (by first | exact Or.inl rfl | exact Or.inr rfl)) (pss_cons (ps_if (pt_cmpR op_gt (pe_ix (k_ix (K := K)) (pe_ix (k_ix (K := K)) (pe_ix (k_ix (K := K)) (pv 0) pe_int (fun _ _ => rfl)) (pv 2) (fun _ _ => rfl)) pe_int (fun _ _ => rfl)) pe_int (nomark _)) (pss_one (ps_dput hu (pv 1) (pe_tup (pa_cons pe_str (pa_cons (pv 2) pa_nil))) (pe_ix (k_ix (K := K)) (pe_ix (k_ix (K := K)) (pe_ix (k_ix (K := K)) (pv 0) pe_int (fun _ _ => rfl)) (pv 2) (fun _ _ => rfl)) pe_int (fun _ _ => rfl)) rfl)) pss_nil)
      (pss_one (ps_for PassesOwn.never rfl (pi_range1 rfl (Fx.free 98) (pa_cons (pe_ix (k_ix (K := K)) (pv 0) pe_int (fun _ _ => rfl)) pa_nil)) (pg_name (i := 3) nd rfl (by first | exact Or.inl rfl | exact Or.inr rfl)) (pss_one (ps_if (pt_cmpR op_gt (pe_ix (k_ix (K := K)) (pe_ix (k_ix (K := K)) (pe_ix (k_ix (K := K)) (pe_ix (k_ix (K := K)) (pv 0) pe_int (fun _ _ => rfl)) (pv 2) (fun _ _ => rfl)) pe_int (fun _ _ => rfl)) (pv 3) (fun _ _ => rfl)) pe_int (nomark _)) (pss_one (ps_dput hu (pv 1) (pe_tup (pa_cons pe_str (pa_cons (pv 2) (pa_cons (pv 3) pa_nil)))) (pe_ix (k_ix (K := K)) (pe_ix (k_ix (K := K)) (pe_ix (k_ix (K := K)) (pe_ix (k_ix (K := K)) (pv 0) pe_int (fun _ _ => rfl)) (pv 2) (fun _ _ => rfl)) pe_int (fun _ _ => rfl)) (pv 3) (fun _ _ => rfl)) rfl)) pss_nil))))))
      (pss_one (ps_ret (pv 1))))), fun ds μ Pq hS => ?_⟩
  obtain ⟨B, rfl, ok, q⟩ := hS
  have hm4 := ok.m4
  have hn3 := ok.n3
  refine q_newD fun a ha => ?_
  refine pw_seq (pw_for (fun i ρ μ' => (∀ b, b ≠ a → μ' b = μ b) ∧ AmT μ' a (waRow B i) ∧ ∃ x2 x3, ρ = [some (basinD B), some (.raw (.ref a)), x2, x3]) ?_)
  refine wi_rngE (n := B.sites.length) (ea_cons (ev_len (ev_ix (V' (d := basinD B) 0) ev_int) (.inl rfl)) ea_nil) (by omega) ⟨⟨fun b hb => Mu.upd_ne hb, ⟨[], Mu.upd_same, AmM.nil⟩, none, none, rfl⟩, fun _ _ _ _ => trivial, ?_, ?_⟩
  · rintro i d ρ μ1 hd ⟨fr, ⟨m, hm, hA⟩, x2, x3, rfl⟩
    obtain ⟨hi, rfl⟩ := rngD0 hd
    have hwl := waRow_len ok (i := i) (by omega)
    have hml := hA.len
    have es : Ev K (tOp (rIx K) (tOp (rIx K) (tOp (rIx K) (tVar 0) (tC (.int 1))) (tVar 2)) (tC (.int 5))) [some (basinD B), some (.raw (.ref a)), some (.int (i : Int)), x3] μ1 (.int (B.at i).held) := ev_ix (ev_ixN (ev_ix (V' (d := basinD B) 0) ev_int) (V' 2) (siteAt hi)) ev_int
    refine wg_name (pw_seq (PW.imp (Φ := fun o => ∃ μ2, o = .nx [some (basinD B), some (.raw (.ref a)), some (.int (i : Int)), x3] μ2 ∧ (∀ b, b ≠ a → μ2 b = μ b) ∧ AmT μ2 a (waRow B i ++ heRow B i)) ?_ ?_))
    · refine s_when (et_test (ev_gt es ev_int)) (fun h => ?_) (fun h => ?_)
      · have h := of_decide_eq_true h
        refine pw_dput (es.go ((V' (d := .raw (.ref a)) 1).go ((ev_tup (ea_cons ev_str (ea_cons (V' 2) ea_nil))).go ⟨a, m, orgK (.held i), rfl, hm, rfl, sz_lt (by omega), _, rfl, fun b hb => by rw [Mu.upd_ne hb]; exact fr b hb, ⟨_, Mu.upd_same, ?_⟩⟩)))
        have e : heRow B i = [(Org.held i, (B.at i).held)] := if_pos h
        rw [e]
        refine hA.new _ fun z => ?_
        obtain ⟨x, hx, ex⟩ := List.mem_map.mp z
        obtain ⟨k, hk, e2 | ⟨m2, e2⟩⟩ := waRow_mem hx
        · rw [e2] at ex; cases ex; omega
        · rw [e2] at ex; cases ex
      · have h := of_decide_eq_false h
        have e : heRow B i = [] := if_neg h
        exact ⟨μ1, rfl, fr, by rw [e, List.append_nil]; exact ⟨m, hm, hA⟩⟩
    · rintro o ⟨μ2, rfl, fr2, hA2⟩
      have hfl : waRow B (i + 1) = (waRow B i ++ heRow B i) ++ inRow B i B.months := by
        rw [List.append_assoc]
        exact flat_range_succ (f := fun k => heRow B k ++ inRow B k B.months)
      have hhl := heRow_len (B := B) (k := i)
      show PW K _ _ _ _
      refine pw_for (fun j ρ μ' => (∀ b, b ≠ a → μ' b = μ b) ∧ AmT μ' a ((waRow B i ++ heRow B i) ++ inRow B i j) ∧ ∃ x3, ρ = [some (basinD B), some (.raw (.ref a)), some (.int (i : Int)), x3]) ?_
      refine wi_rngE (n := B.months) (ea_cons (ev_ix (V' (d := basinD B) 0) ev_int) ea_nil) (by omega) ⟨⟨fr2, by rw [show inRow B i 0 = [] from rfl, List.append_nil]; exact hA2, x3, rfl⟩, fun _ _ _ _ => trivial, ?_, ?_⟩
      · rintro j d ρ μ3 hd ⟨fr3, ⟨m3, hm3, hA3⟩, x3, rfl⟩
        obtain ⟨hj, rfl⟩ := rngD0 hd
        have hil := inRow_len (B := B) (k := i) j
        have hml3 := hA3.len
        rw [List.length_append, List.length_append] at hml3
        have ev : Ev K (tOp (rIx K) (tOp (rIx K) (tOp (rIx K) (tOp (rIx K) (tVar 0) (tC (.int 1))) (tVar 2)) (tC (.int 6))) (tVar 3)) [some (basinD B), some (.raw (.ref a)), some (.int (i : Int)), some (.int (j : Int))] μ3 (.int (B.inf (i, j))) := ev_ixN (ev_ix (ev_ixN (ev_ix (V' (d := basinD B) 0) ev_int) (V' 2) (siteAt hi)) ev_int) (V' 3) (infAt ok ⟨hi, hj⟩)
        have hfj : inRow B i (j + 1) = inRow B i j ++ if 0 < B.inf (i, j) then [(Org.inn i j, B.inf (i, j))] else [] := flat_range_succ
        refine wg_name (s_when (et_test (ev_gt ev ev_int)) (fun h => ?_) (fun h => ?_))
        · have h := of_decide_eq_true h
          refine pw_dput (ev.go ((V' (d := .raw (.ref a)) 1).go ((ev_tup (ea_cons ev_str (ea_cons (V' 2) (ea_cons (V' 3) ea_nil)))).go ⟨a, m3, orgK (.inn i j), rfl, hm3, rfl, sz_lt (by omega), fun b hb => by rw [Mu.upd_ne hb]; exact fr3 b hb, ⟨_, Mu.upd_same, ?_⟩, some (.int (j : Int)), rfl⟩)))
          rw [hfj, if_pos h, ← List.append_assoc]
          refine hA3.new _ fun z => ?_
          obtain ⟨x, hx, ex⟩ := List.mem_map.mp z
          rcases List.mem_append.mp hx with y | y
          · rcases List.mem_append.mp y with y | y
            · obtain ⟨k, hk, e2 | ⟨m2, e2⟩⟩ := waRow_mem y
              · rw [e2] at ex; cases ex
              · rw [e2] at ex; cases ex; omega
            · rw [heRow_mem y] at ex; cases ex
          · obtain ⟨m2, hm2, e2⟩ := inRow_mem y
            rw [e2] at ex; cases ex; omega
        · have h := of_decide_eq_false h
          refine ⟨fr3, ?_, some (.int (j : Int)), rfl⟩
          rw [hfj, if_neg h, List.append_nil]
          exact ⟨m3, hm3, hA3⟩
      · rintro ρ μ3 ⟨fr3, hA3, x3, rfl⟩
        rw [rngD_len] at hA3
        exact ⟨fr3, by rw [hfl]; exact hA3, some (.int (i : Int)), x3, rfl⟩
  · rintro ρ μ2 ⟨fr2, ⟨m, hm, hA2⟩, x2, x3, rfl⟩
    rw [rngD_len, waRow_all] at hA2
    refine s_retS (V' 1) (μ0 := μ.upd a (.dct m)) (fun b o e => ?_) (q a m ha hA2)
    by_cases hb : b = a
    · subst hb
      rw [Mu.upd_same] at e
      rw [hm]; exact e
    · rw [Mu.upd_ne hb] at e
      rw [fr2 b hb]; exact e
end
end Hw
set_option Elab.async false
set_option linter.all false
set_option maxRecDepth 100000
set_option maxHeartbeats 4000000
/-! The law's draws. -/
namespace Hw
open PySem PySem.Spec L2
section
variable {K : PySem.W.Frag} {ρ : List (Option D)} {μ : Mu} {ta tb : TE} {i j : Int} {Φ : Out → Prop} {x : D} {ds : List D}
theorem ev_mulC (c : CMul i j) (ha : Ev K ta ρ μ (.int i)) (hb : Ev K tb ρ μ (.int j)) : Ev K (tOp (rI CMul fun i j => .int (i * j)) ta tb) ρ μ (.int (i * j)) := ev_op ha hb (ro_intC (f := fun i j => i * j) c ⟨rfl, rfl⟩)
theorem ev_modC (c : 0 < j) (ha : Ev K ta ρ μ (.int i)) (hb : Ev K tb ρ μ (.int j)) : Ev K (tOp (rI (fun _ j => 0 < j) fun i j => .int (i % j)) ta tb) ρ μ (.int (i % j)) := ev_op ha hb (ro_intC (f := fun i j => i % j) (C := fun _ j => 0 < j) c ⟨rfl, rfl⟩)
theorem ev_fdC (c : CDiv i j) (ha : Ev K ta ρ μ (.int i)) (hb : Ev K tb ρ μ (.int j)) : Ev K (tOp (rI CDiv fun i j => .int (i / j)) ta tb) ρ μ (.int (i / j)) := ev_op ha hb (ro_intC (f := fun i j => i / j) c ⟨rfl, rfl⟩)
theorem ev_powC (c : CPow i j) (ha : Ev K ta ρ μ (.int i)) (hb : Ev K tb ρ μ (.int j)) : Ev K (tOp (rI CPow fun i j => .int (i ^ j.toNat)) ta tb) ρ μ (.int (i ^ j.toNat)) := ev_op ha hb (ro_intC (f := fun i j => i ^ j.toNat) c ⟨rfl, rfl⟩)
theorem ev_intI (ha : Ev K ta ρ μ (.int i)) : Ev K (tCB rInt1 (tCons ta tNil)) ρ μ (.int i) := ev_cb (ea_cons ha ea_nil) (rb_int ⟨rfl, rfl⟩)
theorem ev_ixA {d : D} (ha : Ev K ta ρ μ x) (hb : Ev K tb ρ μ (.int i)) (hx : SqIn μ x ds) (h : atI ds i = some d) : Ev K (tOp (rIx K) ta tb) ρ μ d := ev_op ha hb (ro_ix hx h ⟨rfl, rfl⟩)
theorem cmulR (h : -(2 ^ 64) < j ∧ j < 2 ^ 64) : CMul i j := .inr h
theorem cmulL (h : -(2 ^ 64) < i ∧ i < 2 ^ 64) : CMul i j := .inl h
/-- o.append(e) as a statement -/
theorem s_appE {a : Addr} {d : D} (hx : Ev K ta ρ μ (.raw (.ref a))) (hd : Ev K tb ρ μ d) (hm : μ a = some (.lst ds)) (hz : ds.length < 100000) (k : Φ (.nx ρ (μ.upd a (.lst (ds ++ [d]))))) : PW K (tDrop (tBM K "list" rAppend ta (tCons tb tNil))) ρ μ Φ :=
  pw_drop (we_append (hx.go ⟨a, ds, rfl, hm, hd.go ⟨ds, hm, sz_lt hz, k⟩⟩))
end
section
variable {P : Program} {w : World} {K : PySem.W.Frag} {mg : Str → Option Value} {base : Heap}
theorem sc_law_cell : FnScope ["_law_script", "_law_k"] ["_law_script", "_law_k"] (defScope s_law_cell) := ⟨rfl, rfl, rfl, by decide +kernel, rfl, by decide +kernel, by decide +kernel⟩
-- _law_cell: 0 _law_script, 1 _law_k
def S_law_cell : Spec := fun ds μ Q => ∃ (ns : List Int) (k : Nat), ds = [.sq (ns.map .int), .int (k : Int)] ∧ ns.length ≤ 63 ∧ Q (.int ((ns[k]?).getD 0)) μ
theorem len_law_cell : S_law_cell.len 2 := fun ds μ Q h => by obtain ⟨_, _, rfl, _⟩ := h; rfl
theorem mono_law_cell : Mono S_law_cell := fun ds μ P P' f h => by obtain ⟨B, R, e, h1, q⟩ := h; exact ⟨B, R, e, h1, f _ _ q⟩
theorem c_law_cell (Fx : Fx K mg) : Cal P w K mg base 1 "_law_cell" S_law_cell := by
  have hlen : Spec.len S_law_cell 2 := len_law_cell
  obtain ⟨fd, F⟩ := Fx.c.def_ 41 (d := d_law_cell) rfl
  refine ⟨_, fd, ["_law_script", "_law_k"], fnok F sc_law_cell hlen (fun cdv A outer s H E hr => ?_), Fx.glo 23, F.kp, FunD.bindsN F fun _ _ _ _ _ _ us hl => match us, hl with | [_, _], _ => rfl⟩
  have hu := hu_of hr
  have nd := sc_law_cell.nd
  refine ⟨_, (pss_cons (ps_if (pt_cmpR op_lt (pv 1) (pe_callB (k_len (K := K)) (by rfl) (Fx.free 97) PySem.boot_len (pa_cons (pv 0) pa_nil)) (nomark _)) (pss_one (ps_ret (pe_ix (k_ix (K := K)) (pv 0) (pv 1) (fun _ _ => rfl)))) pss_nil)
      (pss_one (ps_ret pe_int))), fun ds μ Pq hS => ?_⟩
  obtain ⟨ns, k, rfl, hl, q⟩ := hS
  refine q_when (et_test (ev_lt (V' 1) (ev_len (n := ns.length) (V' 0) (.inr (.inl rfl)) (by simp)))) (fun h => ?_) (fun h => ?_)
  · have h := of_decide_eq_true h
    have hk : k < ns.length := by omega
    refine s_retT (ev_op (V' 0) (V' 1) (ro_ixN (.inr (.inl rfl)) (i := k) (d := .int ((ns[k]?).getD 0)) ?_ ⟨rfl, rfl⟩)) q
    rw [List.getElem?_map, List.getElem?_eq_getElem hk]; rfl
  · have h := of_decide_eq_false h
    have hk : ns.length ≤ k := by omega
    rw [List.getElem?_eq_none hk] at q
    exact s_ret ev_int q
theorem sc_law_draw : FnScope ["_law_box", "_law_many", "_law_at"] ["_law_box", "_law_many"] (defScope s_law_draw) := ⟨rfl, rfl, rfl, by decide +kernel, rfl, by decide +kernel, by decide +kernel⟩
-- _law_draw: 0 _law_box, 1 _law_many, 2 _law_at
def Box (μ : Mu) (b : Addr) : Prop := ∃ (is : List Int) (k : Nat), is.length ≤ 3600 ∧ μ b = some (.lst [.lst (is.map .int), .int (k : Int)])
def S_law_draw : Spec := fun ds μ Q => ∃ (b : Addr) (n : Nat), ds = [.raw (.ref b), .int (n : Int)] ∧ 0 < n ∧ n < 1000 ∧ Box μ b ∧ ∀ (v : Nat) μ', v < n → (∀ c, c ≠ b → μ' c = μ c) → Box μ' b → Q (.int (v : Int)) μ'
theorem len_law_draw : S_law_draw.len 2 := fun ds μ Q h => by obtain ⟨_, _, rfl, _⟩ := h; rfl
theorem mono_law_draw : Mono S_law_draw := fun ds μ P P' f h => by obtain ⟨B, R, e, h1, h2, h3, q⟩ := h; exact ⟨B, R, e, h1, h2, h3, fun v μ' a b c => f _ _ (q v μ' a b c)⟩
theorem c_law_draw (Fx : Fx K mg) : Cal P w K mg base 1 "_law_draw" S_law_draw := by
  have hlen : Spec.len S_law_draw 2 := len_law_draw
  obtain ⟨fd, F⟩ := Fx.c.def_ 43 (d := d_law_draw) rfl
  refine ⟨_, fd, ["_law_box", "_law_many"], fnok F sc_law_draw hlen (fun cdv A outer s H E hr => ?_), Fx.glo 25, F.kp, FunD.bindsN F fun _ _ _ _ _ _ us hl => match us, hl with | [_, _], _ => rfl⟩
  have hu := hu_of hr
  have nd := sc_law_draw.nd
  refine ⟨_, (pss_cons (ps_set (i := 2) nd rfl (by first | exact Or.inl rfl | exact Or.inr rfl) (pe_ix (k_ix (K := K)) (pv 0) pe_int (fun _ _ => rfl)))
      (pss_cons (ps_asg (pe_op op_add (pv 2) pe_int) (pg_sub (pv 0) pe_int set_list))
      (pss_cons (ps_if (pt_cmpR op_lt (pv 2) (pe_callB (k_len (K := K)) (by rfl) (Fx.free 97) PySem.boot_len (pa_cons (pe_ix (k_ix (K := K)) (pv 0) pe_int (fun _ _ => rfl)) pa_nil)) (nomark _)) (pss_one (ps_ret (pe_op op_mod (pe_callTy call_intA (by rfl) (Fx.free 106) (by decide +kernel) (pa_cons (pe_ix (k_ix (K := K)) (pe_ix (k_ix (K := K)) (pv 0) pe_int (fun _ _ => rfl)) (pv 2) (fun _ _ => rfl)) pa_nil)) (pv 1)))) pss_nil)
      (pss_one (ps_ret (pe_op op_mod (pe_callTy call_intA (by rfl) (Fx.free 106) (by decide +kernel) (pa_cons (pe_op op_add (pe_op op_mul (pv 2) pe_int) pe_int) pa_nil)) (pv 1))))))), fun ds μ Pq hS => ?_⟩
  obtain ⟨b, n, rfl, h1, h2, ⟨is, k, hz, hb⟩, q⟩ := hS
  refine q_set (d := .int (k : Int)) (ev_ixA (V' 0) ev_int (.inr (.inr (.inr ⟨b, rfl, hb⟩))) rfl) ?_
  refine pw_seq (pw_asg ((ev_add (V' 2) ev_int).go (wg_subL ((V' 0).go (ev_int.go ⟨b, _, 1, 1, rfl, rfl, hb, rfl, ?_⟩)))))
  generalize hμ1 : μ.upd b (.lst (([.lst (is.map .int), .int (k : Int)] : List D).set 1 (.int ((k : Int) + 1)))) = μ1
  have hb1 : μ1 b = some (.lst [.lst (is.map .int), .int ((k + 1 : Nat) : Int)]) := by
    rw [← hμ1, Mu.upd_same]; rfl
  have fr : ∀ c, c ≠ b → μ1 c = μ c := fun c hc => by rw [← hμ1, Mu.upd_ne hc]
  have fin : ∀ i : Int, Pq (.int (i % (n : Int))) μ1 := fun i => by
    have e1 := Int.emod_nonneg i (b := (n : Int)) (by omega)
    have e2 := Int.emod_lt_of_pos i (b := (n : Int)) (by omega)
    have e3 : i % (n : Int) = ((i % (n : Int)).toNat : Int) := by omega
    rw [e3]
    exact q _ μ1 (by omega) fr ⟨is, k + 1, hz, hb1⟩
  have e0 : ∀ {ρ : List (Option D)}, ρ[0]? = some (some (.raw (.ref b))) → Ev K (tOp (rIx K) (tVar 0) (tC (.int 0))) ρ μ1 (.lst (is.map .int)) := fun h => ev_ixA (ev_var h) ev_int (.inr (.inr (.inr ⟨b, rfl, hb1⟩))) rfl
  refine q_when (et_test (ev_lt (V' 2) (ev_len (n := is.length) (e0 rfl) (.inr (.inr (.inl rfl))) (by simp)))) (fun h => ?_) (fun h => ?_)
  · have h := of_decide_eq_true h
    have hk : k < is.length := by omega
    refine s_retT (ev_modC (by omega) (ev_intI (ev_ixA (d := .int (is[k]'hk)) (e0 rfl) (V' 2) (.inr (.inr (.inl rfl))) (atI_n ?_))) (V' 1)) (fin _)
    rw [List.getElem?_map, List.getElem?_eq_getElem hk]; rfl
  · exact s_ret (ev_modC (by omega) (ev_intI (ev_add (ev_mulC (cmulR (by decide)) (V' 2) ev_int) ev_int)) (V' 1)) (fin _)
theorem sc_law_digits : FnScope ["_law_script", "_law_first", "_law_last", "_law_digits_here", "_law_k", "_law_cell_here", "_law_place", "_law_seed"] ["_law_script", "_law_first", "_law_last"] (defScope s_law_digits) := ⟨rfl, rfl, rfl, by decide +kernel, rfl, by decide +kernel, by decide +kernel⟩
-- _law_digits: 0 _law_script, 1 _law_first, 2 _law_last, 3 _law_digits_here, 4 _law_k, 5 _law_cell_here, 6 _law_place, 7 _law_seed
def S_law_digits : Spec := fun ds μ Q => ∃ (ns : List Int), ds = [.sq (ns.map .int), .int 0, .int 60] ∧ ns.length ≤ 63 ∧ ∀ is : List Int, is.length ≤ 3600 → Q (.lst (is.map .int)) μ
theorem len_law_digits : S_law_digits.len 3 := fun ds μ Q h => by obtain ⟨_, rfl, _⟩ := h; rfl
theorem mono_law_digits : Mono S_law_digits := fun ds μ P P' f h => by obtain ⟨B, e, h1, q⟩ := h; exact ⟨B, e, h1, fun is h => f _ _ (q is h)⟩
theorem c_law_digits (Fx : Fx K mg) : Cal P w K mg base 2 "_law_digits" S_law_digits := by
  have hlen : Spec.len S_law_digits 3 := len_law_digits
  obtain ⟨fd, F⟩ := Fx.c.def_ 42 (d := d_law_digits) rfl
  refine ⟨_, fd, ["_law_script", "_law_first", "_law_last"], fnok F sc_law_digits hlen (fun cdv A outer s H E hr => ?_), Fx.glo 24, F.kp, FunD.bindsN F fun _ _ _ _ _ _ us hl => match us, hl with | [_, _, _], _ => rfl⟩
  have hu := hu_of hr
  have nd := sc_law_digits.nd
  refine ⟨_, (pss_cons (ps_set (i := 3) nd rfl (by first | exact Or.inl rfl | exact Or.inr rfl) (pe_lst pa_nil))
      (pss_cons (ps_for PassesOwn.never rfl (pi_range2 rfl (Fx.free 98) (pa_cons (pv 1) (pa_cons (pv 2) pa_nil))) (pg_name (i := 4) nd rfl (by first | exact Or.inl rfl | exact Or.inr rfl)) (pss_cons (ps_set (i := 5) nd rfl (by first | exact Or.inl rfl | exact Or.inr rfl) (k_cal (c_law_cell Fx) hr (by decide) rfl (pa_cons (pv 0) (pa_cons (pv 4) pa_nil))))
      (pss_cons (ps_if (pt_cmpR op_lt (pv 5) pe_int (nomark _)) (pss_one (ps_set (i := 5) nd rfl (by first | exact Or.inl rfl | exact Or.inr rfl) (pe_op op_sub pe_int (pe_op op_mul pe_int (pv 5))))) pss_nil)
      (pss_one (ps_if (pt_cmpR op_ge (pv 5) (pe_op op_pow pe_int pe_int) (nomark _)) (pss_one (ps_for PassesOwn.never rfl (pi_range1 rfl (Fx.free 98) (pa_cons pe_int pa_nil)) (pg_name (i := 6) nd rfl (by first | exact Or.inl rfl | exact Or.inr rfl)) (pss_one (ps_if (pt_cmpR op_gt (pv 5) pe_int (nomark _)) (pss_cons (ps_expr (pe_bm PySem.F.plainAttrs_list PySem.F.slot_list_append PySem.F.type_list_append mt_append (pv 3) (pa_cons (pe_op op_mod (pe_callTy call_intA (by rfl) (Fx.free 106) (by decide +kernel) (pa_cons (pv 5) pa_nil)) pe_int) pa_nil)))
      (pss_one (ps_set (i := 5) nd rfl (by first | exact Or.inl rfl | exact Or.inr rfl) (pe_op op_fdiv (pv 5) pe_int)))) pss_nil)))) (pss_cons (ps_set (i := 7) nd rfl (by first | exact Or.inl rfl | exact Or.inr rfl) (pe_op op_mod (pe_callTy call_intA (by rfl) (Fx.free 106) (by decide +kernel) (pa_cons (pe_op op_add (pe_op op_add (pe_op op_mul (pv 5) pe_int) (pe_op op_mul (pv 4) pe_int)) pe_int) pa_nil)) pe_int))
      (pss_one (ps_for PassesOwn.never rfl (pi_range1 rfl (Fx.free 98) (pa_cons pe_int pa_nil)) (pg_name (i := 6) nd rfl (by first | exact Or.inl rfl | exact Or.inr rfl)) (pss_cons (ps_set (i := 7) nd rfl (by first | exact Or.inl rfl | exact Or.inr rfl) (pe_op op_mod (pe_callTy call_intA (by rfl) (Fx.free 106) (by decide +kernel) (pa_cons (pe_op op_add (pe_op op_add (pe_op op_mul (pv 7) pe_int) (pe_op op_mul pe_int (pv 6))) pe_int) pa_nil)) pe_int))
      (pss_one (ps_expr (pe_bm PySem.F.plainAttrs_list PySem.F.slot_list_append PySem.F.type_list_append mt_append (pv 3) (pa_cons (pe_op op_mod (pe_callTy call_intA (by rfl) (Fx.free 106) (by decide +kernel) (pa_cons (pe_op op_fdiv (pv 7) pe_int) pa_nil)) pe_int) pa_nil)))))))))))))
      (pss_one (ps_ret (pv 3))))), fun ds μ Pq hS => ?_⟩
  obtain ⟨ns, rfl, hl, q⟩ := hS
  refine pw_seq (pw_set (we_lstN (ea_nil.go ⟨by decide, fun a ha => ?_⟩)))
  refine pw_seq (pw_for (fun i ρ μ' => (∃ is : List Int, μ' = μ.upd a (.lst (is.map .int)) ∧ is.length ≤ 60 * i) ∧ ∃ x4 x5 x6 x7, ρ = [some (.sq (ns.map .int)), some (.int 0), some (.int 60), some (.raw (.ref a)), x4, x5, x6, x7]) ?_)
  refine wi_rng2 (m := 0) (n := 60) (ea_cons (V' 1) (ea_cons (V' 2) ea_nil)) (by omega) ⟨⟨⟨[], rfl, by simp⟩, none, none, none, none, rfl⟩, fun _ _ _ _ => trivial, ?_, ?_⟩
  · rintro i d ρ μ1 hd ⟨⟨is, rfl, his⟩, x4, x5, x6, x7, rfl⟩
    obtain ⟨hi, rfl⟩ := rngD_get hd
    have hi : i < 60 := hi
    rw [Int.zero_add]
    refine wg_name (q_set (ev_call (ea_cons (V' 0) (ea_cons (V' 4) ea_nil)) ⟨ns, i, rfl, hl, rfl, rfl⟩ mono_law_cell) ?_)
    generalize (ns[i]?).getD 0 = c
    refine pw_seq (PW.imp (Φ := fun o => ∃ c : Int, o = .nx [some (.sq (ns.map .int)), some (.int 0), some (.int 60), some (.raw (.ref a)), some (.int (i : Int)), some (.int c), x6, x7] (μ.upd a (.lst (is.map .int)))) (s_when (et_test (ev_lt (V' 5) ev_int)) (fun _ => s_set (ev_sub ev_int (ev_mulC (cmulL (by decide)) ev_int (V' 5))) ⟨_, rfl⟩) (fun _ => ⟨_, rfl⟩)) ?_)
    rintro o ⟨c, rfl⟩
    show PW K _ _ _ _
    refine pw_ifE (et_test (ev_ge (V' 5) (ev_powC (i := 10) (j := 18) ⟨by decide, by decide, by decide⟩ ev_int ev_int))) (fun _ => ?_) (fun _ => ?_)
    · refine pw_for (fun j ρ μ' => (∃ is : List Int, μ' = μ.upd a (.lst (is.map .int)) ∧ is.length ≤ 60 * i + j) ∧ ∃ (c : Int) (x6 : Option D), ρ = [some (.sq (ns.map .int)), some (.int 0), some (.int 60), some (.raw (.ref a)), some (.int (i : Int)), some (.int c), x6, x7]) ?_
      refine wi_rngE (n := 60) (ea_cons ev_int ea_nil) (by omega) ⟨⟨⟨is, rfl, his⟩, c, x6, rfl⟩, fun _ _ _ _ => trivial, ?_, ?_⟩
      · rintro j d ρ μ2 hd ⟨⟨is, rfl, his⟩, c, x6, rfl⟩
        obtain ⟨hj, rfl⟩ := rngD0 hd
        refine wg_name (s_when (et_test (ev_gt (V' 5) ev_int)) (fun _ => ?_) (fun _ => ⟨⟨is, rfl, by omega⟩, c, _, rfl⟩))
        refine q_app (V' 3) Mu.upd_same (ev_modC (i := c) (j := 1000) (by decide) (ev_intI (V' 5)) ev_int) (sz_lt (by rw [List.length_map]; omega)) (s_set (ev_fdC (i := c) (j := 1000) ⟨by decide, by decide⟩ (V' 5) ev_int) ⟨⟨is ++ [c % 1000], ?_, by rw [List.length_append]; show _ + 1 ≤ _; omega⟩, _, _, rfl⟩)
        rw [Mu.upd_upd, List.map_append]; rfl
      · rintro ρ μ2 ⟨⟨is, rfl, his⟩, c, x6, rfl⟩
        rw [rngD_len] at his
        exact ⟨⟨is, rfl, by omega⟩, _, _, _, _, rfl⟩
    · refine q_set (ev_modC (j := 2147483647) (by decide) (ev_intI (ev_add (ev_add (ev_mulC (j := 48271) (cmulR (by decide)) (V' 5) ev_int) (ev_mulC (j := 69621) (cmulR (by decide)) (V' 4) ev_int)) ev_int)) ev_int) ?_
      generalize ((c * 48271 + (i : Int) * 69621 + 11) % 2147483647) = sd
      refine pw_for (fun j ρ μ' => (∃ is : List Int, μ' = μ.upd a (.lst (is.map .int)) ∧ is.length ≤ 60 * i + j) ∧ ∃ (sd : Int) (x6 : Option D), ρ = [some (.sq (ns.map .int)), some (.int 0), some (.int 60), some (.raw (.ref a)), some (.int (i : Int)), some (.int c), x6, some (.int sd)]) ?_
      refine wi_rngE (n := 12) (ea_cons ev_int ea_nil) (by omega) ⟨⟨⟨is, rfl, his⟩, sd, x6, rfl⟩, fun _ _ _ _ => trivial, ?_, ?_⟩
      · rintro j d ρ μ2 hd ⟨⟨is, rfl, his⟩, sd, x6, rfl⟩
        obtain ⟨hj, rfl⟩ := rngD0 hd
        refine wg_name (q_set (ev_modC (j := 2147483647) (by decide) (ev_intI (ev_add (ev_add (ev_mulC (j := 16807) (cmulR (by decide)) (V' 7) ev_int) (ev_mulC (i := 7) (cmulL (by decide)) ev_int (V' 6))) ev_int)) ev_int) ?_)
        generalize ((sd * 16807 + 7 * (j : Int) + 1) % 2147483647) = sd
        refine s_app (V' 3) Mu.upd_same (ev_modC (i := sd / 997) (j := 1000) (by decide) (ev_intI (ev_fdC (i := sd) (j := 997) ⟨by decide, by decide⟩ (V' 7) ev_int)) ev_int) (sz_lt (by rw [List.length_map]; omega)) ⟨⟨is ++ [(sd / 997) % 1000], ?_, by rw [List.length_append]; show _ + 1 ≤ _; omega⟩, _, _, rfl⟩
        rw [Mu.upd_upd, List.map_append]; rfl
      · rintro ρ μ2 ⟨⟨is, rfl, his⟩, sd, x6, rfl⟩
        rw [rngD_len] at his
        exact ⟨⟨is, rfl, by omega⟩, _, _, _, _, rfl⟩
  · rintro ρ μ2 ⟨⟨is, rfl, his⟩, x4, x5, x6, x7, rfl⟩
    rw [rngD_len] at his
    refine pw_freezeL (i := 3) (a := a) rfl Mu.upd_same (s_retS (V' 3) (fun b o e => ?_) (q is his))
    have hb : b ≠ a := fun z => by rw [z, ha] at e; cases e
    show (if b = a then none else _) = _
    rw [if_neg hb, Mu.upd_ne hb]; exact e
end
end Hw
set_option Elab.async false
set_option linter.all false
set_option maxRecDepth 100000
set_option maxHeartbeats 4000000
/-! The drawn basin. -/
namespace Hw
open PySem PySem.Spec L2
/-- all but b as before -/
def FrB (b : Addr) (μ μ' : Mu) : Prop := ∀ c, c ≠ b → μ' c = μ c
theorem FrB.refl {b : Addr} {μ : Mu} : FrB b μ μ := fun _ _ => rfl
theorem FrB.trans {b : Addr} {μ μ' μ2 : Mu} (h : FrB b μ μ') (g : FrB b μ' μ2) : FrB b μ μ2 := fun c hc => (g c hc).trans (h c hc)
section
variable {K : PySem.W.Frag} {ρ : List (Option D)} {μ : Mu} {ta tb te tn tx : TE} {i j : Nat} {Φ : Out → Prop} {x : D} {ds : List D} {Q : D → Mu → Prop} {b : Addr} {n : Nat}
theorem we_draw (hb : Ev K tb ρ μ (.raw (.ref b))) (hn : Ev K tn ρ μ (.int (n : Int))) (B : Box μ b) (k : ∀ (v : Nat) μ', v < n → FrB b μ μ' → Box μ' b → Q (.int (v : Int)) μ') (h1 : 0 < n := by decide) (h2 : n < 1000 := by decide) : WE K (tCall (lift K S_law_draw) [] E0 (tCons tb (tCons tn tNil))) ρ μ Q :=
  we_call ((ea_cons hb (ea_cons hn ea_nil)).go ⟨b, n, rfl, h1, h2, B, fun v μ' a f g => k v μ' a f g⟩) mono_law_draw
theorem we_addI {c : Int} (ha : Ev K ta ρ μ (.int c)) (hb : WE K tb ρ μ fun d μ' => ∃ v : Int, d = .int v ∧ Q (.int (c + v)) μ') : WE K (tOp (rI0 fun i j => .int (i + j)) ta tb) ρ μ Q :=
  we_op (ha.go (hb.imp fun d μ' h => by
    obtain ⟨v, rfl, q⟩ := h
    exact ro_int (f := fun i j => i + j) q))
/-- a list of drawn numbers -/
theorem we_draws {m : Nat} {vs : List Nat} {t : TA} (h : EvA K t ρ μ [.int (m : Int)]) (hm : m ≤ 1000) (B : Box μ b) (he : ∀ (i : Nat) μ', i < m → FrB b μ μ' → Box μ' b → WE K te ((wipeR ρ vs).set j (some (.int (i : Int)))) μ' fun d μ2 => ∃ v : Nat, v < n ∧ d = .int (v : Int) ∧ FrB b μ' μ2 ∧ Box μ2 b)
    (k : ∀ (xs : List Int) μ', xs.length = m → (∀ y ∈ xs, 0 ≤ y ∧ y < (n : Int)) → FrB b μ μ' → Box μ' b → Q (.lst (xs.map .int)) μ') (hg : j ∈ vs := by simp) : WE K (tLc (iRng1 t) (gName j) tYes te vs) ρ μ Q := by
  refine we_lc (fun i acc μ' => ∃ xs : List Int, acc = xs.map .int ∧ xs.length = i ∧ (∀ y ∈ xs, 0 ≤ y ∧ y < (n : Int)) ∧ FrB b μ μ' ∧ Box μ' b) (gok_name hg) (wi_rngE (n := m) h (by omega) ⟨⟨[], rfl, rfl, fun y hy => (by cases hy), .refl, B⟩, fun i acc μ' h => ⟨trivial, ?_⟩, sz_of (by rw [rngD_len]; omega), ?_, ?_⟩)
  · obtain ⟨xs, rfl, h1, _⟩ := h
    rw [List.length_map]; omega
  · rintro i d acc μ' hd ⟨xs, rfl, h1, h2, h3, h4⟩
    obtain ⟨hi, rfl⟩ := rngD0 hd
    refine wg_name (WT.yes ⟨fun _ => (he i μ' hi h3 h4).imp ?_, fun h => by cases h⟩)
    rintro d μ2 ⟨v, hv, rfl, h5, h6⟩
    refine ⟨xs ++ [(v : Int)], by rw [List.map_append]; rfl, by rw [List.length_append]; show xs.length + 1 = _; omega, fun y hy => ?_, h3.trans h5, h6⟩
    rcases List.mem_append.mp hy with z | z
    · exact h2 y z
    · rw [List.mem_singleton] at z; rw [z]; omega
  · rintro acc μ' ⟨xs, rfl, h1, h2, h3, h4⟩
    rw [rngD_len] at h1
    exact k xs μ' h1 h2 h3 h4
theorem we_tupleOf (h : WE K ta ρ μ fun d μ' => ∃ ds, LstIn μ' d ds ∧ Q (.tup ds) μ') : WE K (tCB (rTupleOf K) (tCons ta tNil)) ρ μ Q := we_cb (wa_cons (h.imp fun d μ' g => by
  obtain ⟨ds, h1, h2⟩ := g
  exact wa_nil (rb_tuple h1 h2)))
/-- a written list, indexed -/
theorem we_pick {t : TA} {Q : D → Mu → Prop} (h : WA K t ρ μ fun ds μ' => ds.length ≤ sizeLine ∧ WE K tx ρ μ' fun y μ2 => ∃ (i : Nat) (d : D), y = .int (i : Int) ∧ ds[i]? = some d ∧ Q d μ2) : WE K (tOp (rIx K) (tLst t) tx) ρ μ Q :=
  we_op (we_lst (h.imp fun ds μ' g => ⟨g.1, g.2.imp fun y μ2 z => by
    obtain ⟨i, d, rfl, h1, h2⟩ := z
    exact ro_ix (.inr (.inr (.inl rfl))) (atI_n h1) h2⟩))
end
section
variable {K : PySem.W.Frag} {ρ : List (Option D)} {μ : Mu} {ta tb : TE} {Q : D → Mu → Prop}
/-- 's' + 'abcd'[i] -/
theorem we_nm (hb : WE K tb ρ μ fun d μ' => ∃ k : Nat, k < 4 ∧ d = .int (k : Int) ∧ Q (.str (nm k)) μ') : WE K (tOp rAddS (tC (.str "s")) (tOp (rIx K) (tC (.str "abcd")) tb)) ρ μ Q := by
  refine we_op (ev_str.go (we_op (ev_str.go (hb.imp fun d μ' h => ?_))))
  obtain ⟨k, hk, rfl, q⟩ := h
  refine ro_ixStr (c := 97 + k) (by decide +kernel) ?_ (ro_addS ?_ ?_)
  · have : ((("abcd" : Str).cps).toList)[k]? = some (97 + k) := by
      match k, hk with
      | 0, _ => decide +kernel
      | 1, _ => decide +kernel
      | 2, _ => decide +kernel
      | 3, _ => decide +kernel
    exact atI_n this
  · show (1 : Nat) + 1 ≤ sizeLine
    decide
  · have : (("s" : Str) ++ (⟨#[97 + k]⟩ : Str)) = nm k := by
      match k, hk with
      | 0, _ => decide +kernel
      | 1, _ => decide +kernel
      | 2, _ => decide +kernel
      | 3, _ => decide +kernel
    rw [this]; exact q
end
section
variable {P : Program} {w : World} {K : PySem.W.Frag} {mg : Str → Option Value} {base : Heap}
theorem sc_law_demands : FnScope ["_law_box", "_law_months", "_law_m"] ["_law_box", "_law_months"] (defScope s_law_demands) := ⟨rfl, rfl, rfl, by decide +kernel, rfl, by decide +kernel, by decide +kernel⟩
-- _law_demands: 0 _law_box, 1 _law_months, 2 _law_m
def S_law_demands : Spec := fun ds μ Q => ∃ (b : Addr) (m : Nat), ds = [.raw (.ref b), .int (m : Int)] ∧ m ≤ 100 ∧ Box μ b ∧ ∀ xs μ', xs.length = m → (∀ y ∈ xs, (0 : Int) ≤ y ∧ y < 7) → FrB b μ μ' → Box μ' b → Q (intsD xs) μ'
theorem len_law_demands : S_law_demands.len 2 := fun ds μ Q h => by obtain ⟨_, _, rfl, _⟩ := h; rfl
theorem mono_law_demands : Mono S_law_demands := fun ds μ P P' f h => by obtain ⟨b, m, e, h1, h2, q⟩ := h; exact ⟨b, m, e, h1, h2, fun xs μ' a1 a2 a3 a4 => f _ _ (q xs μ' a1 a2 a3 a4)⟩
theorem c_law_demands (Fx : Fx K mg) : Cal P w K mg base 2 "_law_demands" S_law_demands := by
  have hlen : Spec.len S_law_demands 2 := len_law_demands
  obtain ⟨fd, F⟩ := Fx.c.def_ 46 (d := d_law_demands) rfl
  refine ⟨_, fd, ["_law_box", "_law_months"], fnok F sc_law_demands hlen (fun cdv A outer s H E hr => ?_), Fx.glo 28, F.kp, FunD.bindsN F fun _ _ _ _ _ _ us hl => match us, hl with | [_, _], _ => rfl⟩
  have hu := hu_of hr
  have nd := sc_law_demands.nd
  refine ⟨_, (pss_one (ps_ret (pe_callTy (k_tuple (K := K)) (by rfl) (Fx.free 101) (by decide +kernel) (pa_cons (pe_lc (own := [("_law_m", 2)]) (g := (gName 2)) (tt := tYes) rfl nd (pi_range1 rfl (Fx.free 98) (pa_cons (pv 1) pa_nil)) (blkOk_by (by kernel_rfl)) (fun _ _ _ _ _ => by exact (pg_name (i := 2) nd rfl (by first | exact Or.inl rfl | exact Or.inr rfl))) (fun _ _ _ _ _ => by exact pts_nil) (fun _ _ _ _ _ => by exact (k_cal (c_law_draw Fx) hr (by decide) rfl (pa_cons (pv 0) (pa_cons pe_int pa_nil))))) pa_nil)))), fun ds μ Pq hS => ?_⟩
  obtain ⟨b, m, rfl, hm, hB, q⟩ := hS
  refine pw_ret (we_tupleOf (we_draws (n := 7) (b := b) (ea_cons (V' 1) ea_nil) (by omega) hB (fun i μ' _ _ B' => we_draw (n := 7) (V' 0) ev_int B' fun v μ2 hv f g => ⟨v, hv, rfl, f, g⟩) fun xs μ' h1 h2 h3 h4 => ⟨xs.map .int, .inl rfl, μ', Mu.sub.refl _, q xs μ' h1 h2 h3 h4⟩))
theorem sc_law_basin : FnScope ["_law_box", "_law_many", "_law_months", "_law_sites", "_law_k", "_law_other", "_law_travel", "_law_reach", "_law_room", "_law_held", "_law_m"] ["_law_box"] (defScope s_law_basin) := ⟨rfl, rfl, rfl, by decide +kernel, rfl, by decide +kernel, by decide +kernel⟩
-- _law_basin: 0 _law_box, 1 _law_many, 2 _law_months, 3 _law_sites, 4 _law_k, 5 _law_other, 6 _law_travel, 7 _law_reach, 8 _law_room, 9 _law_held, 10 _law_m
def S_law_basin : Spec := fun ds μ Q => ∃ (b : Addr), ds = [.raw (.ref b)] ∧ Box μ b ∧ ∀ (B : Basin) μ', B.Ok → FrB b μ μ' → Box μ' b → Q (basinD B) μ'
theorem len_law_basin : S_law_basin.len 1 := fun ds μ Q h => by obtain ⟨_, rfl, _⟩ := h; rfl
theorem mono_law_basin : Mono S_law_basin := fun ds μ P P' f h => by obtain ⟨b, e, h1, q⟩ := h; exact ⟨b, e, h1, fun B μ' a1 a2 a3 => f _ _ (q B μ' a1 a2 a3)⟩
theorem c_law_basin (Fx : Fx K mg) : Cal P w K mg base 2 "_law_basin" S_law_basin := by
  have hlen : Spec.len S_law_basin 1 := len_law_basin
  obtain ⟨fd, F⟩ := Fx.c.def_ 45 (d := d_law_basin) rfl
  refine ⟨_, fd, ["_law_box"], fnok F sc_law_basin hlen (fun cdv A outer s H E hr => ?_), Fx.glo 27, F.kp, FunD.bindsN F fun _ _ _ _ _ _ us hl => match us, hl with | [_], _ => rfl⟩
  have hu := hu_of hr
  have nd := sc_law_basin.nd
  refine ⟨_, (pss_cons (ps_set (i := 1) nd rfl (by first | exact Or.inl rfl | exact Or.inr rfl) (pe_op op_add pe_int (k_cal (c_law_draw Fx) hr (by decide) rfl (pa_cons (pv 0) (pa_cons pe_int pa_nil)))))
      (pss_cons (ps_set (i := 2) nd rfl (by first | exact Or.inl rfl | exact Or.inr rfl) (pe_ix (k_ix (K := K)) (pe_lst (pa_cons (pe_op op_add pe_int (k_cal (c_law_draw Fx) hr (by decide) rfl (pa_cons (pv 0) (pa_cons pe_int pa_nil)))) (pa_cons (pe_op op_add pe_int (k_cal (c_law_draw Fx) hr (by decide) rfl (pa_cons (pv 0) (pa_cons pe_int pa_nil)))) (pa_cons (pe_op op_add pe_int (k_cal (c_law_draw Fx) hr (by decide) rfl (pa_cons (pv 0) (pa_cons pe_int pa_nil)))) pa_nil)))) (pe_op op_sub (pe_callTy call_intA (by rfl) (Fx.free 106) (by decide +kernel) (pa_cons (pv 1) pa_nil)) pe_int) (fun _ _ => rfl)))
      (pss_cons (ps_set (i := 3) nd rfl (by first | exact Or.inl rfl | exact Or.inr rfl) (pe_lst pa_nil))
      (pss_cons (ps_for PassesOwn.never rfl (pi_range1 rfl (Fx.free 98) (pa_cons (pv 1) pa_nil)) (pg_name (i := 4) nd rfl (by first | exact Or.inl rfl | exact Or.inr rfl)) (pss_cons (ps_set (i := 5) nd rfl (by first | exact Or.inl rfl | exact Or.inr rfl) pe_non)
      (pss_cons (ps_set (i := 6) nd rfl (by first | exact Or.inl rfl | exact Or.inr rfl) pe_int)
      (pss_cons (ps_set (i := 7) nd rfl (by first | exact Or.inl rfl | exact Or.inr rfl) pe_non)
      (pss_cons (ps_if (pt_cmpR op_lt (pv 4) (pe_op op_sub (pv 1) pe_int) (nomark _)) (pss_cons (ps_set (i := 5) nd rfl (by first | exact Or.inl rfl | exact Or.inr rfl) (pe_op op_addS pe_str (pe_ix (k_ix (K := K)) pe_str (pe_callTy call_intA (by rfl) (Fx.free 106) (by decide +kernel) (pa_cons (pe_op op_add (pe_op op_add (pv 4) pe_int) (k_cal (c_law_draw Fx) hr (by decide) rfl (pa_cons (pv 0) (pa_cons (pe_op op_sub (pe_op op_sub (pv 1) (pv 4)) pe_int) pa_nil)))) pa_nil)) (fun _ _ => rfl))))
      (pss_cons (ps_set (i := 6) nd rfl (by first | exact Or.inl rfl | exact Or.inr rfl) (pe_ix (k_ix (K := K)) (pe_lst (pa_cons pe_int (pa_cons pe_int (pa_cons pe_int (pa_cons pe_int pa_nil))))) (k_cal (c_law_draw Fx) hr (by decide) rfl (pa_cons (pv 0) (pa_cons pe_int pa_nil))) (fun _ _ => rfl)))
      (pss_one (ps_set (i := 7) nd rfl (by first | exact Or.inl rfl | exact Or.inr rfl) (pe_ix (k_ix (K := K)) (pe_lst (pa_cons pe_non (pa_cons pe_non (pa_cons (k_cal (c_law_draw Fx) hr (by decide) rfl (pa_cons (pv 0) (pa_cons pe_int pa_nil))) pa_nil)))) (k_cal (c_law_draw Fx) hr (by decide) rfl (pa_cons (pv 0) (pa_cons pe_int pa_nil))) (fun _ _ => rfl)))))) pss_nil)
      (pss_cons (ps_set (i := 8) nd rfl (by first | exact Or.inl rfl | exact Or.inr rfl) (pe_ix (k_ix (K := K)) (pe_lst (pa_cons pe_int (pa_cons (k_cal (c_law_draw Fx) hr (by decide) rfl (pa_cons (pv 0) (pa_cons pe_int pa_nil))) (pa_cons (k_cal (c_law_draw Fx) hr (by decide) rfl (pa_cons (pv 0) (pa_cons pe_int pa_nil))) pa_nil)))) (k_cal (c_law_draw Fx) hr (by decide) rfl (pa_cons (pv 0) (pa_cons pe_int pa_nil))) (fun _ _ => rfl)))
      (pss_cons (ps_set (i := 9) nd rfl (by first | exact Or.inl rfl | exact Or.inr rfl) (pe_op op_mul (k_cal (c_law_draw Fx) hr (by decide) rfl (pa_cons (pv 0) (pa_cons (pe_op op_add (pv 8) pe_int) pa_nil))) (k_cal (c_law_draw Fx) hr (by decide) rfl (pa_cons (pv 0) (pa_cons pe_int pa_nil)))))
      (pss_one (ps_expr (pe_bm PySem.F.plainAttrs_list PySem.F.slot_list_append PySem.F.type_list_append mt_append (pv 3) (pa_cons (pe_tup (pa_cons (pe_op op_addS pe_str (pe_ix (k_ix (K := K)) pe_str (pe_callTy call_intA (by rfl) (Fx.free 106) (by decide +kernel) (pa_cons (pv 4) pa_nil)) (fun _ _ => rfl))) (pa_cons (pv 5) (pa_cons (pv 6) (pa_cons (pv 7) (pa_cons (pv 8) (pa_cons (pv 9) (pa_cons (pe_callTy (k_tuple (K := K)) (by rfl) (Fx.free 101) (by decide +kernel) (pa_cons (pe_lc (own := [("_law_m", 10)]) (g := (gName 10)) (tt := tYes) rfl nd (pi_range1 rfl (Fx.free 98) (pa_cons (pv 2) pa_nil)) (blkOk_by (by kernel_rfl)) (fun _ _ _ _ _ => by exact (pg_name (i := 10) nd rfl (by first | exact Or.inl rfl | exact Or.inr rfl))) (fun _ _ _ _ _ => by exact pts_nil) (fun _ _ _ _ _ => by exact (k_cal (c_law_draw Fx) hr (by decide) rfl (pa_cons (pv 0) (pa_cons pe_int pa_nil))))) pa_nil)) pa_nil)))))))) pa_nil)))))))))))
      (pss_one (ps_ret (pe_tup (pa_cons (pv 2) (pa_cons (pe_callTy (k_tuple (K := K)) (by rfl) (Fx.free 101) (by decide +kernel) (pa_cons (pv 3) pa_nil)) pa_nil))))))))), fun ds μ Pq hS => ?_⟩
  obtain ⟨b, rfl, hB, q⟩ := hS
  refine pw_seq (pw_set (we_addI ev_int (we_draw (n := 3) (V' 0) ev_int hB fun v μ1 hv fr1 B1 => ⟨_, rfl, ?_⟩)))
  have ev : (1 : Int) + (v : Int) = ((v + 1 : Nat) : Int) := by omega
  rw [ev]
  generalize hn : v + 1 = n
  have hn1 : 1 ≤ n := by omega
  have hn3 : n ≤ 3 := by omega
  clear ev
  refine pw_seq (pw_set (we_pick (wa_cons (we_addI ev_int (we_draw (n := 4) (V' 0) ev_int B1 fun v1 μ2 hv1 fr2 B2 => ⟨_, rfl, wa_cons (we_addI ev_int (we_draw (n := 3) (V' 0) ev_int B2 fun v2 μ3 hv2 fr3 B3 => ⟨_, rfl, wa_cons (we_addI ev_int (we_draw (n := 2) (V' 0) ev_int B3 fun v3 μ4 hv3 fr4 B4 => ⟨_, rfl, wa_nil ⟨by show 3 ≤ sizeLine; decide, ?_⟩⟩))⟩))⟩)))))
  have fr : FrB b μ μ4 := ((fr1.trans fr2).trans fr3).trans fr4
  have pick : ∃ m : Nat, 1 ≤ m ∧ m ≤ 4 ∧ m * n ≤ 6 ∧ ([.int (1 + (v1 : Int)), .int (1 + (v2 : Int)), .int (1 + (v3 : Int))] : List D)[n - 1]? = some (.int (m : Int)) := by
    match n, hn1, hn3 with
    | 1, _, _ => exact ⟨v1 + 1, by omega, by omega, by omega, by show some (D.int (1 + (v1 : Int))) = _; congr 2; omega⟩
    | 2, _, _ => exact ⟨v2 + 1, by omega, by omega, by omega, by show some (D.int (1 + (v2 : Int))) = _; congr 2; omega⟩
    | 3, _, _ => exact ⟨v3 + 1, by omega, by omega, by omega, by show some (D.int (1 + (v3 : Int))) = _; congr 2; omega⟩
  obtain ⟨m, hm1, hm4, h6, hpick⟩ := pick
  have en : ((n - 1 : Nat) : Int) = (n : Int) - 1 := by omega
  refine (show Ev K _ _ _ (.int (((n - 1 : Nat)) : Int)) from by rw [en]; exact ev_sub (ev_intI (V' 1)) ev_int).go ⟨n - 1, _, rfl, hpick, ?_⟩
  refine q_new fun a ha => ?_
  have hab : a ≠ b := fun z => by
    obtain ⟨_, _, _, hb4⟩ := B4
    rw [← z, ha] at hb4; cases hb4
  have hμa : μ a = none := by rw [← fr a hab]; exact ha
  refine pw_seq (pw_for (fun i ρ μ' => ∃ ss : List Site, ss.length = i ∧ (∀ (j : Nat) (s : Site), ss[j]? = some s → s.Ok n j m) ∧ μ' a = some (.lst (ss.mapIdx siteD)) ∧ Box μ' b ∧ (∀ c, c ≠ a → c ≠ b → μ' c = μ c) ∧ ∃ x4 x5 x6 x7 x8 x9, ρ = [some (.raw (.ref b)), some (.int (n : Int)), some (.int (m : Int)), some (.raw (.ref a)), x4, x5, x6, x7, x8, x9, none]) ?_)
  refine wi_rngE (n := n) (ea_cons (V' 1) ea_nil) (by omega) ⟨⟨[], rfl, fun j s h => (by simp at h), Mu.upd_same, ?_, fun c h1 h2 => by rw [Mu.upd_ne h1]; exact fr c h2, none, none, none, none, none, none, rfl⟩, fun _ _ _ _ => trivial, ?_, ?_⟩
  · obtain ⟨is, k, h1, h2⟩ := B4
    exact ⟨is, k, h1, by rw [Mu.upd_ne (Ne.symm hab)]; exact h2⟩
  · rintro i d ρ μ5 hd ⟨ss, hsl, hso, hma, B5, fr5, x4, x5, x6, x7, x8, x9, rfl⟩
    obtain ⟨hi, rfl⟩ := rngD0 hd
    refine wg_name (q_set ev_non (q_set ev_int (q_set ev_non ?_)))
    refine pw_seq (PW.imp (Φ := fun o => ∃ (nx : Option Nat) (tr : Nat) (rc : Option Int) (μ' : Mu), o = .nx [some (.raw (.ref b)), some (.int (n : Int)), some (.int (m : Int)), some (.raw (.ref a)), some (.int (i : Int)), some (optD (fun j => .str (nm j)) nx), some (.int (tr : Int)), some (optD .int rc), x8, x9, none] μ' ∧ (nx = none ↔ i + 1 = n) ∧ (∀ j, nx = some j → i < j ∧ j < n) ∧ tr ≤ 2 ∧ (∀ r, rc = some r → 0 ≤ r) ∧ FrB b μ5 μ' ∧ Box μ' b) ?_ ?_)
    · refine s_when (et_test (ev_lt (V' 4) (ev_sub (V' 1) ev_int))) (fun h => ?_) (fun h => ?_)
      · have h := of_decide_eq_true h
        have hin : i + 1 < n := by omega
        have en2 : Ev K (tOp (rI0 fun i j => .int (i - j)) (tOp (rI0 fun i j => .int (i - j)) (tVar 1) (tVar 4)) (tC (.int 1))) [some (.raw (.ref b)), some (.int (n : Int)), some (.int (m : Int)), some (.raw (.ref a)), some (.int (i : Int)), some .non, some (.int 0), some .non, x8, x9, none] μ5 (.int ((n - i - 1 : Nat) : Int)) := by
          have e : ((n - i - 1 : Nat) : Int) = (n : Int) - (i : Int) - 1 := by omega
          rw [e]
          exact ev_sub (ev_sub (V' 1) (V' 4)) ev_int
        refine pw_seq (pw_set (we_nm (we_cb (wa_cons (we_addI (ev_add (V' 4) ev_int) (we_draw (V' 0) en2 B5 (fun u μ6 hu6 fr6 B6 => ⟨_, rfl, wa_nil (rb_int ⟨i + 1 + u, by omega, by congr 1, ?_⟩)⟩) (by omega) (by omega)))))))
        refine pw_seq (pw_set (we_pick (wa_cons (ev_int.go (wa_cons (ev_int.go (wa_cons (ev_int.go (wa_cons (ev_int.go (wa_nil ⟨by show 4 ≤ sizeLine; decide, we_draw (n := 4) (V' 0) ev_int B6 fun t μ7 ht fr7 B7 => ?_⟩)))))))))))
        have hpt : ∃ tr : Nat, tr ≤ 2 ∧ ([.int 0, .int 0, .int 1, .int 2] : List D)[t]? = some (.int (tr : Int)) := by
          match t, ht with
          | 0, _ => exact ⟨0, by omega, rfl⟩
          | 1, _ => exact ⟨0, by omega, rfl⟩
          | 2, _ => exact ⟨1, by omega, rfl⟩
          | 3, _ => exact ⟨2, by omega, rfl⟩
        obtain ⟨tr, htr, hpt⟩ := hpt
        refine ⟨t, _, rfl, hpt, ?_⟩
        refine pw_set (we_pick (wa_cons (ev_non.go (wa_cons (ev_non.go (wa_cons (we_draw (n := 6) (V' 0) ev_int B7 fun y μ8 hy fr8 B8 => wa_nil ⟨by show 3 ≤ sizeLine; decide, we_draw (n := 3) (V' 0) ev_int B8 fun z μ9 hz fr9 B9 => ?_⟩)))))))
        have hpr : ∃ rc : Option Int, (∀ r, rc = some r → 0 ≤ r) ∧ ([.non, .non, .int (y : Int)] : List D)[z]? = some (optD .int rc) := by
          match z, hz with
          | 0, _ => exact ⟨none, fun r h => (by cases h), rfl⟩
          | 1, _ => exact ⟨none, fun r h => (by cases h), rfl⟩
          | 2, _ => exact ⟨some (y : Int), fun r h => (by cases h; omega), rfl⟩
        obtain ⟨rc, hrc, hpr⟩ := hpr
        exact ⟨z, _, rfl, hpr, some (i + 1 + u), tr, rc, μ9, rfl, ⟨fun h => by (cases h), fun h => by omega⟩, fun j h => by cases h; omega, htr, hrc, ((fr6.trans fr7).trans fr8).trans fr9, B9⟩
      · have h := of_decide_eq_false h
        exact ⟨none, 0, none, μ5, rfl, ⟨fun _ => by omega, fun _ => rfl⟩, fun j h => by (cases h), by omega, fun r h => by (cases h), .refl, B5⟩
    · rintro o ⟨nx, tr, rc, μ6, rfl, p1, p2, p3, p4, fr6, B6⟩
      show PW K _ _ _ _
      refine pw_seq (pw_set (we_pick (wa_cons (ev_int.go (wa_cons (we_draw (n := 5) (V' 0) ev_int B6 fun u μ7 hu7 fr7 B7 => wa_cons (we_draw (n := 9) (V' 0) ev_int B7 fun y μ8 hy fr8 B8 => wa_nil ⟨by show 3 ≤ sizeLine; decide, we_draw (n := 3) (V' 0) ev_int B8 fun z μ9 hz fr9 B9 => ?_⟩)))))))
      have hpm : ∃ rm : Nat, rm ≤ 8 ∧ ([.int 0, .int (u : Int), .int (y : Int)] : List D)[z]? = some (.int (rm : Int)) := by
        match z, hz with
        | 0, _ => exact ⟨0, by omega, rfl⟩
        | 1, _ => exact ⟨u, by omega, rfl⟩
        | 2, _ => exact ⟨y, by omega, rfl⟩
      obtain ⟨rm, hrm, hpm⟩ := hpm
      refine ⟨z, _, rfl, hpm, ?_⟩
      have er : ∀ {ρ : List (Option D)} {μ : Mu}, ρ[8]? = some (some (.int (rm : Int))) → Ev K (tOp (rI0 fun i j => .int (i + j)) (tVar 8) (tC (.int 1))) ρ μ (.int ((rm + 1 : Nat) : Int)) := fun h => by
        have e : ((rm + 1 : Nat) : Int) = (rm : Int) + 1 := by omega
        rw [e]
        exact ev_add (ev_var h) ev_int
      refine pw_seq (pw_set (we_op (we_draw (V' 0) (er rfl) B9 (fun h1 μ10 hh fr10 B10 => we_draw (n := 2) (V' 0) ev_int B10 fun h2 μ11 hh2 fr11 B11 => ro_intC (f := fun i j => i * j) (C := CMul) (cmulR ⟨by omega, by omega⟩) ?_) (by omega) (by omega))))
      have hheld : ∃ he : Nat, he ≤ rm ∧ (h1 : Int) * (h2 : Int) = (he : Int) := by
        match h2, hh2 with
        | 0, _ => exact ⟨0, by omega, by simp⟩
        | 1, _ => exact ⟨h1, by omega, by simp⟩
      obtain ⟨he, hhe, ehe⟩ := hheld
      rw [ehe]
      have frA : FrB b μ5 μ11 := ((((fr6.trans fr7).trans fr8).trans fr9).trans fr10).trans fr11
      have hma11 : μ11 a = some (.lst (ss.mapIdx siteD)) := by rw [frA a hab]; exact hma
      refine pw_drop (we_append ((V' 3).go ⟨a, _, rfl, hma11, we_tup (wa_cons (we_nm ((ev_intI (V' 4)).go ⟨i, by omega, rfl, wa_cons ((V' 5).go (wa_cons ((V' 6).go (wa_cons ((V' 7).go (wa_cons ((V' 8).go (wa_cons ((V' 9).go (wa_cons (we_tupleOf (we_draws (n := 8) (b := b) (m := m) (ea_cons (V' 2) ea_nil) (by omega) B11 (fun l μ' _ _ B' => we_draw (n := 8) (V' 0) ev_int B' fun v μ2 hv f g => ⟨v, hv, rfl, f, g⟩) fun xs μ12 g1 g2 fr12 B12 => ⟨xs.map .int, .inl rfl, wa_nil ⟨by show 7 ≤ sizeLine; decide, ss.mapIdx siteD, by rw [fr12 a hab]; exact hma11, sz_lt (by rw [List.length_mapIdx]; omega), ?_⟩⟩))))))))))))⟩)))⟩))
      refine ⟨ss ++ [⟨nx, tr, rc, (rm : Int), (he : Int), xs⟩], by rw [List.length_append]; show ss.length + 1 = _; omega, fun j s hj => ?_, ?_, ?_, fun c h1 h2 => ?_, _, _, _, _, _, _, rfl⟩
      · by_cases z : j < ss.length
        · rw [List.getElem?_append_left z] at hj
          exact hso j s hj
        · rw [List.getElem?_append_right (by omega)] at hj
          have hj0 : j - ss.length = 0 := by
            have := (List.getElem?_eq_some_iff.mp hj).1
            simp at this; omega
          rw [hj0] at hj
          cases hj
          have : j = i := by omega
          subst this
          exact ⟨p1, p2, p3, p4, by show (0 : Int) ≤ (rm : Int); omega, by show (rm : Int) ≤ 100; omega, by show (0 : Int) ≤ (he : Int); omega, by show (he : Int) ≤ (rm : Int); omega, g1, fun x hx => by have := g2 x hx; omega⟩
      · rw [Mu.upd_same, List.mapIdx_append]
        congr 3
        show _ = [siteD (0 + ss.length) ⟨nx, tr, rc, (rm : Int), (he : Int), xs⟩]
        rw [Nat.zero_add, hsl]; rfl
      · obtain ⟨is, k, z1, z2⟩ := B12
        exact ⟨is, k, z1, by rw [Mu.upd_ne (Ne.symm hab)]; exact z2⟩
      · rw [Mu.upd_ne h1, fr12 c h2, frA c h2]; exact fr5 c h1 h2
  · rintro ρ μ5 ⟨ss, hsl, hso, hma, B5, fr5, x4, x5, x6, x7, x8, x9, rfl⟩
    rw [rngD_len] at hsl
    refine s_retS (d := basinD ⟨m, ss⟩) (ev_tup (ea_cons (V' 2) (ea_cons (ev_tupleOf (V' 3) (.inr ⟨a, rfl, hma⟩)) ea_nil))) (μ0 := fun c => if c = a then none else μ5 c) (fun c o e => ?_) (q ⟨m, ss⟩ _ ⟨hm1, hm4, by show 1 ≤ ss.length; omega, by show ss.length ≤ 3; omega, by show m * ss.length ≤ 6; rw [hsl]; exact h6, fun k s hk => by show s.Ok ss.length k m; rw [hsl]; exact hso k s hk⟩ (fun c hc => ?_) ?_)
    · have e' : (if c = a then none else μ5 c) = some o := e
      split at e'
      · cases e'
      · exact e'
    · show (if c = a then none else μ5 c) = μ c
      by_cases z : c = a
      · rw [if_pos z, z, hμa]
      · rw [if_neg z]; exact fr5 c z hc
    · obtain ⟨is, k, z1, z2⟩ := B5
      exact ⟨is, k, z1, by show (if b = a then none else μ5 b) = _; rw [if_neg (Ne.symm hab)]; exact z2⟩
end
end Hw
set_option Elab.async false
set_option linter.all false
set_option maxRecDepth 100000
set_option maxHeartbeats 4000000
/-! The drawn rights. -/
namespace Hw
open PySem PySem.Spec L2
section
variable {K : PySem.W.Frag} {ρ : List (Option D)} {μ : Mu} {ta tb : TE} {Q : D → Mu → Prop} {t : TA}
theorem wi_rngW {PI : List D → (Mu → Prop) → Mu → Prop} (h : WA K t ρ μ fun ds μ' => ∃ n : Nat, ds = [.int (n : Int)] ∧ n ≤ 100000 ∧ PI (rngD 0 n) (fun _ => True) μ') : WI K (iRng1 t) ρ μ PI := fun G0 H0 G H σ A R q =>
  h G0 H0 G H σ A _ fun vs ds μ' G' H' pe e A' l => by
    obtain ⟨n, rfl, hn, pe⟩ := pe
    obtain ⟨v, r, rfl, i, l⟩ := l
    cases i; cases l
    refine ⟨(n : Int), rfl, by omega, by omega, ?_⟩
    rw [← Int.toNat_natCast n] at pe
    exact q _ _ _ _ G' H' pe e A' good_rng
theorem we_rt (hb : WE K tb ρ μ fun d μ' => ∃ k : Nat, k < 4 ∧ d = .int (k : Int) ∧ Q (.str ⟨#[114, 97 + k]⟩) μ') : WE K (tOp rAddS (tC (.str "r")) (tOp (rIx K) (tC (.str "abcd")) tb)) ρ μ Q := by
  refine we_op (ev_str.go (we_op (ev_str.go (hb.imp fun d μ' h => ?_))))
  obtain ⟨k, hk, rfl, q⟩ := h
  refine ro_ixStr (c := 97 + k) (by decide +kernel) ?_ (ro_addS ?_ ?_)
  · have : ((("abcd" : Str).cps).toList)[k]? = some (97 + k) := by
      match k, hk with
      | 0, _ => decide +kernel
      | 1, _ => decide +kernel
      | 2, _ => decide +kernel
      | 3, _ => decide +kernel
    exact atI_n this
  · show (1 : Nat) + 1 ≤ sizeLine
    decide
  · have : (("r" : Str) ++ (⟨#[97 + k]⟩ : Str)) = ⟨#[114, 97 + k]⟩ := by
      match k, hk with
      | 0, _ => decide +kernel
      | 1, _ => decide +kernel
      | 2, _ => decide +kernel
      | 3, _ => decide +kernel
    rw [this]; exact q
end
section
variable {P : Program} {w : World} {K : PySem.W.Frag} {mg : Str → Option Value} {base : Heap}
theorem sc_law_rights : FnScope ["_law_box", "_law_basin_here", "_law_most", "_law_names", "_law_site", "_law_found", "_law_k"] ["_law_box", "_law_basin_here", "_law_most"] (defScope s_law_rights) := ⟨rfl, rfl, rfl, by decide +kernel, rfl, by decide +kernel, by decide +kernel⟩
-- _law_rights: 0 _law_box, 1 _law_basin_here, 2 _law_most, 3 _law_names, 4 _law_site, 5 _law_found, 6 _law_k
def S_law_rights : Spec := fun ds μ Q => ∃ (b : Addr) (B : Basin), ds = [.raw (.ref b), basinD B, .int 3] ∧ B.Ok ∧ Box μ b ∧ ∀ R μ', RightsOk B R → FrB b μ μ' → Box μ' b → Q (rightsD R) μ'
theorem len_law_rights : S_law_rights.len 3 := fun ds μ Q h => by obtain ⟨_, _, rfl, _⟩ := h; rfl
theorem mono_law_rights : Mono S_law_rights := fun ds μ P P' f h => by obtain ⟨b, B, e, h1, h2, q⟩ := h; exact ⟨b, B, e, h1, h2, fun R μ' a1 a2 a3 => f _ _ (q R μ' a1 a2 a3)⟩
theorem c_law_rights (Fx : Fx K mg) : Cal P w K mg base 3 "_law_rights" S_law_rights := by
  have hlen : Spec.len S_law_rights 3 := len_law_rights
  obtain ⟨fd, F⟩ := Fx.c.def_ 47 (d := d_law_rights) rfl
  refine ⟨_, fd, ["_law_box", "_law_basin_here", "_law_most"], fnok F sc_law_rights hlen (fun cdv A outer s H E hr => ?_), Fx.glo 29, F.kp, FunD.bindsN F fun _ _ _ _ _ _ us hl => match us, hl with | [_, _, _], _ => rfl⟩
  have hu := hu_of hr
  have nd := sc_law_rights.nd
  refine ⟨_, (pss_cons (ps_setLc (own := [("_law_site", 4)]) (g := (gName 4)) (tt := tYes) (i := 3) rfl nd rfl rfl (sw_true rfl rfl rfl (by decide +kernel)) (k_tup_ (K := K) (pe_ix (k_ix (K := K)) (pv 1) pe_int (fun _ _ => rfl))) (blkOk_by (by kernel_rfl)) (fun _ _ _ _ _ => by exact (pg_name (i := 4) nd rfl (by first | exact Or.inl rfl | exact Or.inr rfl))) (fun _ _ _ _ _ => by exact pts_nil) (fun _ _ _ _ _ => by exact (pe_ix (k_ix (K := K)) (pv 4) pe_int (fun _ _ => rfl))))
      (pss_cons (ps_set (i := 5) nd rfl (by first | exact Or.inl rfl | exact Or.inr rfl) (pe_lst pa_nil))
      (pss_cons (ps_for PassesOwn.never rfl (pi_range1 rfl (Fx.free 98) (pa_cons (k_cal (c_law_draw Fx) hr (by decide) rfl (pa_cons (pv 0) (pa_cons (pe_op op_add (pv 2) pe_int) pa_nil))) pa_nil)) (pg_name (i := 6) nd rfl (by first | exact Or.inl rfl | exact Or.inr rfl)) (pss_one (ps_expr (pe_bm PySem.F.plainAttrs_list PySem.F.slot_list_append PySem.F.type_list_append mt_append (pv 5) (pa_cons (pe_tup (pa_cons (pe_op op_addS pe_str (pe_ix (k_ix (K := K)) pe_str (pe_callTy call_intA (by rfl) (Fx.free 106) (by decide +kernel) (pa_cons (pv 6) pa_nil)) (fun _ _ => rfl))) (pa_cons (pe_ix (k_ix (K := K)) (pv 3) (pe_op op_mod (pe_callTy call_intA (by rfl) (Fx.free 106) (by decide +kernel) (pa_cons (k_cal (c_law_draw Fx) hr (by decide) rfl (pa_cons (pv 0) (pa_cons pe_int pa_nil))) pa_nil)) (pe_callB (k_len (K := K)) (by rfl) (Fx.free 97) PySem.boot_len (pa_cons (pv 3) pa_nil))) (fun _ _ => rfl)) (pa_cons (k_cal (c_law_demands Fx) hr (by decide) rfl (pa_cons (pv 0) (pa_cons (pe_ix (k_ix (K := K)) (pv 1) pe_int (fun _ _ => rfl)) pa_nil))) pa_nil)))) pa_nil)))))
      (pss_one (ps_ret (pe_callTy (k_tuple (K := K)) (by rfl) (Fx.free 101) (by decide +kernel) (pa_cons (pv 5) pa_nil))))))), fun ds μ Pq hS => ?_⟩
  obtain ⟨b, B, rfl, ok, hB, q⟩ := hS
  have hn1 := ok.n1
  have hn3 := ok.n3
  have hm4 := ok.m4
  refine pw_seq (pw_set (Ev.go (d := .lst ((List.range B.sites.length).map fun k => .str (nm k))) (ev_lc (es := B.sites.mapIdx siteD) gok_name (sz_of (by rw [List.length_mapIdx]; omega)) (by rw [List.length_mapIdx, List.length_map, List.length_range]) (wi_tupP (ev_ix (V' (d := basinD B) 1) ev_int)) (fun n d e hd he => ?_)) ?_))
  · have hn : n < B.sites.length := by
      have := (List.getElem?_eq_some_iff.mp hd).1
      rw [List.length_mapIdx] at this; exact this
    rw [siteAt hn] at hd
    rw [List.getElem?_map, List.getElem?_range hn] at he
    cases hd; cases he
    exact wg_name ⟨rfl, ev_ix (V' (d := siteD n (B.at n)) 4) ev_int⟩
  refine q_new fun a ha => ?_
  have hab : a ≠ b := fun z => by
    obtain ⟨_, _, _, hb4⟩ := hB
    rw [← z, ha] at hb4; cases hb4
  have hB1 : Box (μ.upd a (.lst [])) b := by
    obtain ⟨is, k, h1, h2⟩ := hB
    exact ⟨is, k, h1, by rw [Mu.upd_ne (Ne.symm hab)]; exact h2⟩
  refine pw_seq (pw_for (fun i ρ μ' => ∃ rs : List Right, rs.length = i ∧ i ≤ 3 ∧ (∀ r ∈ rs, r.Ok B) ∧ μ' a = some (.lst (rs.map rightD)) ∧ Box μ' b ∧ (∀ c, c ≠ a → c ≠ b → μ' c = μ c) ∧ ∃ x6, ρ = [some (.raw (.ref b)), some (basinD B), some (.int 3), some (.lst ((List.range B.sites.length).map fun k => .str (nm k))), none, some (.raw (.ref a)), x6]) ?_)
  have e4 : ∀ {ρ : List (Option D)} {μ : Mu}, ρ[2]? = some (some (.int 3)) → Ev K (tOp (rI0 fun i j => .int (i + j)) (tVar 2) (tC (.int 1))) ρ μ (.int ((4 : Nat) : Int)) := fun h => ev_add (i := 3) (j := 1) (ev_var h) ev_int
  refine wi_rngW (wa_cons (we_draw (n := 4) (V' 0) (e4 rfl) hB1 fun n μ1 hn fr1 B1 => wa_nil ⟨n, rfl, by omega, ⟨[], rfl, by omega, fun r hr => (by cases hr), by rw [fr1 a hab, Mu.upd_same]; rfl, B1, fun c h1 h2 => by rw [fr1 c h2, Mu.upd_ne h1], none, rfl⟩, fun _ _ _ _ => trivial, ?_, ?_⟩))
  · rintro i d ρ μ5 hd ⟨rs, hrl, hi3, hro, hma, B5, fr5, x6, rfl⟩
    obtain ⟨hi, rfl⟩ := rngD0 hd
    have elen : ∀ {ρ : List (Option D)} {μ : Mu}, ρ[3]? = some (some (.lst ((List.range B.sites.length).map fun k => .str (nm k)))) → Ev K (tCB (rLen K) (tCons (tVar 3) tNil)) ρ μ (.int (B.sites.length : Int)) := fun h => ev_len (ev_var h) (.inr (.inr (.inl rfl))) (by simp)
    refine wg_name (pw_drop (we_append ((V' 5).go ⟨a, _, rfl, hma, we_tup (wa_cons (we_rt ((ev_intI (V' 6)).go ⟨i, by omega, rfl, wa_cons (we_op ((V' 3).go (we_op (we_cb (wa_cons (we_draw (n := 90) (V' 0) ev_int B5 fun v μ6 hv fr6 B6 => wa_nil (rb_int ((elen rfl).go (ro_intC (f := fun i j => i % j) (C := fun _ j => 0 < j) (by omega) (ro_ix (i := (v : Int) % (B.sites.length : Int)) (d := .str (nm (v % B.sites.length))) (.inr (.inr (.inl rfl))) ?_ (wa_cons (we_call ((ea_cons (V' 0) (ea_cons (ev_ix (V' (d := basinD B) 1) ev_int) ea_nil)).go ⟨b, B.months, rfl, by omega, B6, fun xs μ7 g1 g2 fr7 B7 => wa_nil ⟨by show 3 ≤ sizeLine; decide, rs.map rightD, by rw [fr7 a hab, fr6 a hab]; exact hma, sz_lt (by rw [List.length_map]; omega), ?_⟩⟩) mono_law_demands))))))))))))⟩)))⟩)))
    · have hlt : v % B.sites.length < B.sites.length := Nat.mod_lt _ (by omega)
      have e : (v : Int) % (B.sites.length : Int) = ((v % B.sites.length : Nat) : Int) := by omega
      rw [e]
      refine atI_n ?_
      rw [List.getElem?_map, List.getElem?_range hlt]; rfl
    · refine ⟨rs ++ [⟨⟨#[114, 97 + i]⟩, v % B.sites.length, xs⟩], by rw [List.length_append]; show rs.length + 1 = _; omega, by omega, fun r hr => ?_, ?_, ?_, fun c h1 h2 => ?_, _, rfl⟩
      · rcases List.mem_append.mp hr with z | z
        · exact hro r z
        · rw [List.mem_singleton] at z
          subst z
          exact ⟨Nat.mod_lt _ (by omega), g1, fun x hx => by have := g2 x hx; omega⟩
      · rw [Mu.upd_same, List.map_append]; rfl
      · obtain ⟨is, k, z1, z2⟩ := B7
        exact ⟨is, k, z1, by rw [Mu.upd_ne (Ne.symm hab)]; exact z2⟩
      · rw [Mu.upd_ne h1, fr7 c h2, fr6 c h2]; exact fr5 c h1 h2
  · rintro ρ μ5 ⟨rs, hrl, hi3, hro, hma, B5, fr5, x6, rfl⟩
    refine s_retS (ev_tupleOf (V' 5) (.inr ⟨a, rfl, hma⟩)) (μ0 := fun c => if c = a then none else μ5 c) (fun c o e => ?_) (q rs _ ⟨by omega, hro⟩ (fun c hc => ?_) ?_)
    · have e' : (if c = a then none else μ5 c) = some o := e
      split at e'
      · cases e'
      · exact e'
    · show (if c = a then none else μ5 c) = μ c
      by_cases z : c = a
      · rw [if_pos z, z, ha]
      · rw [if_neg z]; exact fr5 c z hc
    · obtain ⟨is, k, z1, z2⟩ := B5
      exact ⟨is, k, z1, by show (if b = a then none else μ5 b) = _; rw [if_neg (Ne.symm hab)]; exact z2⟩
end
end Hw
set_option Elab.async false
set_option linter.all false
set_option maxRecDepth 100000
set_option maxHeartbeats 4000000
/-! (x,) * n. -/
namespace Hw
open PySem PySem.Spec PyProof.Rows L2
/-- t * 1 is t itself -/
theorem tuple_mul1 (l : Addr) (its : Array Value) (n : Nat) (dd : Option Addr) (sl : Array (Option Value)) (u : Tok) :
    Meets (Builtin.«tuple.__mul__» ⟨[.ref l, .int 1 u], []⟩) fun _ R s =>
      s.heap.get? l = some { cls := .type "tuple", dict := dd, data := .seq its n, slots := sl } ∧ R (.ok (.ret (.ref l))) s := by
  refine .of_wp fun prog w A R ⟨hp, g, d, tk, os⟩ ⟨there, done⟩ => ?_
  have index := AutoSeq1.idx_int
  have once : decide ((its.isEmpty || (1 : Int) == 1) = true) = true := by simp
  wp_walk using wpAny_loadPart' there
  repeat (first | refine wpAny_ite_true once ?_ | refine wpAny_ite_false (by decide) ?_; wp_walk using wpAny_loadPart' there)
  all_goals exact ⟨_, rfl, done⟩
def rRepA (K : PySem.W.Frag) : R2 := fun x y H Q => ∃ l k xs, x = .ref l ∧ y = .int k ∧ SqT K H l xs ∧ xs ≠ [] ∧ 1 ≤ k ∧ k ≤ 1000 ∧ xs.length ≤ 1000 ∧ (k = 1 → Q (.ref l) H) ∧ (2 ≤ k → ∀ p, H p = none → Q (.ref p) (upd H p (.tup (List.replicate k.toNat xs).flatten)))
theorem op_repA {X : Cx} : OpR X (binaryOp .Mult) (rRepA X.K) := by
  rintro pins s σ H _ _ v u Q I rx ry ⟨l, k, xs, rfl, rfl, told, some, h1, h2, h3, one, more⟩
  rcases Nat.lt_or_ge 1 k.toNat with many | few
  · exact op_repT pins s σ H _ _ v u Q I rx ry ⟨l, k, xs, rfl, rfl, told, some, by omega, h2, h3, more (by omega)⟩
  obtain rfl : k = 1 := by omega
  cases rx
  obtain ⟨tok, rfl⟩ := ry
  obtain ⟨items, _, ⟨⟨_, dd, _, sl⟩, at_l, rfl, n, rfl⟩, _⟩ := I.tuple told
  have mine := tuple_mul1 l items.toArray n dd sl tok
  have his := int_rmul_tuple 1 tok l items.toArray n dd sl
  have isInt := fun z => typeIs_int z 1 tok
  refine wpAny_binaryOp_repeat_ref (T := "tuple") (U := "int") (by decide) ⟨_, at_l, rfl⟩ isInt noFill_tuple_mul F.fills_int_mul F.slot_int_rmul repeat_tuple F.slot_int_index.lookup
    (call_meets F.slot_int_rmul (isInt s) F.entry_int_rmul (F.args_int_rmul_2 _ _) his ⟨at_l, rfl, ⟨_, at_l, rfl⟩, ?_⟩)
  exact call_meets F.slot_tuple_mul ⟨_, at_l, rfl⟩ F.entry_tuple_mul (F.args_tuple_mul_2 _ _) mine ⟨at_l, .ref l, H, I, rfl, one rfl⟩
theorem rep_flat {α : Type} (x : α) : ∀ n, (List.replicate n [x]).flatten = List.replicate n x
  | 0 => rfl
  | n + 1 => by rw [List.replicate_succ, List.flatten_cons, rep_flat x n, List.replicate_succ]; rfl
theorem isL_rep {K : PySem.W.Frag} {G : Hp} {d : D} {x : V} (h : Is K G d x) : ∀ n, IsL K G (List.replicate n d) (List.replicate n x)
  | 0 => rfl
  | n + 1 => ⟨x, _, rfl, h, isL_rep h n⟩
theorem k_repA {X : Cx} {K : PySem.W.Frag} (h : X.K = K := by rfl) : OpR X (binaryOp .Mult) (rRepA K) := by subst h; exact op_repA
theorem ev_repA {K : PySem.W.Frag} {ρ : List (Option D)} {μ : Mu} {ta tb : TE} {d : D} {n : Nat} (h1 : 1 ≤ n) (h2 : n ≤ 1000) (ha : Ev K ta ρ μ (.tup [d])) (hb : Ev K tb ρ μ (.int (n : Int))) : Ev K (tOp (rRepA K) ta tb) ρ μ (.tup (List.replicate n d)) := ev_op ha hb fun G0 H0 G H ρ σ v u A i1 i2 Q q => by
  cases i2
  obtain ⟨a, xs, rfl, e, l⟩ := i1
  have hl := l.len
  obtain ⟨x, r, rfl, ix, lr⟩ := l
  cases lr
  refine ⟨a, (n : Int), [x], rfl, rfl, SqT.of (A.gh _ _ e), by simp, by omega, by omega, by simp, fun hn => ?_, fun hn p hp => ?_⟩
  · have : n = 1 := by omega
    subst this
    exact q _ _ μ G H ⟨rfl, rfl⟩ (Ex.refl _) A ⟨a, [x], rfl, e, ⟨x, [], rfl, ix, rfl⟩⟩
  · rw [Int.toNat_natCast, rep_flat]
    have eg : Ex G (L2.upd G p (.tup (List.replicate n x))) := Ex.new (A.gh.off hp)
    exact q _ _ μ _ _ ⟨rfl, rfl⟩ eg (A.laid hp) ⟨p, _, rfl, L2.upd_same, isL_rep (ix.mono eg) n⟩
end Hw
set_option Elab.async false
set_option linter.all false
set_option maxRecDepth 100000
set_option maxHeartbeats 4000000
/-! What is told can be shown. -/
namespace Hw
open PySem PySem.Spec L2
structure FineD (d : D) (dep w : Nat) : Prop where
  ok : okD d = true
  sh : (toPy d).showable = true
  nod : (toPy d).hasDict = false
  dep : (toPy d).depth ≤ dep
  lv : (toPy d).leavesShort 13 = true
  w : (toPy d).weight ≤ w
structure FineL (ds : List D) (dep w : Nat) : Prop where
  ok : okDs ds = true
  sh : PyData.showableAll (toPyL ds) = true
  nod : PyData.hasDictAll (toPyL ds) = false
  dep : PyData.depthAll (toPyL ds) ≤ dep
  lv : PyData.leavesShortAll 13 (toPyL ds) = true
  w : PyData.weightAll (toPyL ds) ≤ w
theorem FineL.nil {dep : Nat} : FineL [] dep 0 := ⟨rfl, rfl, rfl, Nat.zero_le _, rfl, Nat.le_refl _⟩
theorem FineL.cons {d : D} {ds : List D} {dep w W : Nat} (h : FineD d dep w) (g : FineL ds dep W) : FineL (d :: ds) dep (w + 1 + W) := by
  refine ⟨?_, ?_, ?_, ?_, ?_, ?_⟩
  · show (okD d && okDs ds) = true
    rw [h.ok, g.ok]; rfl
  · show (PyData.showable (toPy d) && PyData.showableAll (toPyL ds)) = true
    rw [h.sh, g.sh]; rfl
  · show (PyData.hasDict (toPy d) || PyData.hasDictAll (toPyL ds)) = false
    rw [h.nod, g.nod]; rfl
  · show max (PyData.depth (toPy d)) (PyData.depthAll (toPyL ds)) ≤ dep
    have := h.dep
    have := g.dep
    omega
  · show (PyData.leavesShort 13 (toPy d) && PyData.leavesShortAll 13 (toPyL ds)) = true
    rw [h.lv, g.lv]; rfl
  · show PyData.weight (toPy d) + 1 + PyData.weightAll (toPyL ds) ≤ _
    have := h.w
    have := g.w
    omega
theorem FineL.tup {ds : List D} {dep w : Nat} (g : FineL ds dep w) : FineD (.tup ds) (dep + 1) w :=
  ⟨g.ok, g.sh, g.nod, Nat.succ_le_succ g.dep, g.lv, g.w⟩
theorem FineD.le {d : D} {dep w dep' w' : Nat} (h : FineD d dep w) (h1 : dep ≤ dep') (h2 : w ≤ w') : FineD d dep' w' := ⟨h.ok, h.sh, h.nod, Nat.le_trans h.dep h1, h.lv, Nat.le_trans h.w h2⟩
theorem FineL.le {d : List D} {dep w w' : Nat} (h : FineL d dep w) (h2 : w ≤ w') : FineL d dep w' := ⟨h.ok, h.sh, h.nod, h.dep, h.lv, Nat.le_trans h.w h2⟩
theorem fine_all {ds : List D} {dep w : Nat} (h : ∀ d ∈ ds, FineD d dep w) : FineL ds dep (ds.length * (w + 1)) := by
  induction ds with
  | nil => exact FineL.nil.le (by omega)
  | cons d ds ih =>
    refine (FineL.cons (h d (List.mem_cons_self ..)) (ih fun x hx => h x (List.mem_cons_of_mem _ hx))).le ?_
    rw [List.length_cons, Nat.succ_mul]; omega
theorem fine_tup {ds : List D} {dep w n : Nat} (h : ∀ d ∈ ds, FineD d dep w) (hn : ds.length ≤ n) : FineD (.tup ds) (dep + 1) (n * (w + 1)) :=
  (FineL.tup (fine_all h)).le (Nat.le_refl _) (Nat.mul_le_mul hn (Nat.le_refl _))
theorem fine_int {i : Nat} {w : Nat} (h : i < 2 ^ w) (hw : w ≤ 20) : FineD (.int (i : Int)) 0 w := by
  have h2 : i < 2 ^ 20 := Nat.lt_of_lt_of_le h (Nat.pow_le_pow_right (by omega) hw)
  have e20 : (2 : Nat) ^ 20 = 1048576 := by decide
  refine ⟨rfl, ?_, rfl, Nat.le_refl _, ?_, ?_⟩
  · show decide ((i : Int).natAbs.log2 < 1920) = true
    refine decide_eq_true ?_
    rw [Int.natAbs_natCast]
    exact log2_small (Nat.lt_of_lt_of_le h2 (Nat.pow_le_pow_right (by omega) (by omega)))
  · show decide ((PyData.shown (.int (i : Int))).length ≤ 13) = true
    refine decide_eq_true (PyData.shown_int_le ?_)
    rw [Int.natAbs_natCast]
    have : (10 : Nat) ^ 12 = 1000000000000 := by decide
    omega
  · show (if ((i : Int) == 0) = true then 0 else (i : Int).natAbs.log2 + 1) ≤ w
    split
    · exact Nat.zero_le _
    · next hz =>
      have hz' : i ≠ 0 := fun e => hz (by rw [e]; rfl)
      rw [Int.natAbs_natCast]
      exact (Nat.log2_lt hz').mpr h
/-- what a parcel is made of -/
def OrgOk : Org → Prop
  | .held k => k ≤ 3
  | .inn k m => k ≤ 3 ∧ m ≤ 3
theorem fine_org {o : Org} (h : OrgOk o) : FineD (orgD o) 1 12 := by
  have hs1 : FineD (.str "held") 0 4 := ⟨rfl, rfl, rfl, Nat.le_refl _, by decide +kernel, by decide +kernel⟩
  have hs2 : FineD (.str "in") 0 2 := ⟨rfl, rfl, rfl, Nat.le_refl _, by decide +kernel, by decide +kernel⟩
  cases o with
  | held k =>
    have h : k ≤ 3 := h
    exact (FineL.cons hs1 (FineL.cons (fine_int (w := 2) (by show k < 4; omega) (by decide)) FineL.nil)).tup.le (by decide) (by decide)
  | inn k m =>
    have h : k ≤ 3 ∧ m ≤ 3 := h
    exact (FineL.cons hs2 (FineL.cons (fine_int (w := 2) (by show k < 4; omega) (by decide)) (FineL.cons (fine_int (w := 2) (by show m < 4; omega) (by decide)) FineL.nil))).tup.le (by decide) (by decide)
theorem fine_par {q : Org × Int} (h : OrgOk q.1) (h0 : 0 < q.2) (h1 : q.2 ≤ 100) : FineD (parD q) 2 22 := by
  have e : q.2 = ((q.2.toNat : Nat) : Int) := by omega
  have hi : FineD (.int q.2) 0 7 := by
    rw [e]
    exact fine_int (by show _ < 128; omega) (by decide)
  exact (FineL.cons (fine_org h) (FineL.cons (hi.le (by decide) (Nat.le_refl _)) FineL.nil)).tup.le (by decide) (by decide)
def EntOk (r : Row) : Prop := ∀ q ∈ r, OrgOk q.1 ∧ 0 < q.2 ∧ q.2 ≤ 100
theorem fine_row {r : Row} (h : EntOk r) (hl : r.length ≤ 728) : FineD (rowT r) 3 (728 * 23) := by
  refine fine_tup (fun d hd => ?_) (by rw [List.length_map]; exact hl)
  obtain ⟨q, hq, rfl⟩ := List.mem_map.mp hd
  obtain ⟨h1, h2, h3⟩ := h q hq
  exact fine_par h1 h2 h3
theorem fine_part {p : List (List Row)} (hp : p.length ≤ 3 ∧ ∀ rs ∈ p, rs.length ≤ 4) (h : ∀ r ∈ p.flatten, EntOk r ∧ r.length ≤ 728) : FineD (partD p) 5 (3 * (4 * (728 * 23 + 1) + 1)) := by
  refine fine_tup (fun d hd => ?_) (by rw [List.length_map]; exact hp.1)
  obtain ⟨rs, hrs, rfl⟩ := List.mem_map.mp hd
  refine fine_tup (fun d hd => ?_) (by rw [List.length_map]; exact hp.2 rs hrs)
  obtain ⟨r, hr, rfl⟩ := List.mem_map.mp hd
  obtain ⟨h1, h2⟩ := h r (List.mem_flatten.mpr ⟨rs, hrs, hr⟩)
  exact fine_row h1 h2
theorem le_tot {es : Row} (h : RowP es) {q : Org × Int} (hq : q ∈ es) : q.2 ≤ tot es q.1 := by
  have nn : ∀ {es : Row} {o : Org}, RowP es → 0 ≤ tot es o := fun {es o} h => by
    induction es with
    | nil => exact Int.le_refl _
    | cons x es ih =>
      have h1 := h x (List.mem_cons_self ..)
      have h2 := ih fun y hy => h y (List.mem_cons_of_mem _ hy)
      rw [tot_cons]
      split <;> omega
  induction es with
  | nil => cases hq
  | cons x es ih =>
    have h1 := h x (List.mem_cons_self ..)
    have h2 : RowP es := fun y hy => h y (List.mem_cons_of_mem _ hy)
    rw [tot_cons]
    rcases List.mem_cons.mp hq with e | e
    · subst e
      rw [if_pos rfl]
      have := nn (o := q.1) h2
      omega
    · have := ih h2 e
      split <;> omega
theorem water_key {B : Basin} (ok : B.Ok) {o : Org} (h : o ∈ (esWater B).map (·.1)) : OrgOk o := by
  obtain ⟨q, hq, rfl⟩ := List.mem_map.mp h
  rw [← waRow_all] at hq
  unfold waRow at hq
  obtain ⟨l, hl, hq⟩ := List.mem_flatten.mp hq
  obtain ⟨k, hk, rfl⟩ := List.mem_map.mp hl
  have hk := List.mem_range.mp hk
  have h3 := ok.n3
  have h4 := ok.m4
  rcases List.mem_append.mp hq with z | z
  · rw [heRow_mem z]
    show k ≤ 3; omega
  · obtain ⟨m, hm, e⟩ := inRow_mem z
    rw [e]
    exact ⟨by omega, by omega⟩
theorem water_le {B : Basin} (ok : B.Ok) (o : Org) : tot (esWater B) o ≤ 100 := by
  rw [tot_water ok, sm_add]
  cases o with
  | held k =>
    have e2 : sm B.cells (fun c => if Org.inn c.1 c.2 = Org.held k then B.inf c else 0) = 0 := sm_zero fun c _ => if_neg (by simp)
    rw [e2]
    have e1 : sm B.cells (fun c => if 0 < c.2 then 0 else if Org.held c.1 = Org.held k then (B.at c.1).held else 0) = sm B.cells fun c => if c = (k, 0) then (B.at k).held else 0 := sm_cong fun c _ => by
      obtain ⟨c1, c2⟩ := c
      by_cases z : 0 < c2
      · rw [if_pos z, if_neg (fun e => by cases e; exact absurd z (Nat.lt_irrefl _))]
      · have hz : c2 = 0 := by omega
        subst hz
        rw [if_neg z]
        by_cases y : c1 = k
        · subst y
          rw [if_pos rfl, if_pos rfl]
        · rw [if_neg (by simpa using y), if_neg (fun e => y (congrArg Prod.fst e))]
    rw [e1]
    by_cases hin : (k, 0) ∈ B.cells
    · rw [sm_one (f := fun _ => (B.at k).held) (cells_nodup B) hin]
      have s := ok.s (mem_cells.mp hin).1
      have h1 := s.held
      have h2 := s.room
      show (B.at k).held + 0 ≤ 100
      have h3 : (B.at k).held ≤ (B.at k).room := h1
      have h4 : (B.at k).room ≤ 100 := h2
      omega
    · rw [sm_off (f := fun _ => (B.at k).held) hin]; decide
  | inn k m =>
    have e1 : sm B.cells (fun c => if 0 < c.2 then 0 else if Org.held c.1 = Org.inn k m then (B.at c.1).held else 0) = 0 := sm_zero fun c _ => by
      split
      · rfl
      · exact if_neg (by simp)
    rw [e1]
    have e2 : sm B.cells (fun c => if Org.inn c.1 c.2 = Org.inn k m then B.inf c else 0) = sm B.cells fun c => if c = (k, m) then B.inf c else 0 := sm_cong fun c _ => by
      obtain ⟨c1, c2⟩ := c
      by_cases y : (c1, c2) = (k, m)
      · cases y
        rw [if_pos rfl, if_pos rfl]
      · rw [if_neg (fun e => y (by cases e; rfl)), if_neg y]
    rw [e2]
    by_cases hin : (k, m) ∈ B.cells
    · rw [sm_one (f := fun c => B.inf c) (cells_nodup B) hin]
      have hc := mem_cells.mp hin
      have h := infAt ok hc
      rw [List.getElem?_map] at h
      cases e : (B.at k).inflows[m]? with
      | none => rw [e] at h; cases h
      | some x =>
        rw [e] at h
        have e2 : x = B.inf (k, m) := by
          have := Option.some.inj h
          injection this
        have h1 := ((ok.s hc.1).inf x (List.mem_of_getElem? e)).2
        rw [e2] at h1
        show 0 + B.inf (k, m) ≤ 100
        omega
    · rw [sm_off (f := fun c => B.inf c) hin]; decide
theorem traceAll_le {B : Basin} (ok : B.Ok) {R : List Right} {p : Plan} : RowsLe (traceAll B R p) 728 := by
  have h := traceTo_le ok (R := R) (p := p) B.cells.length (Nat.le_refl _)
  rw [traceTo_all] at h
  have h6 : B.cells.length ≤ 6 := by rw [cells_len]; exact ok.six
  have hb : rowB B.cells.length ≤ 728 := rowB_mono h6
  exact ⟨fun x => Nat.le_trans (h.giv x) hb, fun x => Nat.le_trans (h.lts x) hb, fun x => Nat.le_trans (h.sto x) hb, fun x => Nat.le_trans (h.spi x) hb⟩
theorem parcels_show {B : Basin} (ok : B.Ok) {R : List Right} (rok : RightsOk B R) {p : Plan} (pn : PlanNN p) : ∃ es, parcelsD B R (traceAll B R p) = .tup es ∧ Shows es := by
  have hP := told_p (B := B) (R := R) (traceAll_p (B := B) (R := R) (p := p))
  have hE : EntOk (esTold B R (traceAll B R p)) := fun q hq => by
    have hk : q.1 ∈ (esTold B R (traceAll B R p)).map (·.1) := List.mem_map.mpr ⟨q, hq, rfl⟩
    refine ⟨water_key ok ((keys_same ok rok pn q.1).mp hk), hP q hq, ?_⟩
    have h1 := le_tot hP hq
    rw [tot_same ok rok pn] at h1
    have h2 := water_le ok q.1
    omega
  have hR : ∀ r ∈ allRows B R (traceAll B R p), EntOk r ∧ r.length ≤ 728 := fun r hr => ⟨fun q hq => hE q (by rw [← allRows_es]; exact List.mem_flatten.mpr ⟨r, hr, hq⟩), allRows_mem (traceAll_le ok) r hr⟩
  have hpl := prts_len ok rok (S := traceAll B R p)
  have hpart : ∀ x ∈ prts B R (traceAll B R p), FineD (partD x) 5 (3 * (4 * (728 * 23 + 1) + 1)) := fun x hx => fine_part (hpl x hx) fun r hr => hR r (List.mem_append_right _ (by
    obtain ⟨rs, h1, h2⟩ := List.mem_flatten.mp hr
    exact List.mem_flatten.mpr ⟨rs, List.mem_flatten.mpr ⟨x, hx, h1⟩, h2⟩))
  have hsto : FineD (.tup ((stoRows B (traceAll B R p)).map rowT)) 5 (3 * (728 * 23 + 1)) := by
    have h3 := ok.n3
    refine (fine_tup (n := 3) (dep := 3) (w := 728 * 23) (fun d hd => ?_) (by unfold stoRows; rw [List.length_map, List.length_map, List.length_range]; exact h3)).le (by decide) (Nat.le_refl _)
    obtain ⟨r, hr, rfl⟩ := List.mem_map.mp hd
    obtain ⟨h1, h2⟩ := hR r (List.mem_append_left _ hr)
    exact fine_row h1 h2
  have p0 := hpart _ (show tab3 R.length B.months (traceAll B R p).giv ∈ prts B R (traceAll B R p) from List.mem_cons_self ..)
  have p1 := hpart _ (show tab3 B.sites.length B.months (traceAll B R p).spi ∈ prts B R (traceAll B R p) from List.mem_cons_of_mem _ (List.mem_cons_self ..))
  have p2 := hpart _ (show tab3 B.sites.length B.months (lostOf B (traceAll B R p)) ∈ prts B R (traceAll B R p) from List.mem_cons_of_mem _ (List.mem_cons_of_mem _ (List.mem_cons_self ..)))
  refine ⟨_, parcels_prts, ?_⟩
  have F := (FineL.cons p0 (FineL.cons hsto (FineL.cons p1 (FineL.cons p2 FineL.nil)))).tup
  refine ⟨F.ok, F.sh, F.nod, Nat.le_trans F.dep (by decide), ?_⟩
  exact PyData.shown_fits (B := 13) (by decide) (by decide) F.lv (Nat.le_trans F.w (by decide))
end Hw
set_option Elab.async false
set_option linter.all false
set_option maxRecDepth 100000
set_option maxHeartbeats 4000000
/-! The law. -/
namespace Hw
open PySem PySem.Spec L2
theorem cut_take (ds : List D) (m : Nat) : cutD ds none (some (m : Int)) = ds.take m := by
  unfold cutD
  rw [HT.sIx_none, HT.sIx_nat, List.drop_zero, Nat.sub_zero, List.take_eq_take_iff]
  omega
theorem cut_drop (ds : List D) (m : Nat) : cutD ds (some (m : Int)) none = ds.drop m := by
  unfold cutD
  rw [HT.sIx_none, HT.sIx_nat]
  by_cases h : m ≤ ds.length
  · rw [Nat.min_eq_left h, List.take_of_length_le (by rw [List.length_drop]; exact Nat.le_refl _)]
  · rw [Nat.min_eq_right (by omega), List.drop_length, List.drop_of_length_le (by omega)]
    simp
def bumpRow (r : List Int) (m : Nat) (x : Int) : List Int := (r.take m ++ [x]) ++ r.drop (m + 1)
def bumpTab (t : List (List Int)) (k : Nat) (r : List Int) : List (List Int) := (t.take k ++ [r]) ++ t.drop (k + 1)
theorem bumpRow_len {r : List Int} {m n : Nat} {x : Int} (h : r.length = n) (hm : m < n) : (bumpRow r m x).length = n := by
  unfold bumpRow
  rw [List.length_append, List.length_append, List.length_take, List.length_drop]
  show min m r.length + 1 + _ = n
  omega
theorem bumpTab_tab {t : List (List Int)} {k a b : Nat} {r : List Int} (T : Tab a b t) (hk : k < a) (hr : r.length = b) : Tab a b (bumpTab t k r) := by
  have h := T.1
  refine ⟨?_, fun x hx => ?_⟩
  · unfold bumpTab
    rw [List.length_append, List.length_append, List.length_take, List.length_drop]
    show min k t.length + 1 + _ = a
    omega
  · unfold bumpTab at hx
    rcases List.mem_append.mp hx with z | z
    · rcases List.mem_append.mp z with z | z
      · exact T.2 x (List.mem_of_mem_take z)
      · rw [List.mem_singleton] at z; rw [z]; exact hr
    · exact T.2 x (List.mem_of_mem_drop z)
theorem bumpRow_D {r : List Int} {m : Nat} {x : Int} : D.tup (((r.map D.int).take m ++ [D.int x]) ++ (r.map D.int).drop (m + 1)) = intsD (bumpRow r m x) := by
  unfold intsD bumpRow
  rw [List.map_append, List.map_append, List.map_take, List.map_drop]; rfl
theorem bumpTab_D {t : List (List Int)} {k : Nat} {r : List Int} : D.tup (((t.map intsD).take k ++ [intsD r]) ++ (t.map intsD).drop (k + 1)) = tabD (bumpTab t k r) := by
  unfold tabD bumpTab
  rw [List.map_append, List.map_append, List.map_take, List.map_drop]; rfl
section
variable {K : PySem.W.Frag} {ρ : List (Option D)} {μ : Mu} {ta tb te : TE} {b : Addr}
/-- a table of drawn rows -/
theorem we_drawTab {wi : TI} {vs : List Nat} {j n m : Nat} {es : List D} {Q : D → Mu → Prop} (hw : ∀ {PI : List D → (Mu → Prop) → Mu → Prop}, PI es (fun _ => True) μ → WI K wi ρ μ PI) (hz : es.length ≤ 1000) (B : Box μ b)
    (he : ∀ (d : D) μ' (R : D → Mu → Prop), FrB b μ μ' → Box μ' b → (∀ (xs : List Int) μ2, xs.length = m → (∀ y ∈ xs, 0 ≤ y ∧ y < (n : Int)) → FrB b μ' μ2 → Box μ2 b → R (intsD xs) μ2) → WE K te ((wipeR ρ vs).set j (some d)) μ' R)
    (k : ∀ (T : List (List Int)) μ', Tab es.length m T → (∀ i j, 0 ≤ get2 T i j) → FrB b μ μ' → Box μ' b → Q (.lst (T.map intsD)) μ') (hg : j ∈ vs := by simp) : WE K (tLc wi (gName j) tYes te vs) ρ μ Q := by
  refine we_lc (fun i acc μ' => ∃ T : List (List Int), acc = T.map intsD ∧ T.length = i ∧ (∀ r ∈ T, r.length = m ∧ ∀ y ∈ r, 0 ≤ y) ∧ FrB b μ μ' ∧ Box μ' b) (gok_name hg) (hw ⟨⟨[], rfl, rfl, fun y hy => (by cases hy), .refl, B⟩, fun i acc μ' h => ⟨trivial, ?_⟩, sz_of (by omega), ?_, ?_⟩)
  · obtain ⟨xs, rfl, h1, _⟩ := h
    rw [List.length_map]; omega
  · rintro i d acc μ' hd ⟨T, rfl, h1, h2, h3, h4⟩
    refine wg_name (WT.yes ⟨fun _ => he d μ' _ h3 h4 fun xs μ2 g1 g2 g3 g4 => ⟨T ++ [xs], by rw [List.map_append]; rfl, by rw [List.length_append]; show T.length + 1 = _; omega, fun r hr => ?_, h3.trans g3, g4⟩, fun h => by cases h⟩)
    rcases List.mem_append.mp hr with z | z
    · exact h2 r z
    · rw [List.mem_singleton] at z; rw [z]; exact ⟨g1, fun y hy => (g2 y hy).1⟩
  · rintro acc μ' ⟨T, rfl, h1, h2, h3, h4⟩
    refine k T μ' ⟨h1, fun r hr => (h2 r hr).1⟩ (fun i j => ?_) h3 h4
    unfold get2
    cases e : T[i]? with
    | none => exact Int.le_refl _
    | some r =>
      show 0 ≤ (r[j]?).getD 0
      cases e2 : r[j]? with
      | none => exact Int.le_refl _
      | some y => exact (h2 r (List.mem_of_getElem? e)).2 y (List.mem_of_getElem? e2)
/-- a table of zeros -/
theorem ev_zeros {wi : TI} {vs : List Nat} {j m : Nat} {es : List D} {tm : TE} (hm1 : 1 ≤ m) (hm : m ≤ 1000) (hi : WI K wi ρ μ fun ds inv μ' => ds = es ∧ μ' = μ ∧ inv μ) (hz : es.length ≤ 1000) (he : ∀ d, Ev K tm ((wipeR ρ vs).set j (some d)) μ (.int (m : Int))) (hg : j ∈ vs := by simp) :
    Ev K (tCB (rTupleOf K) (tCons (tLc wi (gName j) tYes (tOp (rRepA K) (tTup (tCons (tC (.int 0)) tNil)) tm) vs) tNil)) ρ μ (tabD (List.replicate es.length (List.replicate m 0))) := by
  refine ev_tupleOf (ds := (List.replicate es.length (List.replicate m 0)).map intsD) (ev_lc (es := es) (gok_name hg) (sz_of (by omega)) (by rw [List.length_map, List.length_replicate]) hi fun i d e hd h2 => ?_) (.inl rfl)
  rw [List.getElem?_map, List.getElem?_replicate] at h2
  split at h2
  · cases h2
    refine wg_name ⟨rfl, ?_⟩
    have h3 := ev_repA hm1 hm (ev_tup (ea_cons (ev_int (K := K) (ρ := (wipeR ρ vs).set j (some d)) (μ := μ) (i := 0)) ea_nil)) (he d)
    have e : D.tup (List.replicate m (D.int 0)) = intsD (List.replicate m 0) := by
      unfold intsD
      rw [List.map_replicate]
    rw [e] at h3
    exact h3
  · cases h2
/-- int(draw) % n -/
theorem we_drawMod {n : Nat} {Q : D → Mu → Prop} {tn tx : TE} (hb : Ev K tb ρ μ (.raw (.ref b))) (hn : Ev K tn ρ μ (.int ((90 : Nat) : Int))) (B : Box μ b) (hx : ∀ μ', Ev K tx ρ μ' (.int (n : Int))) (h1 : 0 < n) (k : ∀ (v : Nat) μ', v < n → FrB b μ μ' → Box μ' b → Q (.int (v : Int)) μ') : WE K (tOp (rI (fun _ j => 0 < j) fun i j => .int (i % j)) (tCB rInt1 (tCons (tCall (lift K S_law_draw) [] E0 (tCons tb (tCons tn tNil))) tNil)) tx) ρ μ Q := by
  refine we_op (we_cb (wa_cons (we_draw (n := 90) hb hn B fun v μ' hv f g => wa_nil (rb_int ((hx μ').go (ro_intC (f := fun i j => i % j) (C := fun _ j => 0 < j) (by omega) ?_))))))
  have e : (v : Int) % (n : Int) = ((v % n : Nat) : Int) := by omega
  rw [e]
  exact k _ μ' (Nat.mod_lt _ h1) f g
end
theorem Box.up {μ : Mu} {a b : Addr} {o : MO} (B : Box μ b) (h : μ a = none) : Box (μ.upd a o) b := by
  obtain ⟨is, k, h1, h2⟩ := B
  have : b ≠ a := fun z => by rw [z, h] at h2; cases h2
  exact ⟨is, k, h1, by rw [Mu.upd_ne this]; exact h2⟩
section
variable {P : Program} {w : World} {K : PySem.W.Frag} {mg : Str → Option Value} {base : Heap}
theorem sc_law : FnScope ["_law_script", "_law_box", "_law_basin_here", "_law_rights_here", "_law_targets", "_law_m", "_law_site", "_law_nothing", "_law_plan", "_law_right", "_law_told", "_law_k", "_law_row", "_law_other"] ["_law_script"] (defScope s_law) := ⟨rfl, rfl, rfl, by decide +kernel, rfl, by decide +kernel, by decide +kernel⟩
-- law: 0 _law_script, 1 _law_box, 2 _law_basin_here, 3 _law_rights_here, 4 _law_targets, 5 _law_m, 6 _law_site, 7 _law_nothing, 8 _law_plan, 9 _law_right, 10 _law_told, 11 _law_k, 12 _law_row, 13 _law_other
def S_law : Spec := fun ds μ Q => ∃ (ns : List Int), ds = [.sq (ns.map .int)] ∧ ns.length ≤ 63 ∧ ∀ μ', Q (.bl true) μ'
theorem len_law : S_law.len 1 := fun ds μ Q h => by obtain ⟨_, rfl, _⟩ := h; rfl
theorem law_ok (Y : Fy P K mg) : ∃ fd : FuncData, (∀ (s : Shared) (v : Value), BindsTo s fd ⟨[v], []⟩ [("_law_script", v)]) ∧ mg "law" = some (.ref (He.fAd K d_law.at_)) ∧ ∀ base : Heap, FnG P w K mg base 11 (He.fAd K d_law.at_) fd ["_law_script"] (lift K S_law) := by
  have Fx := Y.fx
  have hlen : Spec.len S_law 1 := len_law
  obtain ⟨fd, F⟩ := Fx.c.def_ 58 (d := d_law) rfl
  have bA := FunD.bindsA (ps := ["_law_script"]) F fun _ _ _ _ _ _ us hl => match us, hl with | [_], _ => rfl
  refine ⟨fd, fun s v => bA s [v] rfl, Fx.glo 40, fun base => fngok F sc_law hlen (fun cdv A outer s H E hr hg => ?_)⟩
  have hu := hu_of hr
  have nd := sc_law.nd
  refine ⟨_, (pss_cons (ps_set (i := 1) nd rfl (by first | exact Or.inl rfl | exact Or.inr rfl) (pe_lst (pa_cons (k_cal (c_law_digits Fx) hr (by decide) rfl (pa_cons (pv 0) (pa_cons pe_int (pa_cons pe_int pa_nil)))) (pa_cons pe_int pa_nil))))
      (pss_cons (ps_set (i := 2) nd rfl (by first | exact Or.inl rfl | exact Or.inr rfl) (k_cal (c_law_basin Fx) hr (by decide) rfl (pa_cons (pv 1) pa_nil)))
      (pss_cons (ps_set (i := 3) nd rfl (by first | exact Or.inl rfl | exact Or.inr rfl) (k_cal (c_law_rights Fx) hr (by decide) rfl (pa_cons (pv 1) (pa_cons (pv 2) (pa_cons pe_int pa_nil)))))
      (pss_cons (ps_set (i := 4) nd rfl (by first | exact Or.inl rfl | exact Or.inr rfl) (pe_callTy (k_tuple (K := K)) (by rfl) (Fx.free 101) (by decide +kernel) (pa_cons (pe_lc (own := [("_law_site", 6)]) (g := (gName 6)) (tt := tYes) rfl nd (k_tup_ (K := K) (pe_ix (k_ix (K := K)) (pv 2) pe_int (fun _ _ => rfl))) (blkOk_by (by kernel_rfl)) (fun _ _ _ _ _ => by exact (pg_name (i := 6) nd rfl (by first | exact Or.inl rfl | exact Or.inr rfl))) (fun _ _ _ _ _ => by exact pts_nil) (fun _ _ _ _ _ => by exact (pe_callTy (k_tuple (K := K)) (by rfl) (Fx.free 101) (by decide +kernel) (pa_cons (pe_lc (own := [("_law_m", 5)]) (g := (gName 5)) (tt := tYes) rfl nd (pi_range1 rfl (Fx.free 98) (pa_cons (pe_ix (k_ix (K := K)) (pv 2) pe_int (fun _ _ => rfl)) pa_nil)) (blkOk_by (by kernel_rfl)) (fun _ _ _ _ _ => by exact (pg_name (i := 5) nd rfl (by first | exact Or.inl rfl | exact Or.inr rfl))) (fun _ _ _ _ _ => by exact pts_nil) (fun _ _ _ _ _ => by exact (k_cal (c_law_draw Fx) hr (by decide) rfl (pa_cons (pv 1) (pa_cons pe_int pa_nil))))) pa_nil)))) pa_nil)))
      (pss_cons (ps_set (i := 7) nd rfl (by first | exact Or.inl rfl | exact Or.inr rfl) (pe_callTy (k_tuple (K := K)) (by rfl) (Fx.free 101) (by decide +kernel) (pa_cons (pe_lc (own := [("_law_site", 6)]) (g := (gName 6)) (tt := tYes) rfl nd (k_tup_ (K := K) (pe_ix (k_ix (K := K)) (pv 2) pe_int (fun _ _ => rfl))) (blkOk_by (by kernel_rfl)) (fun _ _ _ _ _ => by exact (pg_name (i := 6) nd rfl (by first | exact Or.inl rfl | exact Or.inr rfl))) (fun _ _ _ _ _ => by exact pts_nil) (fun _ _ _ _ _ => by exact (pe_op (k_repA (K := K)) (pe_tup (pa_cons pe_int pa_nil)) (pe_ix (k_ix (K := K)) (pv 2) pe_int (fun _ _ => rfl))))) pa_nil)))
      (pss_cons (ps_for PassesOwn.never rfl (k_tup_ (K := K) (pe_tup (pa_cons (k_cal (c_operation Fx) hr (by decide) rfl (pa_cons (pv 2) (pa_cons (pv 3) pa_nil))) (pa_cons (k_cal (c_run_by Fx) hr (by decide) rfl (pa_cons (pv 2) (pa_cons (pv 3) (pa_cons (pv 4) pa_nil)))) (pa_cons (pe_tup (pa_cons (pe_callTy (k_tuple (K := K)) (by rfl) (Fx.free 101) (by decide +kernel) (pa_cons (pe_lc (own := [("_law_right", 9)]) (g := (gName 9)) (tt := tYes) rfl nd (k_tup_ (K := K) (pv 3)) (blkOk_by (by kernel_rfl)) (fun _ _ _ _ _ => by exact (pg_name (i := 9) nd rfl (by first | exact Or.inl rfl | exact Or.inr rfl))) (fun _ _ _ _ _ => by exact pts_nil) (fun _ _ _ _ _ => by exact (pe_op (k_repA (K := K)) (pe_tup (pa_cons pe_int pa_nil)) (pe_ix (k_ix (K := K)) (pv 2) pe_int (fun _ _ => rfl))))) pa_nil)) (pa_cons (pv 7) (pa_cons (pv 7) pa_nil)))) pa_nil))))) (pg_name (i := 8) nd rfl (by first | exact Or.inl rfl | exact Or.inr rfl)) (pss_cons (ps_set (i := 10) nd rfl (by first | exact Or.inl rfl | exact Or.inr rfl) (k_cal (c_parcels Fx) hr (by decide) rfl (pa_cons (pv 2) (pa_cons (pv 3) (pa_cons (pv 8) pa_nil)))))
      (pss_cons (ps_if (PW.pt (pw_or (pt_not (k_tru (K := K) (k_calG (c_law_same Fx) hr (by decide) hg rfl (pa_cons (pv 10) (pa_cons (k_cal (c_law_due Fx) hr (by decide) rfl (pa_cons (pv 2) (pa_cons (pv 3) (pa_cons (pv 8) pa_nil)))) pa_nil))))) (pw_or1 (pt_cmpR (op_ne_dT hu) (k_cal (c_law_amounts Fx) hr (by decide) rfl (pa_cons (pv 10) pa_nil)) (k_cal (c_law_water Fx) hr (by decide) rfl (pa_cons (pv 2) pa_nil)) (nomark _))))) (pss_one (ps_ret pe_bl)) pss_nil)
      (pss_cons (ps_set (i := 11) nd rfl (by first | exact Or.inl rfl | exact Or.inr rfl) (pe_op op_mod (pe_callTy call_intA (by rfl) (Fx.free 106) (by decide +kernel) (pa_cons (k_cal (c_law_draw Fx) hr (by decide) rfl (pa_cons (pv 1) (pa_cons pe_int pa_nil))) pa_nil)) (pe_callB (k_len (K := K)) (by rfl) (Fx.free 97) PySem.boot_len (pa_cons (pe_ix (k_ix (K := K)) (pv 2) pe_int (fun _ _ => rfl)) pa_nil))))
      (pss_cons (ps_set (i := 5) nd rfl (by first | exact Or.inl rfl | exact Or.inr rfl) (pe_op op_mod (pe_callTy call_intA (by rfl) (Fx.free 106) (by decide +kernel) (pa_cons (k_cal (c_law_draw Fx) hr (by decide) rfl (pa_cons (pv 1) (pa_cons pe_int pa_nil))) pa_nil)) (pe_ix (k_ix (K := K)) (pv 2) pe_int (fun _ _ => rfl))))
      (pss_cons (ps_set (i := 12) nd rfl (by first | exact Or.inl rfl | exact Or.inr rfl) (pe_op (k_catA (K := K)) (pe_op (k_catA (K := K)) (pe_slice (k_sl (K := K)) (pe_ix (k_ix (K := K)) (pe_ix (k_ix (K := K)) (pv 8) pe_int (fun _ _ => rfl)) (pv 11) (fun _ _ => rfl)) po_none (po_some (pv 5))) (pe_tup (pa_cons (pe_op op_add (pe_op op_add (pe_ix (k_ix (K := K)) (pe_ix (k_ix (K := K)) (pe_ix (k_ix (K := K)) (pv 8) pe_int (fun _ _ => rfl)) (pv 11) (fun _ _ => rfl)) (pv 5) (fun _ _ => rfl)) pe_int) (k_cal (c_law_draw Fx) hr (by decide) rfl (pa_cons (pv 1) (pa_cons pe_int pa_nil)))) pa_nil))) (pe_slice (k_sl (K := K)) (pe_ix (k_ix (K := K)) (pe_ix (k_ix (K := K)) (pv 8) pe_int (fun _ _ => rfl)) (pv 11) (fun _ _ => rfl)) (po_some (pe_op op_add (pv 5) pe_int)) po_none)))
      (pss_cons (ps_set (i := 13) nd rfl (by first | exact Or.inl rfl | exact Or.inr rfl) (pe_tup (pa_cons (pe_ix (k_ix (K := K)) (pv 8) pe_int (fun _ _ => rfl)) (pa_cons (pe_ix (k_ix (K := K)) (pv 8) pe_int (fun _ _ => rfl)) (pa_cons (pe_op (k_catA (K := K)) (pe_op (k_catA (K := K)) (pe_slice (k_sl (K := K)) (pe_ix (k_ix (K := K)) (pv 8) pe_int (fun _ _ => rfl)) po_none (po_some (pv 11))) (pe_tup (pa_cons (pv 12) pa_nil))) (pe_slice (k_sl (K := K)) (pe_ix (k_ix (K := K)) (pv 8) pe_int (fun _ _ => rfl)) (po_some (pe_op op_add (pv 11) pe_int)) po_none)) pa_nil)))))
      (pss_one (ps_if (PW.pt (pw_and (pt_cmp (pc_notN (k_cal (c_law_plan_fault Fx) hr (by decide) rfl (pa_cons (pv 2) (pa_cons (pv 3) (pa_cons (pv 13) pa_nil)))))) (pw_and1 (pt_not (k_tru (K := K) (k_cal (c_law_refused Y) hr (by decide) rfl (pa_cons (pv 2) (pa_cons (pv 3) (pa_cons (pv 13) pa_nil))))))))) (pss_one (ps_ret pe_bl)) pss_nil)))))))))
      (pss_one (ps_ret pe_bl)))))))), fun ds μ Pq hS => ?_⟩
  obtain ⟨ns, rfl, hl, q⟩ := hS
  refine pw_seq (pw_set (we_lstN (wa_cons (we_call ((ea_cons (V' 0) (ea_cons ev_int (ea_cons ev_int ea_nil))).go ⟨ns, rfl, hl, fun is his => wa_cons (ev_int.go (wa_nil ⟨by show 2 ≤ sizeLine; decide, fun b hb => ?_⟩))⟩) mono_law_digits))))
  have B0 : Box (μ.upd b (.lst [.lst (is.map .int), .int 0])) b := ⟨is, 0, his, Mu.upd_same⟩
  generalize μ.upd b (.lst [.lst (is.map .int), .int 0]) = μ0 at B0
  refine pw_seq (pw_set (we_call ((ea_cons (V' 1) ea_nil).go ⟨b, rfl, B0, fun B μ1 ok fr1 B1 => ?_⟩) mono_law_basin))
  refine pw_seq (pw_set (we_call ((ea_cons (V' 1) (ea_cons (V' 2) (ea_cons ev_int ea_nil))).go ⟨b, B, rfl, ok, B1, fun R μ2 rok fr2 B2 => ?_⟩) mono_law_rights))
  have hn1 := ok.n1
  have hn3 := ok.n3
  have hm1 := ok.m1
  have hm4 := ok.m4
  have hR3 := rok.1
  have hsl : (B.sites.mapIdx siteD).length = B.sites.length := List.length_mapIdx
  refine pw_seq (pw_set (we_tupleOf (we_drawTab (n := 6) (m := B.months) (b := b) (es := B.sites.mapIdx siteD) (fun p => wi_tupE (ev_ix (V' (d := basinD B) 2) ev_int) p) (by omega) B2 (fun d μ' Rr _ B' k => we_tupleOf (we_draws (n := 6) (b := b) (m := B.months) (ea_cons (ev_ix (V' (d := basinD B) 2) ev_int) ea_nil) (by omega) B' (fun i μ' _ _ B'' => we_draw (n := 6) (V' 1) ev_int B'' fun v μ2 hv f g => ⟨v, hv, rfl, f, g⟩) fun xs μ3 h1 h2 h3 h4 => ⟨xs.map .int, .inl rfl, k xs μ3 h1 h2 h3 h4⟩)) fun T μ3 hT hT0 fr3 B3 => ⟨T.map intsD, .inl rfl, ?_⟩)))
  rw [hsl] at hT
  have ez := ev_zeros (K := K) (ρ := [some (.sq (ns.map .int)), some (.raw (.ref b)), some (basinD B), some (rightsD R), some (tabD T), none, none, none, none, none, none, none, none, none]) (μ := μ3) (j := 6) (vs := [6]) hm1 (by omega) (wi_tupP (ds := B.sites.mapIdx siteD) (ev_ix (i := 1) (V' (d := basinD B) 2) ev_int)) (by omega) (fun d => ev_ix (i := 0) (V' (d := basinD B) 2) ev_int)
  rw [hsl] at ez
  refine q_set ez ?_
  clear ez
  refine pw_seq (pw_for (fun i ρ μ' => Box μ' b ∧ ∃ x5 x8 x10 x11 x12 x13, ρ = [some (.sq (ns.map .int)), some (.raw (.ref b)), some (basinD B), some (rightsD R), some (tabD T), x5, none, some (tabD (List.replicate B.sites.length (List.replicate B.months 0))), x8, none, x10, x11, x12, x13]) ?_)
  have hrl : (R.map rightD).length = R.length := List.length_map ..
  have ez2 := ev_zeros (K := K) (ρ := [some (.sq (ns.map .int)), some (.raw (.ref b)), some (basinD B), some (rightsD R), some (tabD T), none, none, some (tabD (List.replicate B.sites.length (List.replicate B.months 0))), none, none, none, none, none, none]) (μ := μ3) (j := 9) (vs := [9]) hm1 (by omega) (wi_tupP (ds := R.map rightD) (V' (d := rightsD R) 3)) (by omega) (fun d => ev_ix (i := 0) (V' (d := basinD B) 2) ev_int)
  rw [hrl] at ez2
  refine wi_tup (ds := []) (we_tup (wa_cons (we_call ((ea_cons (V' 2) (ea_cons (V' 3) ea_nil)).go ⟨B, R, rfl, ok, rok, fun F f p0 hF hf hN hO => ?_⟩) mono_operation)))
  have g0 := op_good ok rok hF hf hN hO
  have g1 := runBy_good ok rok hT0
  have g2 := noPlan_good ok rok
  refine (ev_call (ea_cons (V' 2) (ea_cons (V' 3) (ea_cons (V' 4) ea_nil))) ⟨B, R, T, rfl, ok, rok, hT, rfl, rfl⟩ mono_run_by).go ?_ |> wa_cons
  refine ((ev_tup (ea_cons ez2 (ea_cons (V' 7) (ea_cons (V' 7) ea_nil))) : Ev K _ _ _ (planD (noPlan B R))).go ?_) |> wa_cons
  refine wa_nil ⟨by show 3 ≤ sizeLine; decide, [planD p0, planD (runBy B R T), planD (noPlan B R)], rfl, ⟨B3, _, _, _, _, _, _, rfl⟩, fun _ _ _ _ => trivial, ?_, ?_⟩
  · rintro i d ρ μ4 hd ⟨B4, x5, x8, x10, x11, x12, x13, rfl⟩
    obtain ⟨p, rfl, g⟩ : ∃ p, d = planD p ∧ PlanGood B R p := by
      match i, hd with
      | 0, hd => cases hd; exact ⟨p0, rfl, g0⟩
      | 1, hd => cases hd; exact ⟨_, rfl, g1⟩
      | 2, hd => cases hd; exact ⟨_, rfl, g2⟩
    clear hd
    obtain ⟨es, hes, hsh⟩ := parcels_show ok rok (R := R) (p := p) g.nn
    refine wg_name (q_set (d := .tup es) (by rw [← hes]; exact ev_call (ea_cons (V' 2) (ea_cons (V' 3) (ea_cons (V' 8) ea_nil))) ⟨B, R, p, rfl, ok, rok, g.sh, g.fault, rfl, rfl⟩ mono_parcels) ?_)
    have hdue := ev_call (K := K) (E := E0) (d := .tup es) (ea_cons (V' (ρ := [some (.sq (ns.map .int)), some (.raw (.ref b)), some (basinD B), some (rightsD R), some (tabD T), x5, none, some (tabD (List.replicate B.sites.length (List.replicate B.months 0))), some (planD p), none, some (.tup es), x11, x12, x13]) (μ := μ4) 2) (ea_cons (V' 3) (ea_cons (V' 8) ea_nil))) ⟨B, R, p, rfl, ok, rok, g, hes, rfl⟩ mono_law_due
    have hsame := et_not (et_truB (ev_call (E := E0) (ea_cons (V' 10) (ea_cons hdue ea_nil)) ⟨es, rfl, hsh, rfl, rfl⟩ mono_law_same))
    refine pw_seq (pw_if (wt_or (hsame.go ⟨fun _ => ?_, fun z => by cases z⟩)))
    refine wt_test (we_op (we_call ((ea_cons (V' 10) ea_nil).go ⟨B, R, traceAll B R p, by rw [hes], ok, rok, ?_, fun a1 m1 h1 A1 => we_call ((ea_cons (V' 2) ea_nil).go ⟨B, rfl, ok, fun a2 m2 h2 A2 => ?_⟩) mono_law_water⟩) mono_law_amounts))
    · have hle := traceAll_le ok (R := R) (p := p)
      exact ⟨fun x => Nat.le_trans (hle.giv x) (by decide), fun x => Nat.le_trans (hle.lts x) (by decide), fun x => Nat.le_trans (hle.sto x) (by decide), fun x => Nat.le_trans (hle.spi x) (by decide)⟩
    have h12 : a1 ≠ a2 := fun z => by rw [← z, Mu.upd_same] at h2; cases h2
    obtain ⟨s1, s2⟩ := AmM.same A1 A2 (keys_same ok rok g.nn) (tot_same ok rok g.nn)
    refine ro_neDT (m := m1) (m' := m2) (by rw [Mu.upd_ne h12, Mu.upd_same]) Mu.upd_same s1 s2 ⟨false, rfl, fun z => (by cases z), fun _ => pw_next ?_⟩
    have B5 : Box ((μ4.upd a1 (.dct m1)).upd a2 (.dct m2)) b := (B4.up h1).up h2
    generalize (μ4.upd a1 (.dct m1)).upd a2 (.dct m2) = μ5 at B5
    show PW K _ _ _ _
    refine pw_seq (pw_set (we_drawMod (n := B.sites.length) (V' 1) ev_int B5 (fun μ' => ev_len (ev_ix (i := 1) (V' (d := basinD B) 2) ev_int) (.inl rfl)) (by omega) fun k μ6 hk fr6 B6 => ?_))
    refine pw_seq (pw_set (we_drawMod (n := B.months) (V' 1) ev_int B6 (fun μ' => ev_ix (i := 0) (V' (d := basinD B) 2) ev_int) (by omega) fun m μ7 hm fr7 B7 => ?_))
    have hrow : p.sto[k]? = some (p.sto[k]?.getD []) := by
      rw [List.getElem?_eq_getElem (by rw [g.sh.sto.1]; exact hk)]; rfl
    have hrl2 : (p.sto[k]?.getD []).length = B.months := by
      rw [List.getElem?_eq_getElem (by rw [g.sh.sto.1]; exact hk)]
      exact g.sh.sto.2 _ (List.getElem_mem _)
    generalize hrr : p.sto[k]?.getD [] = r at hrow hrl2
    have er : ∀ {μ : Mu}, Ev K (tOp (rIx K) (tOp (rIx K) (tVar 8) (tC (.int 2))) (tVar 11)) [some (.sq (ns.map .int)), some (.raw (.ref b)), some (basinD B), some (rightsD R), some (tabD T), some (.int (m : Int)), none, some (tabD (List.replicate B.sites.length (List.replicate B.months 0))), some (planD p), none, some (.tup es), some (.int (k : Int)), x12, x13] μ (intsD r) := fun {μ} => by
      rw [← hrr]
      exact ev_ixN (ev_ix (i := 2) (V' (d := planD p) 8) ev_int) (V' 11) (get2_row (j := 0) g.sh.sto hk)
    have em : ∀ {μ : Mu}, Ev K (tOp (rI0 fun i j => .int (i + j)) (tVar 5) (tC (.int 1))) [some (.sq (ns.map .int)), some (.raw (.ref b)), some (basinD B), some (rightsD R), some (tabD T), some (.int (m : Int)), none, some (tabD (List.replicate B.sites.length (List.replicate B.months 0))), some (planD p), none, some (.tup es), some (.int (k : Int)), x12, x13] μ (.int ((m + 1 : Nat) : Int)) := fun {μ} => by
      have e : ((m + 1 : Nat) : Int) = (m : Int) + 1 := by omega
      rw [e]
      exact ev_add (V' 5) ev_int
    have s1 := fun μ => ev_sl (er (μ := μ)) eo_none (eo_some (V' 5))
    have s2 := fun μ => ev_sl (er (μ := μ)) (eo_some em) eo_none
    simp only [cut_take, cut_drop] at s1 s2
    have hlr : (r.map D.int).length = B.months := by rw [List.length_map]; exact hrl2
    have eat : ∀ {μ : Mu}, Ev K (tOp (rIx K) (tOp (rIx K) (tOp (rIx K) (tVar 8) (tC (.int 2))) (tVar 11)) (tVar 5)) [some (.sq (ns.map .int)), some (.raw (.ref b)), some (basinD B), some (rightsD R), some (tabD T), some (.int (m : Int)), none, some (tabD (List.replicate B.sites.length (List.replicate B.months 0))), some (planD p), none, some (.tup es), some (.int (k : Int)), x12, x13] μ (.int (get2 p.sto k m)) := fun {μ} => ev_get2 (ev_ix (i := 2) (V' (d := planD p) 8) ev_int) (V' 11) (V' 5) g.sh.sto hk hm
    refine pw_seq (pw_set (we_op (we_op ((s1 μ7).go (we_tup (wa_cons (we_addI (ev_add eat ev_int) (we_draw (n := 3) (V' 1) ev_int B7 fun u μ8 hu8 fr8 B8 => ⟨_, rfl, wa_nil ⟨by show 1 ≤ sizeLine; decide, ro_catT (sz_of (by rw [List.length_take, hlr]; show min m B.months + 1 ≤ _; omega)) ((s2 μ8).go (ro_catT (sz_of (by rw [List.length_append, List.length_take, List.length_drop, hlr]; show min m B.months + 1 + _ ≤ _; omega)) ?_))⟩⟩))))))))
    rw [bumpRow_D]
    generalize get2 p.sto k m + 1 + (u : Int) = x
    have hbl := bumpRow_len (x := x) hrl2 hm
    generalize bumpRow r m x = r2 at hbl
    have hsl3 : (p.sto.map intsD).length = B.sites.length := by rw [List.length_map]; exact g.sh.sto.1
    have t0 : Ev K (tOp (rIx K) (tVar 8) (tC (.int 2))) [some (.sq (ns.map .int)), some (.raw (.ref b)), some (basinD B), some (rightsD R), some (tabD T), some (.int (m : Int)), none, some (tabD (List.replicate B.sites.length (List.replicate B.months 0))), some (planD p), none, some (.tup es), some (.int (k : Int)), some (intsD r2), x13] μ8 (tabD p.sto) := ev_ix (i := 2) (V' (d := planD p) 8) ev_int
    have ek : Ev K (tOp (rI0 fun i j => .int (i + j)) (tVar 11) (tC (.int 1))) [some (.sq (ns.map .int)), some (.raw (.ref b)), some (basinD B), some (rightsD R), some (tabD T), some (.int (m : Int)), none, some (tabD (List.replicate B.sites.length (List.replicate B.months 0))), some (planD p), none, some (.tup es), some (.int (k : Int)), some (intsD r2), x13] μ8 (.int ((k + 1 : Nat) : Int)) := by
      have e : ((k + 1 : Nat) : Int) = (k : Int) + 1 := by omega
      rw [e]
      exact ev_add (V' 11) ev_int
    have t1 := ev_sl t0 eo_none (eo_some (V' 11))
    have t2 := ev_sl t0 (eo_some ek) eo_none
    rw [cut_take] at t1
    rw [cut_drop] at t2
    have t3 := ev_op t1 (ev_tup (ea_cons (V' (d := intsD r2) 12) ea_nil)) (ro_catT (K := K) (P := fun d μ => d = _ ∧ μ = μ8) (sz_of (by rw [List.length_take, hsl3]; show min k B.sites.length + 1 ≤ _; omega)) ⟨rfl, rfl⟩)
    have t4 := ev_op t3 t2 (ro_catT (K := K) (P := fun d μ => d = _ ∧ μ = μ8) (sz_of (by rw [List.length_append, List.length_take, List.length_drop, hsl3]; show min k B.sites.length + 1 + _ ≤ _; omega)) ⟨rfl, rfl⟩)
    rw [bumpTab_D] at t4
    have sh' : Plan.Shape B R ⟨p.del, p.rel, bumpTab p.sto k r2⟩ := ⟨g.sh.del, g.sh.rel, bumpTab_tab g.sh.sto hk hbl⟩
    refine q_set (d := planD ⟨p.del, p.rel, bumpTab p.sto k r2⟩) (ev_tup (ea_cons (ev_ix (i := 0) (V' (d := planD p) 8) ev_int) (ea_cons (ev_ix (i := 1) (V' (d := planD p) 8) ev_int) (ea_cons t4 ea_nil)))) ?_
    generalize (⟨p.del, p.rel, bumpTab p.sto k r2⟩ : Plan) = p2 at sh'
    have ef := et_B (ev_notN (ev_call (K := K) (E := E0) (ea_cons (V' (ρ := [some (.sq (ns.map .int)), some (.raw (.ref b)), some (basinD B), some (rightsD R), some (tabD T), some (.int (m : Int)), none, some (tabD (List.replicate B.sites.length (List.replicate B.months 0))), some (planD p), none, some (.tup es), some (.int (k : Int)), some (intsD r2), some (planD p2)]) (μ := μ8) 2) (ea_cons (V' 3) (ea_cons (V' 13) ea_nil))) ⟨B, R, p2, rfl, ok, rok, sh', rfl, rfl⟩ mono_law_plan_fault))
    refine pw_if (wt_and (ef.go ⟨fun h => ?_, fun _ => ⟨fun z => (by cases z), fun _ => pw_next ⟨B8, _, _, _, _, _, _, rfl⟩⟩⟩))
    have hne : planFault B R p2 ≠ none := fun z => by rw [z] at h; cases h
    refine (et_not (et_truB (ev_call (E := E0) (d := .bl true) (ea_cons (V' 2) (ea_cons (V' 3) (ea_cons (V' 13) ea_nil))) ⟨⟨B, R, p2, rfl, ok, rok, sh', hne⟩, rfl, rfl⟩ mono_law_refused))).go ⟨fun z => (by cases z), fun _ => pw_next ⟨B8, _, _, _, _, _, _, rfl⟩⟩
  · rintro ρ μ4 ⟨B4, x5, x8, x10, x11, x12, x13, rfl⟩
    exact s_ret ev_bl (q _)
end
end Hw
set_option Elab.async false
set_option linter.all false
set_option maxRecDepth 100000
set_option maxHeartbeats 0
namespace Hw
open PySem PySem.Spec PyProof.Rows L2
theorem law_sp (K : PySem.W.Frag) (H : Hp) (a : Addr) (ns : List Int) (hl : ns.length ≤ 63) (hS : SqL K H a (ns.map V.int)) : lift K S_law [.ref a] H (fun v _ => v = .bl true) fun _ _ _ => False :=
  ⟨H, H, [.sq (ns.map .int)], fun _ => none, ⟨Ex.refl _, Ex.refl _, Ex.refl _, fun _ x _ => x, Sl.nil, fun b mo e => by cases e⟩, ⟨_, _, rfl, ⟨a, _, rfl, hS, IsL.ofInts ns⟩, rfl⟩, ns, rfl, hl, fun μ' v G' H' A i => i⟩
end Hw
open PySem PySem.W PySem.Calls PyProof.Rows
theorem PySem.Challenge.cw_heldwater_k47_parcels_followed_holds : PySem.Challenge.rw_heldwater_k47_parcels_followed.Holds := by
  w_on; o_law
  refine HandSHeadRun.head_any (r := Hw.R) (q := view Hw.R.prog [63]) (H := Hw.hk) (ob := Hw.ob) (M := 4000) (loose := Hw.loose) (d := HandSHeadRun.topDef Hw.R.prog 63) (kwd := []) Hw.ob_eq
    (by kernel_rfl) (fun s => by kernel_rfl) Hw.run (by kernel_rfl) (by kernel_rfl) (by kernel_rfl) (by rfl) (by first | assumption | decide +kernel) (by decide +kernel) ⟨rfl, rfl, rfl, rfl, rfl, by decide +kernel⟩ ?hw ?hc
  case hw => w_witness2
  case hc =>
    refine Hw.walk_G (l := PySem.Challenge.rw_heldwater_k47_parcels_followed) (n := 63) (k := 11) (x := "_law_script") rfl (by decide) (by kernel_rfl) ⟨rfl, by decide, by decide⟩ ?_
    intro w mg fa h Y G hmg0
    obtain ⟨K, KX, c⟩ := Y
    have hmg : mg ("law" : PySem.Str) = some (.ref fa) := by
      have e : (HandSHeadRun.topDef Hw.R.prog 63).name = ("law" : PySem.Str) := by kernel_rfl
      rw [← e]
      exact hmg0
    have Fy : Hw.Fy (PySem.Challenge.rw_heldwater_k47_parcels_followed).prog K mg := ⟨⟨c.d, h, KX, G⟩, c, by decide +kernel, by decide +kernel⟩
    obtain ⟨fd, hb, hm, hF⟩ := Hw.law_ok (w := w) Fy
    rw [hmg] at hm
    cases hm
    exact .of KX hb (fun base _ _ => hF base) fun ns H a _ hl hS => Hw.law_sp K H a ns hl hS
