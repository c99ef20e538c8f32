import PyProof.Rows.All
import Wide.All
import OpenK.AllK
import Wide.FinOn
import KE.DatumOrd
import KE.DataAny
import KE.DataIsa
import HandS.ForMost
import HandS.TupSets
import HandS.SetFor
import HandS.SortKw
import HandS.Exc
import HandS.ExcOwn
import HandS.TryOnly
import HandS.WordsExc
import HandS.CallSlots
import HandS.Deep
import HandS.Style
import HandS.TupAny
import HandS.TupMul
import HandS.Wide
import HandS.Rev
import KE.SortKeyHeap
import HandS.Conv
import HandS.More
import HandS.Set
import HandS.TupLen
import KE.DataMinMax
import PyProof.TupleOfStr
import HandS.WordsDict
import HandS.IsInst
import HandS.Text
import KE.DataFind
import HandS.Iter
import KE.GoesMore
import HandS.Zip
import HandS.DictComp
import HandS.NoneIn
import HandS.Small
import HandS.ListItems
import KE.KDictMeth
import KE.KDictList
import PyProof.ExcBaseAll.ValueError
import HandS.Codes
import HandS.Head0
import HandS.Head1
import HandS.Head2
import HandS.HeadEnd
import HandS.HeadHook1
import HandS.HeadHook2
import HandS.HeadHook4
import PySem.Challenge.RW_toldlots_k68_whole_matched_judged
set_option Elab.async false
set_option linter.all false
set_option maxRecDepth 100000
set_option maxHeartbeats 0
/-! TdB0: hashable data. -/
namespace Tdl
open PySem PySem.W
mutual
/-- a text, or a tuple of such -/
def hdk : PyData → Bool
  | .str _ => true
  | .tuple xs => hdks xs
  | _ => false
def hdks : List PyData → Bool
  | [] => true
  | x :: r => hdk x && hdks r
end
end Tdl
/-! TdSet0: texts and tuples of these (to any depth below 7) as members of a set. -/
namespace Tdl
open PySem PySem.W L2 PyProof.Rows

mutual
/-- the hash, by the datum -/
def hD (w : World) : PyData → Int
  | .str x => hashStr w x
  | .tuple xs => reduceHash (Builtin.Tuple.tupleHashOf (hDs w xs))
  | _ => 0
def hDs (w : World) : List PyData → List Int
  | [] => []
  | x :: r => hD w x :: hDs w r
end
theorem depth_tup (xs : List PyData) : (PyData.tuple xs).depth = PyData.depthAll xs + 1 := by simp [PyData.depth]
theorem depth_cons (x : PyData) (xs : List PyData) : PyData.depthAll (x :: xs) = max x.depth (PyData.depthAll xs) := by simp [PyData.depthAll]
mutual
theorem hdk_plain : ∀ d : PyData, hdk d = true → d.plain = true
  | .none, h => by cases h
  | .bool _, h => by cases h
  | .int _, h => by cases h
  | .str _, _ => rfl
  | .list _, h => by cases h
  | .tuple xs, h => hdks_plain xs h
  | .dict _, h => by cases h
theorem hdks_plain : ∀ ds : List PyData, hdks ds = true → PyData.plainAll ds = true
  | [], _ => rfl
  | d :: r, h => by
    simp only [hdks, Bool.and_eq_true] at h
    simp only [PyData.plainAll, Bool.and_eq_true]
    exact ⟨hdk_plain d h.1, hdks_plain r h.2⟩
end
mutual
theorem eqv_self : ∀ d : PyData, hdk d = true → PyData.eqv d d = true
  | .none, h => by cases h
  | .bool _, h => by cases h
  | .int _, h => by cases h
  | .str x, _ => by simp [PyData.eqv]
  | .list _, h => by cases h
  | .tuple xs, h => by
    simp only [PyData.eqv]
    exact eqv_selfs xs h
  | .dict _, h => by cases h
theorem eqv_selfs : ∀ ds : List PyData, hdks ds = true → PyData.eqvAll ds ds = true
  | [], _ => by simp [PyData.eqvAll]
  | d :: r, h => by
    simp only [hdks, Bool.and_eq_true] at h
    rw [PyData.eqvAll, eqv_self d h.1, eqv_selfs r h.2]
    rfl
end
mutual
theorem eqv_same : ∀ d e : PyData, hdk d = true → hdk e = true → PyData.eqv d e = true → d = e
  | .none, _, h, _, _ => by cases h
  | .bool _, _, h, _, _ => by cases h
  | .int _, _, h, _, _ => by cases h
  | .str x, e, _, h2, q => by
    cases e with
    | str y => rw [show x = y from by simpa [PyData.eqv] using q]
    | tuple ys => simp [PyData.eqv] at q
    | _ => cases h2
  | .list _, _, h, _, _ => by cases h
  | .tuple xs, e, h1, h2, q => by
    cases e with
    | str y => simp [PyData.eqv] at q
    | tuple ys =>
      simp only [PyData.eqv] at q
      rw [eqv_sames xs ys h1 h2 q]
    | _ => cases h2
  | .dict _, _, h, _, _ => by cases h
theorem eqv_sames : ∀ ds es : List PyData, hdks ds = true → hdks es = true → PyData.eqvAll ds es = true → ds = es
  | [], [], _, _, _ => rfl
  | [], _ :: _, _, _, q => by simp [PyData.eqvAll] at q
  | _ :: _, [], _, _, q => by simp [PyData.eqvAll] at q
  | d :: ds, e :: es, h1, h2, q => by
    simp only [hdks, Bool.and_eq_true] at h1 h2
    rw [PyData.eqvAll, Bool.and_eq_true] at q
    rw [eqv_same d e h1.1 h2.1 q.1, eqv_sames ds es h1.2 h2.2 q.2]
end
theorem eqv_dec {d e : PyData} (h1 : hdk d = true) (h2 : hdk e = true) : (PyData.eqv d e = true ↔ d = e) :=
  ⟨eqv_same d e h1 h2, fun q => by subst q; exact eqv_self d h1⟩
theorem hDs_map (w : World) : ∀ ds : List PyData, hDs w ds = ds.map (hD w)
  | [] => rfl
  | d :: r => by rw [hDs, hDs_map w r, List.map_cons]

section
variable {P : Program} {w : World} {h : Heap} {E : Value → Shared → Prop} {s : Shared}
mutual
theorem quiet_d : ∀ (d : PyData) (n : Nat) (A : Around) (v : Value) (as : List Addr) (Q : Bool → Shared → Prop), hdk d = true → d.depth ≤ n → Reads s.heap v d as → Q true s → wpAny (model P w) A (eqIsQuiet n v) Q E s
  | .none, _, _, _, _, _, h, _, _, _ => by cases h
  | .bool _, _, _, _, _, _, h, _, _, _ => by cases h
  | .int _, _, _, _, _, _, h, _, _, _ => by cases h
  | .list _, _, _, _, _, _, h, _, _, _ => by cases h
  | .dict _, _, _, _, _, _, h, _, _, _ => by cases h
  | .str x, n, A, v, as, Q, _, _, r, q => by
    cases r
    rw [eqIsQuiet_byValue n rfl]
    exact wpAny_pure q
  | .tuple xs, n, A, v, as, Q, hk, hd, r, q => by
    rw [depth_tup] at hd
    cases n with
    | zero => omega
    | succ n =>
      cases r with
      | @tuple a o vs m _ _ h1 h2 h3 h4 =>
        have hT : s.TypeIs (.ref a) "tuple" := ⟨o, h1, h2⟩
        have all := quiet_ds xs n vs.toList as hk (by omega) h4
        unfold eqIsQuiet
        refine wpAny_bind (wpAny_specialOf hT F.slot_tuple_eq.lookup ?_)
        show wpAny _ _ (isInstance (.ref a) (.type "tuple") >>= _) _ _ s
        refine wpAny_bind (wpAny_isInstance hT isSubtype_tuple_tuple ?_)
        simp only [Bool.not_true, Bool.false_eq_true, if_false]
        refine wpAny_bind (wpAny_seqItems h1 h3 (wpAny_bind ?_))
        show wpAny _ _ (forIn vs _ _) _ _ s
        rw [← Array.forIn_toList]
        refine wpAny_forIn_list _ (fun rest r s' => (r.1 = none ∧ s' = s) ∧ ∀ u ∈ rest, u ∈ vs.toList) _ ?_ ?_ _ _ ⟨⟨rfl, rfl⟩, fun u hu => hu⟩
        · rintro u rest r s' ⟨⟨hr, rfl⟩, sub⟩
          refine wpAny_bind (all u (sub u List.mem_cons_self) A _ ?_)
          simp only [Bool.not_true, Bool.false_eq_true, if_false]
          exact wpAny_pure ⟨⟨rfl, rfl⟩, fun z hz => sub z (List.mem_cons_of_mem _ hz)⟩
        · rintro ⟨r1, r2⟩ s' ⟨⟨hr, rfl⟩, _⟩
          simp only at hr
          subst hr
          exact wpAny_pure q
theorem quiet_ds : ∀ (ds : List PyData) (n : Nat) (vs : List Value) (as : List Addr), hdks ds = true → PyData.depthAll ds ≤ n → ReadsAll s.heap vs ds as → ∀ u ∈ vs, ∀ (A : Around) (Q : Bool → Shared → Prop), Q true s → wpAny (model P w) A (eqIsQuiet n u) Q E s
  | [], _, _, _, _, _, r, u, hu, _, _, _ => by
    cases r
    simp at hu
  | d :: ds, n, _, _, hk, hd, r, u, hu, A, Q, q => by
    simp only [hdks, Bool.and_eq_true] at hk
    rw [depth_cons] at hd
    cases r with
    | cons r1 r2 =>
      rcases List.mem_cons.mp hu with e | e
      · rw [e]
        exact quiet_d d n A _ _ Q hk.1 (by omega) r1 q
      · exact quiet_ds ds n _ _ hk.2 (by omega) r2 u e A Q q
end
mutual
theorem ofc_d : ∀ (d : PyData) (n : Nat) (A : Around) (v : Value) (as : List Addr) (Q : Bool → Shared → Prop), hdk d = true → d.depth ≤ n → Reads s.heap v d as → Q false s → wpAny (model P w) A (ofAClassStatement n v) Q E s
  | .none, _, _, _, _, _, h, _, _, _ => by cases h
  | .bool _, _, _, _, _, _, h, _, _, _ => by cases h
  | .int _, _, _, _, _, _, h, _, _, _ => by cases h
  | .list _, _, _, _, _, _, h, _, _, _ => by cases h
  | .dict _, _, _, _, _, _, h, _, _, _ => by cases h
  | .str x, n, A, v, as, Q, _, _, r, q => by
    cases r with
    | str _ t =>
      have e : ofAClassStatement n (.str x t) = pure false := by cases n <;> rfl
      rw [e]
      exact wpAny_pure q
  | .tuple xs, n, A, v, as, Q, hk, hd, r, q => by
    rw [depth_tup] at hd
    cases n with
    | zero => omega
    | succ n =>
      cases r with
      | @tuple a o vs m _ _ h1 h2 h3 h4 =>
        have hT : s.TypeIs (.ref a) "tuple" := ⟨o, h1, h2⟩
        have all := ofc_ds xs n vs.toList as hk (by omega) h4
        unfold ofAClassStatement
        refine wpAny_bind (wpAny_typeOf hT ?_)
        dsimp only
        have e : (("tuple" : String) == "tuple") = true := by decide
        simp only [e, if_true, Bool.not_true, Bool.false_eq_true, if_false]
        try refine wpAny_bind (wpAny_pure ?_)
        try simp only [Bool.not_true, Bool.false_eq_true, if_false]
        show wpAny _ _ (seqItems? (.ref a) >>= _) _ _ s
        refine wpAny_bind (wpAny_seqItems h1 h3 ?_)
        dsimp only
        refine wpAny_bind ?_
        show wpAny _ _ (forIn vs _ _) _ _ s
        rw [← Array.forIn_toList]
        refine wpAny_forIn_list _ (fun rest r s' => (r.1 = none ∧ s' = s) ∧ ∀ u ∈ rest, u ∈ vs.toList) _ ?_ ?_ _ _ ⟨⟨rfl, rfl⟩, fun u hu => hu⟩
        · rintro u rest r s' ⟨⟨hr, rfl⟩, sub⟩
          refine wpAny_bind (all u (sub u List.mem_cons_self) A _ ?_)
          simp only [Bool.false_eq_true, if_false]
          exact wpAny_pure ⟨⟨rfl, rfl⟩, fun z hz => sub z (List.mem_cons_of_mem _ hz)⟩
        · rintro ⟨r1, r2⟩ s' ⟨⟨hr, rfl⟩, _⟩
          simp only at hr
          subst hr
          exact wpAny_pure q
theorem ofc_ds : ∀ (ds : List PyData) (n : Nat) (vs : List Value) (as : List Addr), hdks ds = true → PyData.depthAll ds ≤ n → ReadsAll s.heap vs ds as → ∀ u ∈ vs, ∀ (A : Around) (Q : Bool → Shared → Prop), Q false s → wpAny (model P w) A (ofAClassStatement n u) Q E s
  | [], _, _, _, _, _, r, u, hu, _, _, _ => by
    cases r
    simp at hu
  | d :: ds, n, _, _, hk, hd, r, u, hu, A, Q, q => by
    simp only [hdks, Bool.and_eq_true] at hk
    rw [depth_cons] at hd
    cases r with
    | cons r1 r2 =>
      rcases List.mem_cons.mp hu with e | e
      · rw [e]
        exact ofc_d d n A _ _ Q hk.1 (by omega) r1 q
      · exact ofc_ds ds n _ _ hk.2 (by omega) r2 u e A Q q
end
mutual
theorem hbv_d : ∀ (d : PyData) (n : Nat) (A : Around) (v : Value) (as : List Addr) (Q : Bool → Shared → Prop), hdk d = true → Reads s.heap v d as → (∀ b, Q b s) → wpAny (model P w) A (hashByValue n v) Q E s
  | .none, _, _, _, _, _, h, _, _ => by cases h
  | .bool _, _, _, _, _, _, h, _, _ => by cases h
  | .int _, _, _, _, _, _, h, _, _ => by cases h
  | .list _, _, _, _, _, _, h, _, _ => by cases h
  | .dict _, _, _, _, _, _, h, _, _ => by cases h
  | .str x, n, A, v, as, Q, _, r, q => by
    cases r with
    | str _ t =>
      have e : hashByValue n (.str x t) = pure false := by cases n <;> rfl
      rw [e]
      exact wpAny_pure (q _)
  | .tuple xs, n, A, v, as, Q, hk, r, q => by
    cases r with
    | @tuple a o vs m _ _ h1 h2 h3 h4 =>
      cases n with
      | zero =>
        have e : hashByValue 0 (.ref a) = pure false := rfl
        rw [e]
        exact wpAny_pure (q _)
      | succ n =>
        have hT : s.TypeIs (.ref a) "tuple" := ⟨o, h1, h2⟩
        have all := hbv_ds xs n vs.toList as hk h4
        unfold hashByValue
        refine wpAny_bind (wpAny_specialOf hT F.slot_tuple_hash.lookup ?_)
        show wpAny _ _ (seqItems? (.ref a) >>= _) _ _ s
        refine wpAny_bind (wpAny_seqItems h1 h3 (wpAny_bind ?_))
        show wpAny _ _ (forIn vs _ _) _ _ s
        rw [← Array.forIn_toList]
        refine wpAny_forIn_list _ (fun rest r s' => (r.1 = none ∧ s' = s) ∧ ∀ u ∈ rest, u ∈ vs.toList) _ ?_ ?_ _ _ ⟨⟨rfl, rfl⟩, fun u hu => hu⟩
        · rintro u rest r s' ⟨⟨hr, rfl⟩, sub⟩
          refine wpAny_bind (all u (sub u List.mem_cons_self) A _ fun b => ?_)
          cases b with
          | true =>
            simp only [Bool.not_true, Bool.false_eq_true, if_false]
            exact wpAny_pure ⟨⟨rfl, rfl⟩, fun z hz => sub z (List.mem_cons_of_mem _ hz)⟩
          | false =>
            simp only [Bool.not_false, if_true]
            refine wpAny_pure ?_
            exact wpAny_pure (q _)
        · rintro ⟨r1, r2⟩ s' ⟨⟨hr, rfl⟩, _⟩
          simp only at hr
          subst hr
          exact wpAny_pure (q _)
theorem hbv_ds : ∀ (ds : List PyData) (n : Nat) (vs : List Value) (as : List Addr), hdks ds = true → ReadsAll s.heap vs ds as → ∀ u ∈ vs, ∀ (A : Around) (Q : Bool → Shared → Prop), (∀ b, Q b s) → wpAny (model P w) A (hashByValue n u) Q E s
  | [], _, _, _, _, r, u, hu, _, _, _ => by
    cases r
    simp at hu
  | d :: ds, n, _, _, hk, r, u, hu, A, Q, q => by
    simp only [hdks, Bool.and_eq_true] at hk
    cases r with
    | cons r1 r2 =>
      rcases List.mem_cons.mp hu with e | e
      · rw [e]
        exact hbv_d d n A _ _ Q hk.1 r1 q
      · exact hbv_ds ds n _ _ hk.2 r2 u e A Q q
end
mutual
theorem hash_d : ∀ (d : PyData) (A : Around) (s : Shared) (v : Value) (as : List Addr) (Q : Int → Shared → Prop), hdk d = true → A.units + d.depth < cLine → Reads s.heap v d as → (∀ tk, s.toks ≤ tk → Q (hD w d) { s with toks := tk }) → wpAny (model P w) A (pyHash v) Q E s
  | .none, _, _, _, _, _, h, _, _, _ => by cases h
  | .bool _, _, _, _, _, _, h, _, _, _ => by cases h
  | .int _, _, _, _, _, _, h, _, _, _ => by cases h
  | .list _, _, _, _, _, _, h, _, _, _ => by cases h
  | .dict _, _, _, _, _, _, h, _, _, _ => by cases h
  | .str x, A, s, v, as, Q, _, _, r, q => by
    cases r with
    | str _ t => exact wpAny_pyHash_str (q _ (Nat.le_succ _))
  | .tuple xs, A, s, v, as, Q, hk, hu, r, q => by
    rw [depth_tup] at hu
    cases r with
    | @tuple a o vs m _ _ h1 h2 h3 h4 =>
      have hT : s.TypeIs (.ref a) "tuple" := ⟨o, h1, h2⟩
      unfold pyHash
      first | unfold pyHashByItsType | skip
      first | refine wpAny_bind (wpAny_cRoomFor_or (.inr (by omega)) ?_) | skip
      refine wpAny_bind (wpAny_specialOf hT F.slot_tuple_hash.lookup ?_)
      show wpAny _ _ (if (some (Value.builtin "tuple.__hash__") == some Value.none) = true then _ else _) Q E s
      rw [if_neg (by rw [beq_builtin_none]; exact Bool.false_ne_true)]
      refine wpAny_bind (wpAny_specialOf hT F.slot_tuple_hash.lookup ?_)
      show wpAny _ _ (callSpecialIfBoundUnlessNone? (.ref a) "__hash__" _ >>= _) Q E s
      refine wpAny_bind (wpAny_callSpecialIfBoundUnlessNone?_slot hT F.slot_tuple_hash (wpAny_call_entry F.slot_tuple_hash hT F.entry_tuple_hash ?_ (F.args_tuple_hash_1 _)))
      show wpAny _ _ (Builtin.Tuple.tupleItemsOf (.ref a) >>= _) _ _ s
      refine wpAny_bind (wpAny_tupleItemsOf h1 h3 (wpAny_bind ?_))
      rw [← Array.forIn_toList]
      have all := hash_ds xs s.heap vs.toList as hk h4
      have hl : vs.toList.length = xs.length := SeqAt.ReadsAll.length _ _ _ h4
      refine wpAny_forIn_list _ (fun rest (b : Array Int) s' => ∃ j tk, rest = vs.toList.drop j ∧ b.toList = (hDs w xs).take j ∧ s.toks ≤ tk ∧ s' = { s with toks := tk }) _ ?_ ?_ _ _
        ⟨0, s.toks, rfl, rfl, Nat.le_refl _, rfl⟩
      · rintro u rest b s' ⟨j, tk, e1, hb, htk, rfl⟩
        have hj : vs.toList[j]? = some u := by
          have := congrArg (fun l => l[0]?) e1
          simpa using this.symm
        obtain ⟨d, hd, f⟩ := all j u hj
        refine wpAny_bind (f _ _ _ rfl ?_ fun tk2 htk2 => ?_)
        · have h1 : A.in1.units ≤ A.units + 1 := by first | exact Nat.le_refl _ | (simp [Around.in1, Around.units]; omega) | simp [Around.in1]
          omega
        · have fin : ∃ j' tk, rest = vs.toList.drop j' ∧ (b.push (hD w d)).toList = (hDs w xs).take j' ∧ s.toks ≤ tk ∧ ({ s with toks := tk2 } : Shared) = { s with toks := tk } := by
            refine ⟨j + 1, tk2, ?_, ?_, Nat.le_trans htk htk2, rfl⟩
            · rw [List.drop_add_one_eq_tail_drop, ← e1]
              rfl
            · rw [Array.toList_push, hb, List.take_succ, hDs_map, List.getElem?_map, hd]
              rfl
          first
            | exact wpAny_pure fin
            | exact wpAny_bind (wpAny_pure (wpAny_pure fin))
      · rintro b s' ⟨j, tk, e1, hb, htk, rfl⟩
        have hj : vs.toList.length ≤ j := List.drop_eq_nil_iff.mp e1.symm
        have hb2 : b.toList = hDs w xs := by
          rw [hb]
          refine List.take_of_length_le ?_
          rw [hDs_map, List.length_map, ← hl]
          exact hj
        show wpAny _ _ (retInt (Builtin.Tuple.tupleHashOf b.toList)) _ _ _
        rw [hb2]
        refine wpAny_ret_mkInt ?_
        have q' : ∀ tk, s.toks ≤ tk → Q (reduceHash (Builtin.Tuple.tupleHashOf (hDs w xs))) { s with toks := tk } := q
        unfold reduceHash at q'
        show wpAny _ _ (if (decide (-(2 : Int) ^ 63 ≤ Builtin.Tuple.tupleHashOf (hDs w xs)) && decide (Builtin.Tuple.tupleHashOf (hDs w xs) < 2 ^ 63)) = true then _ else _) Q E _
        by_cases hr : (decide (-(2 : Int) ^ 63 ≤ Builtin.Tuple.tupleHashOf (hDs w xs)) && decide (Builtin.Tuple.tupleHashOf (hDs w xs) < 2 ^ 63)) = true
        · rw [if_pos hr]
          simp only [if_pos hr] at q'
          exact wpAny_pure (q' _ (Nat.le_succ_of_le htk))
        · rw [if_neg hr]
          simp only [if_neg hr] at q'
          exact wpAny_bind (wpAny_rule (wpAny_pure (q' _ (Nat.le_succ_of_le htk))))
theorem hash_ds : ∀ (ds : List PyData) (h : Heap) (vs : List Value) (as : List Addr), hdks ds = true → ReadsAll h vs ds as → ∀ (j : Nat) (u : Value), vs[j]? = some u →
    ∃ d, ds[j]? = some d ∧ ∀ (A : Around) (s : Shared) (Q : Int → Shared → Prop), s.heap = h → A.units + PyData.depthAll ds < cLine → (∀ tk, s.toks ≤ tk → Q (hD w d) { s with toks := tk }) → wpAny (model P w) A (pyHash u) Q E s
  | [], _, _, _, _, r, j, u, hu => by
    cases r
    simp at hu
  | d :: ds, h, _, _, hk, r, j, u, hu => by
    simp only [hdks, Bool.and_eq_true] at hk
    rw [depth_cons]
    cases r with
    | cons r1 r2 =>
      cases j with
      | zero =>
        simp only [List.getElem?_cons_zero, Option.some.injEq] at hu
        subst hu
        refine ⟨d, rfl, fun A s Q e hu q => ?_⟩
        subst e
        exact hash_d d A s _ _ Q hk.1 (by omega) r1 q
      | succ j =>
        simp only [List.getElem?_cons_succ] at hu ⊢
        obtain ⟨d', e1, f⟩ := hash_ds ds h _ _ hk.2 r2 j u hu
        exact ⟨d', e1, fun A s Q e hu q => f A s Q e (by omega) q⟩
end
end
end Tdl
/-! TdSet1: a set of such data; adding. -/
namespace Tdl
open PySem PySem.W L2 PySem.Spec PyProof.Rows

/-- v is the hashable datum d -/
def IsH (h : Heap) (v : Value) (d : PyData) : Prop := (hdk d = true ∧ d.depth ≤ 6) ∧ ∃ as, Reads h v d as
abbrev Row := Value × PyData
def rws (w : World) (L : List Row) : List (Int × Value) := L.map fun p => (hD w p.2, p.1)
structure SX (w : World) (h : Heap) (a : Addr) (txt : Bool) (L : List Row) (es : Array (Int × Value)) (ep : Nat) (t : SetTable) : Prop where
  ob : ∃ o, h.get? a = some o ∧ o.ExactSet ∧ o.data = .set es ep t
  rows : es.toList = rws w L
  nd : (L.map (·.2)).Nodup
  el : ∀ p ∈ L, IsH h p.1 p.2
  led : w.params.followText "set-order" = true ∨ t.led = true
  few : L.length < 64
  fit : t.fits es.size = true
  ris : Ris t.place.toList
  tx : txt = true → ∀ p ∈ L, ∃ x k, p = (.str x k, .str x)
  tb : txt = false → (TabOk t (L.map fun p => hD w p.2) ∧ L.length * 5 < t.mask * 3) ∧ ∀ p ∈ L, ∃ b, p.1 = .ref b
section
variable {P : Program} {w : World} {A : Around} {E : Value → Shared → Prop} {s : Shared} {a : Addr} {txt : Bool} {L : List Row} {es : Array (Int × Value)} {ep : Nat} {t : SetTable}
theorem IsH.eqAt {v u : Value} {d e : PyData} (hv : IsH s.heap v d) (hu : IsH s.heap u e) (room : A.units + 10 < cLine) : SeqAt.EqAt A s v u (PyData.eqv d e) := by
  obtain ⟨⟨h1, h2⟩, as, r1⟩ := hv
  obtain ⟨⟨k1, k2⟩, bs, r2⟩ := hu
  exact SeqAt.eqAt_plain d e A s v u as bs r1 r2 (hdk_plain d h1) (hdk_plain e k1) (by omega)
theorem Reads.det : True := trivial
theorem rws_len (L : List Row) : (rws w L).length = L.length := List.length_map ..
theorem sz_of (hr : es.toList = rws w L) : es.size = L.length := by
  have := congrArg List.length hr
  rwa [rws_len, Array.length_toList] at this
theorem row_at (hr : es.toList = rws w L) {i : Nat} {p : Row} (h : L[i]? = some p) : es[i]? = some (hD w p.2, p.1) := by
  rw [← Array.getElem?_toList, hr]
  unfold rws
  rw [List.getElem?_map, h]
  rfl
/-- other objects may change, the set's and those read stay -/
theorem isH_keep {h h' : Heap} {v : Value} {d : PyData} (k : ∀ b o, h.get? b = some o → h'.get? b = some o) (x : IsH h v d) : IsH h' v d := ⟨x.1, x.2.choose, PyProof.Rows.Reads.keeps k x.2.choose_spec⟩
mutual
theorem reads_but : ∀ (d : PyData) {h h' : Heap} {v : Value} {as : List Addr}, hdk d = true → (∀ b o, h.get? b = some o → o.cls = .type "tuple" → h'.get? b = some o) → Reads h v d as → Reads h' v d as
  | .str _, _, _, _, _, _, _, r => by
    cases r
    exact .str _ _
  | .tuple xs, _, _, _, _, hk, k, r => by
    cases r with
    | tuple h1 h2 h3 h4 => exact .tuple (k _ _ h1 h2) h2 h3 (reads_buts xs hk k h4)
  | .none, _, _, _, _, hk, _, _ => by cases hk
  | .bool _, _, _, _, _, hk, _, _ => by cases hk
  | .int _, _, _, _, _, hk, _, _ => by cases hk
  | .list _, _, _, _, _, hk, _, _ => by cases hk
  | .dict _, _, _, _, _, hk, _, _ => by cases hk
theorem reads_buts : ∀ (ds : List PyData) {h h' : Heap} {vs : List Value} {as : List Addr}, hdks ds = true → (∀ b o, h.get? b = some o → o.cls = .type "tuple" → h'.get? b = some o) → ReadsAll h vs ds as → ReadsAll h' vs ds as
  | [], _, _, _, _, _, _, r => by
    cases r
    exact .nil
  | d :: ds, _, _, _, _, hk, k, r => by
    simp only [hdks, Bool.and_eq_true] at hk
    cases r with
    | cons r1 r2 => exact .cons (reads_but d hk.1 k r1) (reads_buts ds hk.2 k r2)
end
theorem isH_but {h h' : Heap} {v : Value} {d : PyData} {o : Obj} (ho : h.get? a = some o) (hd : o.data = .set es ep t) (hc : o.ExactSet) (sb : Heap.SameBut a h h') (x : IsH h v d) : IsH h' v d := by
  obtain ⟨h1, as, r⟩ := x
  refine ⟨h1, as, reads_but d h1.1 (fun b ob q qc => (sb.2 b fun e => ?_).trans q) r⟩
  subst e
  rw [ho] at q
  cases q
  rw [hc.1] at qc
  exact absurd qc (by decide)
theorem seen_h {v : Value} {d : PyData} {Q : Bool → Shared → Prop} (hv : IsH s.heap v d) {ys : List Value} (hy : ∀ y ∈ ys, ∃ e, IsH s.heap y e) (h : Q false s) : wpAny (model P w) A (searchCouldBeSeen v ys) Q E s := by
  unfold searchCouldBeSeen
  refine wpAny_bind ?_
  refine wpAny_forIn_list _ (fun rest r s' => (r.1 = none ∧ s' = s) ∧ ∀ y ∈ rest, y ∈ ys) _ ?_ ?_ _ _ ⟨⟨rfl, rfl⟩, fun y q => q⟩
  · rintro y rest r s' ⟨⟨hr, rfl⟩, sub⟩
    obtain ⟨e, he⟩ := hy y (sub y List.mem_cons_self)
    have sub' : ∀ y ∈ rest, y ∈ ys := fun z hz => sub z (List.mem_cons_of_mem _ hz)
    dsimp only
    refine iteInduction (motive := fun m => wpAny _ _ m _ _ _) (fun _ => ?_) fun _ => ?_
    · exact wpAny_pure ⟨⟨rfl, rfl⟩, sub'⟩
    · obtain ⟨⟨h1, h2⟩, as, r1⟩ := hv
      obtain ⟨⟨k1, k2⟩, bs, r2⟩ := he
      refine wpAny_bind (quiet_d d 8 A v as _ h1 (by omega) r1 ?_)
      simp only [Bool.not_true, Bool.false_eq_true, if_false]
      refine wpAny_bind (quiet_d e 8 A y bs _ k1 (by omega) r2 ?_)
      simp only [Bool.not_true, Bool.false_eq_true, if_false]
      refine wpAny_bind (ofc_d d 8 A v as _ h1 (by omega) r1 ?_)
      simp only [Bool.false_eq_true, if_false]
      refine wpAny_bind (ofc_d e 8 A y bs _ k1 (by omega) r2 ?_)
      simp only [Bool.false_eq_true, if_false]
      exact wpAny_pure ⟨⟨rfl, rfl⟩, sub'⟩
  · rintro ⟨r1, r2⟩ s' ⟨⟨hr, rfl⟩, _⟩
    simp only at hr
    subst hr
    exact wpAny_pure h
abbrev pr (t : SetTable) (g : Int) (c : Nat) : SetTable.Probe := nth t.mask (runAt t.mask (SetTable.bits g % (t.mask + 1)) (SetTable.bits g)) c
theorem pr_dm (t : SetTable) (g : Int) (c : Nat) : (pr t g c).dummy = none := by
  have go : ∀ (n : Nat) (p : SetTable.Probe), p.dummy = none → (nth t.mask p n).dummy = none := by
    intro n
    induction n with
    | zero => exact fun p h => h
    | succ n ih =>
      intro p h
      refine ih (adv t.mask p) ?_
      unfold adv
      split <;> exact h
  exact go c _ rfl
/-- the walk through the table from its c-th step on -/
theorem look_from (R : SX w s.heap a false L es ep t) {b : Addr} {d : PyData} (hx : IsH s.heap (.ref b) d) (hu : A.units + 10 < cLine) {m : Nat} (hmf : m < 10 * SetTable.turns t.mask)
    (hm : way t.mask (hD w d) m ∉ t.place.toList) (hmb : ∀ c, c < m → way t.mask (hD w d) c ∈ t.place.toList) {Q : SetFound → Shared → Prop}
    (hin : d ∈ L.map (·.2) → Q (.there none) s) (hout : d ∉ L.map (·.2) → Q (.free (way t.mask (hD w d) m) false) s) :
    ∀ (f c : Nat) (st : Option SetTable.Probe), st.getD (t.probeStart (hD w d)) = pr t (hD w d) c → c ≤ m → m - c < f →
      (∀ (i : Nat) p, L[i]? = some p → p.2 = d → ∃ c', c ≤ c' ∧ c' < m ∧ t.place.toList[i]? = some (way t.mask (hD w d) c')) →
      wpAny (model P w) A (setSearchFrom a (.ref b) (hD w d) true f st) Q E s
  | 0, _, _, _, _, hf, _ => absurd hf (Nat.not_lt_zero _)
  | f + 1, c, st, hst, hc, hf, hre => by
    obtain ⟨⟨T, rm⟩, _⟩ := R.tb rfl
    obtain ⟨o, ho, hex, hd⟩ := R.ob
    rw [setSearchFrom_succ]
    refine wpAny_bind (wpAny_setState_of ho hd R.fit ?_)
    dsimp only
    refine wp_if_neg (by unfold SetTable.gaveWay; rw [mask_odd T.mok]; decide) ?_
    try refine wpAny_bind (wpAny_pure ?_)
    have sh : ∀ q, nth t.mask (pr t (hD w d) c) q = pr t (hD w d) (c + q) := fun q => (nth_add t.mask c _ q).symm
    have e1 : ∀ q, (nth t.mask (pr t (hD w d) c) q).j = way t.mask (hD w d) (c + q) := fun q => congrArg SetTable.Probe.j (sh q)
    have spec := go_spec t T.ris T.dm (fun i => (es[i]?.map (·.1)).getD 0) (hD w d) (10 * SetTable.turns t.mask) (m - c) (pr t (hD w d) c) (pr_dm t _ c) (by omega)
      (fun q hq => by rw [e1]; exact hmb (c + q) (by omega)) (by rw [e1, show c + (m - c) = m by omega]; exact hm)
    have hashAt : ∀ (i : Nat) p, L[i]? = some p → (fun i => (es[i]?.map (·.1)).getD 0) i = hD w p.2 := fun i p hp => by
      show (es[i]?.map (·.1)).getD 0 = _
      rw [row_at R.rows hp]
      rfl
    rcases spec with ⟨q, i, hq, hi, hh, hno, hpr⟩ | ⟨hno, hpr⟩
    · have hpr' : t.probe (fun i => (es[i]?.map (·.1)).getD 0) (hD w d) (st.getD (t.probeStart (hD w d))) = some (.candidate (way t.mask (hD w d) (c + q)) i (pr t (hD w d) (c + (q + 1)))) := by
        rw [hst, ← e1, ← sh]
        exact hpr
      rw [hpr']
      dsimp only
      rw [e1] at hi
      have hil : i < L.length := by
        have h1 := (List.getElem?_eq_some_iff.mp hi).1
        have h2 := T.sz
        rw [List.length_map] at h2
        rw [Array.length_toList] at h1
        omega
      have hp : L[i]? = some L[i] := List.getElem?_eq_getElem hil
      generalize hpe : L[i] = p at hp
      have hmem : p ∈ L := List.mem_of_getElem? hp
      have hpt := R.el p hmem
      obtain ⟨pb, hpb⟩ := (R.tb rfl).2 p hmem
      have rest : wpAny (model P w) A (searchRest a (.ref b) (hD w d) true f es t (way t.mask (hD w d) (c + q)) i (pr t (hD w d) (c + (q + 1)))) Q E s := by
        unfold searchRest
        rw [row_at R.rows hp]
        dsimp only
        refine wpAny_bind (wpAny_holding (hpt.eqAt hx hu _ _ _ _ ?_))
        refine wpAny_bind (wpAny_setState_of ho hd R.fit ?_)
        dsimp only
        cases hkk : PyData.eqv p.2 d with
        | true =>
          have e := (eqv_dec hpt.1.1 hx.1.1).mp hkk
          refine wp_if_pos rfl ?_
          exact wpAny_pure (hin (List.mem_map.mpr ⟨p, hmem, e⟩))
        | false =>
          have ne : p.2 ≠ d := fun z => by rw [(eqv_dec hpt.1.1 hx.1.1).mpr z] at hkk; cases hkk
          refine wp_if_neg (by simp) ?_
          try refine wpAny_bind (wpAny_pure ?_)
          rw [sameMem]
          dsimp only
          have hsl : t.slot (way t.mask (hD w d) (c + q)) = .live i := slot_live T.ris hi
          simp only [if_true, hsl, row_at R.rows hp]
          rw [hpb]
          refine wpAny_bind (wpAny_isSame_ref_self (wpAny_bind (wpAny_pure ?_)))
          simp only [if_true]
          refine wp_if_neg (by simp) ?_
          refine look_from R hx hu hmf hm hmb hin hout f (c + (q + 1)) _ rfl (by omega) (by omega) fun i0 p0 h0 hk0 => ?_
          obtain ⟨c', a1, a2, a3⟩ := hre i0 p0 h0 hk0
          refine ⟨c', ?_, a2, a3⟩
          rcases Nat.lt_trichotomy c' (c + q) with z | z | z
          · refine absurd ((hashAt i0 p0 h0).trans (congrArg (hD w) hk0)) (hno (c' - c) i0 (by omega) ?_)
            rw [e1, show c + (c' - c) = c' by omega]
            exact a3
          · rw [z] at a3
            have s0 := slot_live T.ris a3
            rw [hsl] at s0
            injection s0 with s0
            rw [← s0, hp] at h0
            exact absurd ((congrArg Prod.snd (Option.some.inj h0)).trans hk0) ne
          · omega
      by_cases hl : t.led = true
      · refine wp_if_neg (by simp [hl]) ?_
        try refine wpAny_bind (wpAny_pure ?_)
        exact rest
      · refine wp_if_pos (by simp [hl]) ?_
        refine wpAny_bind (seen_h hx (fun y hy => ?_) ?_)
        · obtain ⟨e, he, ee⟩ := List.mem_map.mp hy
          have he2 : e ∈ es.toList := by
            have : e ∈ es ∧ e.1 = hD w d := by simpa using he
            simpa using this.1
          rw [R.rows] at he2
          obtain ⟨p2, hp2, e2⟩ := List.mem_map.mp he2
          refine ⟨p2.2, ?_⟩
          have := R.el p2 hp2
          rw [← ee, ← e2]
          exact this
        · refine wp_if_neg (by decide) ?_
          try refine wpAny_bind (wpAny_pure ?_)
          exact rest
    · have hpr' : t.probe (fun i => (es[i]?.map (·.1)).getD 0) (hD w d) (st.getD (t.probeStart (hD w d))) = some (.empty (way t.mask (hD w d) m) none) := by
        have e2 : way t.mask (hD w d) m = (nth t.mask (pr t (hD w d) c) (m - c)).j := by rw [e1, show c + (m - c) = m by omega]
        rw [hst, e2]
        exact hpr
      rw [hpr']
      dsimp only
      refine wpAny_pure (hout fun hmm => ?_)
      obtain ⟨p0, h0, hk0⟩ := List.mem_map.mp hmm
      obtain ⟨i0, hi0, e0⟩ := List.getElem_of_mem h0
      have h00 : L[i0]? = some p0 := by rw [List.getElem?_eq_getElem hi0, e0]
      obtain ⟨c', a1, a2, a3⟩ := hre i0 p0 h00 hk0
      refine hno (c' - c) i0 (by omega) ?_ ((hashAt i0 p0 h00).trans (congrArg (hD w) hk0))
      rw [e1, show c + (c' - c) = c' by omega]
      exact a3
theorem look_at (R : SX w s.heap a false L es ep t) {b : Addr} {d : PyData} (hx : IsH s.heap (.ref b) d) (hu : A.units + 10 < cLine) {Q : SetFound → Shared → Prop} (hin : d ∈ L.map (·.2) → Q (.there none) s)
    (hout : ∀ m, d ∉ L.map (·.2) → way t.mask (hD w d) m ∉ t.place.toList → (∀ c, c < m → way t.mask (hD w d) c ∈ t.place.toList) → Q (.free (way t.mask (hD w d) m) false) s) :
    wpAny (model P w) A (setSearch a (.ref b) (hD w d) true) Q E s := by
  obtain ⟨⟨T, rm⟩, _⟩ := R.tb rfl
  obtain ⟨m, hmf, hm, hmb⟩ := T.first (by rw [List.length_map]; omega) (hD w d)
  have big : m < 100000 := by
    have : 10 * SetTable.turns t.mask ≤ 1420 := by
      unfold SetTable.turns
      rcases T.mok with e | e | e <;> omega
    omega
  unfold setSearch
  refine look_from R hx hu hmf hm hmb hin (fun hn => hout m hn hm hmb) 100000 0 none rfl (Nat.zero_le _) (by omega) fun i p hp hk => ?_
  have hi : (L.map fun p => hD w p.2)[i]? = some (hD w d) := by
    rw [List.getElem?_map, hp, ← hk]
    rfl
  have hil : i < t.place.toList.length := by
    have h1 := (List.getElem?_eq_some_iff.mp hp).1
    have h2 := T.sz
    rw [List.length_map] at h2
    rw [Array.length_toList]
    omega
  have hj := List.getElem?_eq_getElem hil
  obtain ⟨c, hc, e⟩ := T.before hm hi hj
  exact ⟨c, Nat.zero_le _, hc, by rw [hj, e]⟩
end
end Tdl
/-! TdSet2: adding a member. -/
namespace Tdl
open PySem PySem.W L2 PySem.Spec PyProof.Rows

theorem perm_pull {α β : Type} {f : α → β} : ∀ {l : List β} {L : List α}, l.Perm (L.map f) → ∃ M : List α, M.map f = l ∧ M.Perm L
  | [], L, h => by
    have := h.length_eq
    rw [List.length_map] at this
    exact ⟨[], rfl, by rw [List.eq_nil_of_length_eq_zero (show L.length = 0 from this.symm)]⟩
  | b :: l, L, h => by
    obtain ⟨x, hx, e⟩ := List.mem_map.mp (h.mem_iff.mp List.mem_cons_self)
    obtain ⟨s, r, rfl⟩ := List.append_of_mem hx
    have h2 : l.Perm ((s ++ r).map f) := by
      have z : (b :: l).Perm (f x :: (s ++ r).map f) := by
        refine h.trans ?_
        rw [List.map_append, List.map_cons, List.map_append]
        exact List.perm_middle
      rw [e] at z
      exact List.Perm.cons_inv z
    obtain ⟨M, m1, m2⟩ := perm_pull h2
    exact ⟨x :: M, by rw [List.map_cons, m1, e], (m2.cons x).trans List.perm_middle.symm⟩
section
variable {P : Program} {w : World} {A : Around} {E : Value → Shared → Prop} {s : Shared} {a : Addr} {txt : Bool} {L : List Row} {es : Array (Int × Value)} {ep : Nat} {t : SetTable}
theorem rows_in {o : Obj} (ho : s.heap.get? a = some o) (hex : o.ExactSet) (hd : o.data = .set es ep t) {h' : Heap} (sb : Heap.SameBut a s.heap h') {L1 : List Row} {v : Value} {d : PyData} (pm : L1.Perm ((v, d) :: L)) (hx : IsH s.heap v d) (he : ∀ p ∈ L, IsH s.heap p.1 p.2) :
    ∀ p ∈ L1, IsH h' p.1 p.2 := fun p hp => by
  rcases List.mem_cons.mp (pm.mem_iff.mp hp) with e | hp
  · rw [e]
    exact isH_but ho hd hex sb hx
  · exact isH_but ho hd hex sb (he p hp)
/-- a table laid anew from its order -/
theorem rows_order (order : Array Nat) (hr : es.toList = rws w L) (hp : order.toList.Perm (List.range L.length)) :
    ∃ M, (order.filterMap (es[·]?)).toList = rws w M ∧ M.Perm L ∧ (M.map fun p => hD w p.2) = order.toList.map fun i => (es.map (·.1)).getD i 0 := by
  have key : ∀ l : List Nat, (∀ i ∈ l, i < L.length) → (l.filterMap fun i => es[i]?) = rws w (l.filterMap fun i => L[i]?) ∧ ((l.filterMap fun i => L[i]?).map fun p => hD w p.2) = l.map fun i => (es.map (·.1)).getD i 0 := by
    intro l
    induction l with
    | nil => exact fun _ => ⟨rfl, rfl⟩
    | cons i l ih =>
      intro hl
      have hi := hl i List.mem_cons_self
      obtain ⟨e1, e2⟩ := ih fun j hj => hl j (List.mem_cons_of_mem _ hj)
      have q := List.getElem?_eq_getElem hi
      have q2 := row_at hr q
      rw [List.filterMap_cons_some q2, List.filterMap_cons_some q, e1, List.map_cons, List.map_cons, e2]
      refine ⟨rfl, congrArg (· :: _) ?_⟩
      have q3 : (es.map (·.1))[i]? = some (hD w (L[i]).2) := by
        rw [Array.getElem?_map, q2]
        rfl
      simp [Array.getD_eq_getD_getElem?, q3]
  obtain ⟨e1, e2⟩ := key order.toList fun i hi => List.mem_range.mp (hp.mem_iff.mp hi)
  refine ⟨_, ?_, ?_, e2⟩
  · first | (rw [Array.toList_filterMap]; exact e1) | simpa using e1
  · have h1 := hp.filterMap fun i => L[i]?
    have h2 := krv_all L.toArray
    simp only [List.size_toArray, List.getElem?_toArray] at h2
    rw [h2] at h1
    exact h1
theorem lay_anew {o : Obj} (ho : s.heap.get? a = some o) (hex : o.ExactSet) (hd : o.data = .set es ep t) (hrows : es.toList = rws w L) (hsz : t.place.size = es.size) (hdm : t.dummies = #[]) (hfl : es.size ≤ t.mask)
    (nd : (L.map (·.2)).Nodup) (el : ∀ p ∈ L, IsH s.heap p.1 p.2) (rf : ∀ p ∈ L, ∃ b, p.1 = .ref b) (ld : w.params.followText "set-order" = true ∨ t.led = true) (few : L.length < 64) {want m : Nat}
    (hw : SetTable.sizeAbove want - 1 = m) (hM : MaskOk m) (hw2 : SetTable.sizeAbove want ≤ 128) (hn : L.length * 5 < m * 3) {Q : Unit → Shared → Prop}
    (hQ : ∀ h' L' es' ep' t', Heap.SameBut a s.heap h' → SX w h' a false L' es' ep' t' → L'.Perm L → Q () { s with heap := h' }) : wpAny (model P w) A (setRelay a want) Q E s := by
  have hsl : es.size = L.length := sz_of hrows
  have hfits : t.fits es.size = true := by
    unfold SetTable.fits SetTable.fill
    rw [hdm, Bool.and_eq_true, beq_iff_eq, decide_eq_true_eq]
    show t.place.size = es.size ∧ t.place.size + 0 ≤ t.mask
    omega
  obtain ⟨t', order, e, hp, T, em, el', ep', ed⟩ := relaid_ok t (hs := es.map (·.1)) (wanted := want) hw hM (by rw [Array.size_map, hsl]; omega)
  rw [Array.size_map, hsl] at hp
  obtain ⟨M, r1, r2, r3⟩ := rows_order order hrows hp
  rw [← r3] at T
  have hs2 : (order.filterMap (es[·]?)).size = es.size := by rw [sz_of r1, r2.length_eq, hsl]
  rw [setRelay_eq]
  refine wpAny_bind (wpAny_setState_of ho hd hfits ?_)
  dsimp only
  refine wp_if_neg (by rw [sizeLine_eq]; omega) ?_
  try refine wpAny_bind (wpAny_pure ?_)
  rw [e]
  dsimp only
  refine wpAny_bind ?_
  refine wp_if_neg (by rw [hs2]; simp) ?_
  try refine wpAny_bind (wpAny_pure ?_)
  refine wpAny_pure ?_
  dsimp only
  refine wpAny_storeSet_of ho hd ?_ (by rw [hs2, hsl, sizeLine_eq]; omega)
  have sb : Heap.SameBut a s.heap (s.heap.update a (Obj.putSet (order.filterMap (es[·]?)) t')) := Heap.SameBut.update ..
  have hml : M.length = L.length := r2.length_eq
  refine hQ _ M (order.filterMap (es[·]?)) (ep + 1) t' sb ?_ r2
  exact {
    ob := ⟨_, store_at ho hd, ⟨hex.1, hex.2.1, hex.2.2⟩, rfl⟩
    rows := r1
    nd := (r2.map (·.2)).nodup_iff.mpr nd
    el := fun p hp => isH_but ho hd hex sb (el p (r2.mem_iff.mp hp))
    led := by rw [el']; exact ld
    few := by rw [hml]; exact few
    fit := by
      have := T.sz
      rw [List.length_map] at this
      unfold SetTable.fits SetTable.fill
      rw [T.dm, Bool.and_eq_true, beq_iff_eq, decide_eq_true_eq, hs2, hsl]
      show t'.place.size = L.length ∧ t'.place.size + 0 ≤ t'.mask
      omega
    ris := T.ris
    tx := fun z => by cases z
    tb := fun _ => ⟨⟨T, by rw [hml, em]; exact hn⟩, fun p hp => rf p (r2.mem_iff.mp hp)⟩ }

/-- a tuple put in -/
theorem add_ref (R : SX w s.heap a false L es ep t) {x : Addr} {d : PyData} (hx : IsH s.heap (.ref x) d) (hu : A.units + 10 < cLine) (hfew : L.length + 1 < 64) {Q : Bool → Shared → Prop}
    (hQ : ∀ b h' L' es' ep' t', Heap.SameBut a s.heap h' → SX w h' a false L' es' ep' t' → (d ∈ L.map (·.2) → L' = L) → (d ∉ L.map (·.2) → L'.Perm ((.ref x, d) :: L)) → Q b { s with heap := h' }) :
    wpAny (model P w) A (setAddHashed a (.ref x) (hD w d)) Q E s := by
  obtain ⟨o, ho, hex, hd⟩ := R.ob
  obtain ⟨⟨T, rm⟩, rf⟩ := R.tb rfl
  have hsl : es.size = L.length := sz_of R.rows
  unfold setAddHashed
  refine wpAny_holding ?_
  rw [show (100000 : Nat) = 99999 + 1 from rfl, setAddHashedIn_succ]
  refine wpAny_bind (wpAny_setState_of ho hd R.fit ?_)
  dsimp only
  refine wp_if_neg (by simp [byScan, Value.scannable]) ?_
  try refine wpAny_bind (wpAny_pure ?_)
  refine wpAny_bind (look_at R hx hu (fun hm => ?_) fun m hm hK hb => ?_)
  · dsimp only
    exact wpAny_pure (hQ false s.heap L es ep t (Heap.SameBut.refl a s.heap) R (fun _ => rfl) fun z => absurd hm z)
  · dsimp only
    refine wpAny_bind (wpAny_setState_of ho hd R.fit ?_)
    dsimp only
    obtain ⟨q1, q2, q3, q4, q5, q6, q7, q8, q9⟩ := T.put hK hb
    generalize hpt : t.put (way t.mask (hD w d) m) = pt at q1 q3 q4 q5 q6 q7 q8 q9 ⊢
    obtain ⟨t1, p⟩ := pt
    dsimp only at q1 q3 q4 q5 q6 q7 q8 q9 ⊢
    subst q1
    obtain ⟨hk1, as, rd⟩ := hx
    -- by value or not: the table but for its mark
    have main : ∀ t2 : SetTable, t2.place = t1.place → t2.dummies = t1.dummies → t2.mask = t1.mask → t2.led = t1.led → t2.tooFull = t1.tooFull → TabOk t2 ((L.map fun p => hD w p.2).take (SetTable.below t.place (way t.mask (hD w d) m)) ++ hD w d :: (L.map fun p => hD w p.2).drop (SetTable.below t.place (way t.mask (hD w d) m))) →
        wpAny (model P w) A (storeSet a (SetTable.insertAt es (SetTable.below t.place (way t.mask (hD w d) m)) (hD w d, Value.ref x)) t2 >>= fun _ =>
          if (!false && t2.tooFull) = true then setRelay a (SetTable.grown (es.size + 1)) >>= fun _ => pure true else pure true) Q E s := by
      intro t2 e1 e2 e3 e4 e5 T2
      have hin : (SetTable.insertAt es (SetTable.below t.place (way t.mask (hD w d) m)) (hD w d, Value.ref x)).toList = rws w (L.take (SetTable.below t.place (way t.mask (hD w d) m)) ++ (.ref x, d) :: L.drop (SetTable.below t.place (way t.mask (hD w d) m))) := by
        rw [SetTable.toList_insertAt, R.rows]
        unfold rws
        rw [List.map_append, List.map_cons, List.map_take, List.map_drop]
      generalize hpp : SetTable.below t.place (way t.mask (hD w d) m) = p at q2 q3 hin T2 ⊢
      have pm := put_perm L p (.ref x, d)
      have hlen : (L.take p ++ (.ref x, d) :: L.drop p).length = L.length + 1 := pm.length_eq
      have hhs : (L.take p ++ ((.ref x, d) : Row) :: L.drop p).map (fun p => hD w p.2) = (L.map fun p => hD w p.2).take p ++ hD w d :: (L.map fun p => hD w p.2).drop p := by rw [List.map_append, List.map_cons, List.map_take, List.map_drop]
      rw [← hhs] at T2
      have nd1 : ((L.take p ++ ((.ref x, d) : Row) :: L.drop p).map (·.2)).Nodup := by
        refine (pm.map (·.2)).nodup_iff.mpr ?_
        rw [List.map_cons]
        exact List.nodup_cons.mpr ⟨hm, R.nd⟩
      have hes : (SetTable.insertAt es p (hD w d, Value.ref x)).size = L.length + 1 := by rw [sz_of hin, hlen]
      generalize SetTable.insertAt es p (hD w d, Value.ref x) = es1 at hin hes ⊢
      generalize L.take p ++ ((.ref x, d) : Row) :: L.drop p = L1 at pm hlen T2 nd1 hin
      refine wpAny_bind (wpAny_storeSet_of ho hd ?_ (by rw [hes, sizeLine_eq]; omega))
      have sb : Heap.SameBut a s.heap (s.heap.update a (Obj.putSet es1 t2)) := Heap.SameBut.update ..
      have ho1 := store_at (es' := es1) (t' := t2) ho hd
      generalize s.heap.update a (Obj.putSet es1 t2) = h1 at sb ho1 ⊢
      have el1 : ∀ p ∈ L1, IsH h1 p.1 p.2 := rows_in ho hex hd sb pm ⟨hk1, as, rd⟩ R.el
      have rf1 : ∀ p ∈ L1, ∃ b, p.1 = .ref b := fun p hp => by
        rcases List.mem_cons.mp (pm.mem_iff.mp hp) with e | hp
        · exact ⟨x, by rw [e]⟩
        · exact rf p hp
      have ld1 : w.params.followText "set-order" = true ∨ t2.led = true := by rw [e4, q5]; exact R.led
      have hsz2 : t2.place.size = L.length + 1 := by
        have := T2.sz
        rw [List.length_map, hlen] at this
        exact this
      by_cases hf : t2.tooFull = true
      · have hfull : (L.length + 1) * 5 ≥ t2.mask * 3 := by
          have h := hf
          unfold SetTable.tooFull SetTable.fill at h
          rw [decide_eq_true_eq, T2.dm] at h
          have : t2.place.size + (#[] : Array Nat).size = L.length + 1 := by simp [hsz2]
          omega
        have hmk : t2.mask = t.mask := by rw [e3, q4]
        have cases2 : (t.mask = 7 ∧ L.length = 4) ∨ (t.mask = 31 ∧ L.length = 18) := by
          rcases T.mok with e | e | e
          · left; rw [hmk, e] at hfull; rw [e] at rm; exact ⟨e, by omega⟩
          · right; rw [hmk, e] at hfull; rw [e] at rm; exact ⟨e, by omega⟩
          · exfalso; rw [hmk, e] at hfull; omega
        have go : ∀ m, SetTable.sizeAbove (SetTable.grown (L.length + 1)) - 1 = m → MaskOk m → SetTable.sizeAbove (SetTable.grown (L.length + 1)) ≤ 128 → (L.length + 1) * 5 < m * 3 →
            wpAny (model P w) A (setRelay a (SetTable.grown (L.length + 1))) (fun _ s' => wpAny (model P w) A (pure true) Q E s') E { s with heap := h1 } := fun m h1' h2' h3' h4' => by
          refine lay_anew (s := { s with heap := h1 }) ho1 ⟨hex.1, hex.2.1, hex.2.2⟩ rfl hin (by rw [hsz2, hes]) T2.dm (by rw [hes, hmk]; rcases cases2 with ⟨e, e2⟩ | ⟨e, e2⟩ <;> omega) nd1 el1 rf1 ld1 (by rw [hlen]; exact hfew) h1' h2' h3' (by rw [hlen]; exact h4') ?_
          intro h2 L2 es2 ep2 t2 sb2 R2 pm2
          exact wpAny_pure (hQ true h2 L2 es2 ep2 t2 (sb.trans sb2) R2 (fun z => absurd z hm) fun _ => pm2.trans pm)
        rw [hsl]
        have fin : wpAny (model P w) A (setRelay a (SetTable.grown (L.length + 1))) (fun _ s' => wpAny (model P w) A (pure true) Q E s') E { s with heap := h1 } := by
          rcases cases2 with ⟨_, e2⟩ | ⟨_, e2⟩
          · exact go 31 (by rw [e2, size_20]) (.inr (.inl rfl)) (by rw [e2, size_20]; decide) (by omega)
          · exact go 127 (by rw [e2, size_76]) (.inr (.inr rfl)) (by rw [e2, size_76]; decide) (by omega)
        first
          | (refine wpAny_bind ?_; refine wp_if_pos (by simp [hf]) ?_; exact fin)
          | (refine wp_if_pos (by simp [hf]) ?_; refine wpAny_bind ?_; exact fin)
      · first
          | (refine wp_if_neg (by simp [hf]) ?_)
          | (refine wpAny_bind ?_; refine wp_if_neg (by simp [hf]) ?_; refine wpAny_pure ?_)
        try refine wpAny_bind (wpAny_pure ?_)
        have hrm : (L.length + 1) * 5 < t2.mask * 3 := by
          have h := hf
          unfold SetTable.tooFull SetTable.fill at h
          rw [decide_eq_true_eq, T2.dm] at h
          have : t2.place.size + (#[] : Array Nat).size = L.length + 1 := by simp [hsz2]
          omega
        refine wpAny_pure (hQ true h1 L1 es1 (ep + 1) t2 sb ?_ (fun z => absurd z hm) fun _ => pm)
        exact {
          ob := ⟨_, ho1, ⟨hex.1, hex.2.1, hex.2.2⟩, rfl⟩
          rows := hin
          nd := nd1
          el := el1
          led := ld1
          few := by rw [hlen]; exact hfew
          fit := by
            unfold SetTable.fits SetTable.fill
            rw [T2.dm, Bool.and_eq_true, beq_iff_eq, decide_eq_true_eq, hes]
            show t2.place.size = L.length + 1 ∧ t2.place.size + 0 ≤ t2.mask
            omega
          ris := T2.ris
          tx := fun z => by cases z
          tb := fun _ => ⟨⟨T2, by rw [hlen]; exact hrm⟩, rf1⟩ }
    have off : TabOk { t1 with plain := false } ((L.map fun p => hD w p.2).take (SetTable.below t.place (way t.mask (hD w d) m)) ++ hD w d :: (L.map fun p => hD w p.2).drop (SetTable.below t.place (way t.mask (hD w d) m))) := ⟨q3.ris, q3.dm, q3.sz, q3.mok, q3.bd, q3.reach⟩
    refine iteInduction (motive := fun m => wpAny _ _ m _ _ _) (fun _ => ?_) fun _ => ?_
    · refine wpAny_bind (hbv_d d 8 A _ as _ hk1.1 rd fun b => ?_)
      cases b with
      | true => exact main t1 rfl rfl rfl rfl rfl q3
      | false => exact main { t1 with plain := false } rfl rfl rfl rfl rfl off
    · refine wpAny_bind (wpAny_pure ?_)
      exact main t1 rfl rfl rfl rfl rfl q3
end
end Tdl
/-! TdSet3: texts put in; set(xs). -/
namespace Tdl
open PySem PySem.W L2 PySem.Spec PyProof.Rows
section
variable {P : Program} {w : World} {A : Around} {E : Value → Shared → Prop} {s : Shared} {a : Addr} {txt : Bool} {L : List Row} {es : Array (Int × Value)} {ep : Nat} {t : SetTable}
theorem is_tx (x : Str) (k : Tok) : (strKind P w).is x (.str x k) = true := by
  show Value.isStrOf x (.str x k) = true
  simp [Value.isStrOf]
theorem tx_elems (hr : es.toList = rws w L) (tx : ∀ p ∈ L, ∃ x k, p = ((.str x k, .str x) : Row)) : ElemsOf (strKind P w) es.toList := by
  rw [hr]
  intro e he
  obtain ⟨p, hp, rfl⟩ := List.mem_map.mp he
  obtain ⟨x, k, rfl⟩ := tx p hp
  exact ⟨⟨x, is_tx x k, rfl⟩, rfl⟩
theorem tx_find {x : Str} (hr : es.toList = rws w L) (tx : ∀ p ∈ L, ∃ x k, p = ((.str x k, .str x) : Row)) : (∃ e ∈ es.toList, (strKind P w).is x e.2 = true) ↔ PyData.str x ∈ L.map (·.2) := by
  rw [hr]
  constructor
  · rintro ⟨e, he, q⟩
    obtain ⟨p, hp, rfl⟩ := List.mem_map.mp he
    obtain ⟨y, k, rfl⟩ := tx p hp
    have : x = y := (strKind P w).inj _ x y q (is_tx y k)
    rw [this]
    exact List.mem_map.mpr ⟨_, hp, rfl⟩
  · intro h
    obtain ⟨p, hp, e⟩ := List.mem_map.mp h
    obtain ⟨y, k, rfl⟩ := tx p hp
    have : y = x := by simpa using e
    subst this
    exact ⟨_, List.mem_map.mpr ⟨_, hp, rfl⟩, is_tx y k⟩
/-- a text put in -/
theorem add_txt (R : SX w s.heap a true L es ep t) {x : Str} {k : Tok} (hfew : L.length + 1 < 64) {Q : Bool → Shared → Prop}
    (hQ : ∀ b h' L' es' ep' t', Heap.SameBut a s.heap h' → SX w h' a true L' es' ep' t' → (.str x ∈ L.map (·.2) → L' = L) → (.str x ∉ L.map (·.2) → L'.Perm ((.str x k, .str x) :: L)) → Q b { s with heap := h' }) :
    wpAny (model P w) A (setAddHashed a (.str x k) (hD w (.str x))) Q E s := by
  obtain ⟨o, ho, hex, hd⟩ := R.ob
  have hsl : es.size = L.length := sz_of R.rows
  have hel := tx_elems (P := P) R.rows (R.tx rfl)
  have hb : es.size < scanBound := by
    have := R.few
    unfold scanBound
    omega
  unfold setAddHashed setAddHashedIn
  refine wpAny_holding (wpAny_bind (wpAny_setState_of ho hd R.fit ?_))
  dsimp only
  rw [byScan_of (knd := strKind P w) rfl hb hel]
  simp only [↓reduceIte]
  unfold setAddByScan
  refine wpAny_bind ?_
  refine wpAny_bind (wpAny_rule ?_)
  show wpAny _ _ (setScan a (.str x k) ((strKind P w).hash x) true es >>= _) _ _ _
  refine wpAny_bind (wpAny_setScan_of (is_tx x k) ho hd R.fit hel ?_)
  cases hfi : List.findIdx? (fun e => (strKind P w).is x e.2) es.toList with
  | some j =>
    dsimp only
    obtain ⟨hj, pj, _⟩ := List.findIdx?_eq_some_iff_getElem.mp hfi
    have hm := (tx_find (P := P) R.rows (R.tx rfl)).mp ⟨_, List.getElem_mem hj, pj⟩
    exact wpAny_pure (wpAny_pure (hQ false s.heap L es ep t (Heap.SameBut.refl a s.heap) R (fun _ => rfl) fun z => absurd hm z))
  | none =>
    dsimp only
    have hm : PyData.str x ∉ L.map (·.2) := fun z => by
      obtain ⟨e, he, q⟩ := (tx_find (P := P) R.rows (R.tx rfl)).mpr z
      have c := List.findIdx?_eq_none_iff.mp hfi e he
      rw [q] at c
      cases c
    have hgw : ∀ (b : Bool) {s₁ : Shared} {Q' : Unit → Shared → Prop}, Q' () s₁ → wpAny (model P w) A (match b with | true => rule "set.scan.the-table-gave-way" | false => pure ()) Q' E s₁ :=
      fun b s₁ Q' q => by cases b <;> first | exact wpAny_pure q | exact wpAny_rule q
    have pm := layNew_perm t es (hD w (.str x)) (.str x k)
    have hf1 := layNew_fits t es (hD w (.str x)) (.str x k)
    have hr1 := layNew_ris t es (hD w (.str x)) (.str x k) R.ris
    have hl1 := layNew_led t es (hD w (.str x)) (.str x k)
    show wpAny _ _ (match layNew t es (hD w (.str x)) (.str x k) with | (es, t, wasDummy, gave) => _) _ _ _
    generalize layNew t es (hD w (.str x)) (.str x k) = zz at pm hf1 hr1 hl1 ⊢
    obtain ⟨es1, t1, wasDummy, gave⟩ := zz
    dsimp only at pm hf1 hr1 hl1 ⊢
    have pm2 : es1.toList.Perm (rws w ((.str x k, .str x) :: L)) := by
      rw [Array.toList_push, R.rows] at pm
      exact pm.trans (List.perm_append_singleton _ _)
    obtain ⟨L1, r1, pL⟩ := perm_pull pm2
    have hlen : L1.length = L.length + 1 := pL.length_eq
    have nd1 : (L1.map (·.2)).Nodup := by
      refine (pL.map (·.2)).nodup_iff.mpr ?_
      rw [List.map_cons]
      exact List.nodup_cons.mpr ⟨hm, R.nd⟩
    have tx1 : ∀ M : List Row, M.Perm L1 → ∀ p ∈ M, ∃ x k, p = ((.str x k, .str x) : Row) := fun M hM p hp => by
      rcases List.mem_cons.mp (pL.mem_iff.mp (hM.mem_iff.mp hp)) with e | h
      · exact ⟨x, k, e⟩
      · exact R.tx rfl p h
    have fin : ∀ (M : List Row) (h' : Heap) (es2 : Array (Int × Value)) (ep2 : Nat) (t2 : SetTable), M.Perm L1 → Heap.SameBut a s.heap h' → (∃ o, h'.get? a = some o ∧ o.ExactSet ∧ o.data = .set es2 ep2 t2) → es2.toList = rws w M → t2.fits es2.size = true → Ris t2.place.toList →
        (w.params.followText "set-order" = true ∨ t2.led = true) → Q true { s with heap := h' } := fun M h' es2 ep2 t2 hM sb hob hrw hft hrs hld => by
      refine hQ true h' M es2 ep2 t2 sb ?_ (fun z => absurd z hm) fun _ => hM.trans pL
      exact {
        ob := hob
        rows := hrw
        nd := (hM.map (·.2)).nodup_iff.mpr nd1
        el := fun p hp => by
          obtain ⟨y, j, rfl⟩ := tx1 M hM p hp
          exact ⟨⟨rfl, by simp [PyData.depth]⟩, _, .str y j⟩
        led := hld
        few := by rw [hM.length_eq, hlen]; exact hfew
        fit := hft
        ris := hrs
        tx := fun _ => tx1 M hM
        tb := fun z => by cases z }
    have tail : ∀ (g : Bool → Sem Unit) (t2 : SetTable), (∀ (b : Bool) {s₁ : Shared} {Q' : Unit → Shared → Prop}, Q' () s₁ → wpAny (model P w) A (g b) Q' E s₁) → t2.fits es1.size = true → Ris t2.place.toList → (w.params.followText "set-order" = true ∨ t2.led = true) →
        wpAny (model P w) A (storeSet a es1 t2 >>= fun _ => if (!wasDummy && t2.tooFull) = true then
            g (relayAll t2 es1 (SetTable.grown es1.size)).2.2 >>= fun _ =>
            storeSet a (relayAll t2 es1 (SetTable.grown es1.size)).1 (relayAll t2 es1 (SetTable.grown es1.size)).2.1 >>= fun _ => pure (some true)
          else pure (some true)) (fun r s' => wpAny (model P w) A (match r with | some added => pure added | none => setAddHashedIn a (.str x k) (hD w (.str x)) 99999) Q E s') E s := by
      intro g t2 hg g1 g2 g3
      have hes1 : es1.size = L.length + 1 := by rw [sz_of r1.symm, hlen]
      refine wpAny_bind (wpAny_storeSet_of ho hd ?_ (by rw [hes1, sizeLine_eq]; omega))
      have ho1 := store_at (es' := es1) (t' := t2) ho hd
      have sb1 := Heap.SameBut.update s.heap a (Obj.putSet es1 t2)
      refine iteInduction (motive := fun m => wpAny _ _ m _ _ _) (fun _ => ?_) fun _ => ?_
      · have qp := relayAll_perm t2 es1 (SetTable.grown es1.size)
        have hf3 := relayAll_fits t2 es1 (SetTable.grown es1.size)
        have hr3 := relayAll_ris t2 es1 (SetTable.grown es1.size)
        have hl3 := relayAll_led t2 es1 (SetTable.grown es1.size)
        generalize relayAll t2 es1 (SetTable.grown es1.size) = zz at qp hf3 hr3 hl3 ⊢
        obtain ⟨es2, t3, gave2⟩ := zz
        dsimp only at qp hf3 hr3 hl3 ⊢
        have hsz : es2.size = es1.size := by rw [← Array.length_toList, qp.length_eq, Array.length_toList]
        obtain ⟨M, m1, m2⟩ := perm_pull (show es2.toList.Perm (rws w L1) from by rw [show rws w L1 = es1.toList from r1]; exact qp)
        refine wpAny_bind (hg _ ?_)
        refine wpAny_bind (wpAny_storeSet_of ho1 rfl ?_ (by rw [hsz, hes1, sizeLine_eq]; omega))
        have ho2 := store_at (es' := es2) (t' := t3) ho1 rfl
        exact wpAny_pure (wpAny_pure (fin M _ es2 _ t3 m2 (sb1.trans (Heap.SameBut.update _ a _)) ⟨_, ho2, hex, rfl⟩ m1.symm hf3 hr3 (g3.imp id fun z => by rw [hl3]; exact z)))
      · exact wpAny_pure (wpAny_pure (fin L1 _ es1 _ t2 (List.Perm.refl _) sb1 ⟨_, ho1, hex, rfl⟩ r1.symm g1 g2 g3))
    refine wpAny_bind (hgw _ ?_)
    have hled : w.params.followText "set-order" = true ∨ t1.led = true := R.led.imp id fun z => by rw [hl1]; exact z
    have e8 : hashByValue 8 (.str x k) = pure false := rfl
    refine iteInduction (motive := fun m => wpAny _ _ m _ _ _) (fun _ => ?_) fun _ => ?_
    · rw [e8]
      refine wpAny_bind ?_
      refine wpAny_pure ?_
      exact tail _ { t1 with plain := false } hgw (SetTable.fits_plain_off hf1) hr1 hled
    · refine wpAny_bind (wpAny_pure ?_)
      exact tail _ t1 hgw hf1 hr1 hled
end
end Tdl
/-! TdSet4: set(xs) of a list, of a tuple. -/
namespace Tdl
open PySem PySem.W L2 PySem.Spec PyProof.Rows
/-- which kind of members: all texts, or all tuples -/
def KindOk (txt : Bool) (p : Row) : Prop := (txt = true → ∃ x k, p = (.str x k, .str x)) ∧ (txt = false → ∃ b, p.1 = .ref b)
/-- what the set has of the first i items -/
structure GotX (ks : List Row) (i : Nat) (L : List Row) : Prop where
  sub : ∀ p ∈ L, p ∈ ks.take i
  all : ∀ p ∈ ks.take i, p.2 ∈ L.map (·.2)
  len : L.length ≤ i
theorem GotX.step {ks L M : List Row} {i : Nat} {p : Row} (g : GotX ks i L) (h : ks[i]? = some p) (c1 : p.2 ∈ L.map (·.2) → M = L) (c2 : p.2 ∉ L.map (·.2) → M.Perm (p :: L)) : GotX ks (i + 1) M := by
  have tk : ks.take (i + 1) = ks.take i ++ [p] := by
    rw [List.take_succ, h]
    rfl
  rcases Classical.em (p.2 ∈ L.map (·.2)) with c | c
  · rw [c1 c]
    refine ⟨fun q hq => ?_, fun q hq => ?_, Nat.le_succ_of_le g.len⟩
    · rw [tk]
      exact List.mem_append_left _ (g.sub q hq)
    · rw [tk] at hq
      rcases List.mem_append.mp hq with z | z
      · exact g.all q z
      · rw [List.mem_singleton.mp z]
        exact c
  · have pm := c2 c
    refine ⟨fun q hq => ?_, fun q hq => ?_, ?_⟩
    · rw [tk]
      rcases List.mem_cons.mp (pm.mem_iff.mp hq) with e | z
      · rw [e]
        exact List.mem_append_right _ List.mem_cons_self
      · exact List.mem_append_left _ (g.sub q z)
    · rw [(pm.map (·.2)).mem_iff, List.map_cons]
      rw [tk] at hq
      rcases List.mem_append.mp hq with z | z
      · exact List.mem_cons_of_mem _ (g.all q z)
      · rw [List.mem_singleton.mp z]
        exact List.mem_cons_self
    · rw [pm.length_eq, List.length_cons]
      exact Nat.succ_le_succ g.len
section
variable {P : Program} {w : World} {A : Around} {E : Value → Shared → Prop} {s : Shared} {txt : Bool}
theorem add_x {a : Addr} {L : List Row} {es : Array (Int × Value)} {ep : Nat} {t : SetTable} (R : SX w s.heap a txt L es ep t) {p : Row} (hx : IsH s.heap p.1 p.2) (hk : KindOk txt p) (hu : A.units + 10 < cLine) (hfew : L.length + 1 < 64) {Q : Bool → Shared → Prop}
    (hQ : ∀ b h' L' es' ep' t', Heap.SameBut a s.heap h' → SX w h' a txt L' es' ep' t' → (p.2 ∈ L.map (·.2) → L' = L) → (p.2 ∉ L.map (·.2) → L'.Perm (p :: L)) → Q b { s with heap := h' }) :
    wpAny (model P w) A (setAddHashed a p.1 (hD w p.2)) Q E s := by
  obtain ⟨v, d⟩ := p
  cases txt with
  | true =>
    obtain ⟨x, k, e⟩ := hk.1 rfl
    cases e
    exact add_txt R hfew hQ
  | false =>
    obtain ⟨b, e⟩ := hk.2 rfl
    cases e
    exact add_ref R hx hu hfew hQ
theorem SX.stay {h h' : Heap} {a : Addr} {L : List Row} {es : Array (Int × Value)} {ep : Nat} {t : SetTable} (R : SX w h a txt L es ep t) (ha : ∀ o, h.get? a = some o → h'.get? a = some o) (el : ∀ p ∈ L, IsH h' p.1 p.2) : SX w h' a txt L es ep t := by
  obtain ⟨o, ho, r⟩ := R.ob
  exact { R with ob := ⟨o, ha o ho, r⟩, el := el }
theorem SX.new {h : Heap} {a : Addr} (ho : h.get? a = some { cls := .type "set", dict := none, data := .set #[] 0 (.fresh 0 0 (!w.params.followText "set-order")) }) : SX w h a txt [] #[] 0 (.fresh 0 0 (!w.params.followText "set-order")) where
  ob := ⟨_, ho, ⟨rfl, rfl, rfl⟩, rfl⟩
  rows := rfl
  nd := List.nodup_nil
  el := fun p hp => (by cases hp)
  led := by
    show _ ∨ (!w.params.followText "set-order") = true
    cases w.params.followText "set-order"
    · exact .inr rfl
    · exact .inl rfl
  few := show 0 < 64 by decide
  fit := by rfl
  ris := List.Pairwise.nil
  tx := fun _ p hp => by cases hp
  tb := fun _ => ⟨⟨⟨List.Pairwise.nil, rfl, rfl, .inl rfl, fun x hx => (by cases hx), fun i h j hi => (by simp at hi)⟩, show 0 * 5 < 7 * 3 by decide⟩, fun p hp => by cases hp⟩

/-- the loop of set.update -/
theorem upd_loop {it : Addr} {fp wr : List Addr} {G : Array GenState → Array GenState → Prop} {n : Nat} {Pv : Nat → Value → Prop} {St : Nat → Shared → Prop} {R : Result → Shared → Prop}
    (W : WalksS P w A.in1 it fp wr G n Pv St) (S : Addr) (hSf : S ∉ fp) (ks : List Row) (hn : n = ks.length) (hfew : ks.length < 64) (hval : ∀ i v, Pv i v → ∃ p, ks[i]? = some p ∧ v = p.1)
    (h0 : Heap) (hk : ∀ p ∈ ks, IsH h0 p.1 p.2 ∧ KindOk txt p) (hS0 : h0.get? S = none) (hw0 : ∀ b ∈ wr, h0.get? b = none) (hu : A.in1.units + 10 < cLine) :
    ∀ (k i : Nat) (s : Shared), n - i = k → i ≤ n → St i s → (∀ b o, h0.get? b = some o → s.heap.get? b = some o) → (∃ L es ep t, SX w s.heap S txt L es ep t ∧ GotX ks i L) →
      (∀ s' L es ep t, Moved (S :: wr) G s s' → SX w s'.heap S txt L es ep t → GotX ks n L → (∀ b o, h0.get? b = some o → s'.heap.get? b = some o) → R (.ok (.ret .none)) s') →
      codeAny (model P w) A (.builtin "set.update.loop" ⟨[.ref S, .ref it], []⟩) R s := by
  have hSw : S ∉ wr := fun h => hSf (W.sub _ h)
  have hsub : ∀ b ∈ wr, b ∈ S :: wr := fun b hb => List.mem_cons_of_mem _ hb
  have keepM : ∀ {s s' : Shared}, Moved wr G s s' → (∀ b o, h0.get? b = some o → s.heap.get? b = some o) → ∀ b o, h0.get? b = some o → s'.heap.get? b = some o := fun hm hkp b o e =>
    hm.heap b o (fun hb => by rw [hw0 b hb] at e; cases e) (hkp b o e)
  intro k
  induction k with
  | zero =>
    intro i s hk' hi hst hkp ⟨L, es, ep, t, hS, g⟩ hR
    obtain rfl : i = n := by omega
    refine codeAny_builtin F.entry_set_update_loop ?_
    rw [Around.under_plainId F.plain_set_update_loop _]
    show wpAny _ A.in1 (pyNext (.ref it) >>= _) _ _ s
    refine wpAny_bind (W.done s _ _ hst fun s' hm => ?_)
    show wpAny _ A.in1 (ret Value.none) _ _ s'
    have hkp' := keepM hm hkp
    exact wpAny_pure (hR s' L es ep t (hm.mono hsub) (hS.stay (fun o e => hm.heap S o hSw e) fun p hp => isH_keep hkp' (hk p (List.mem_of_mem_take (g.sub p hp))).1) g hkp')
  | succ k ih =>
    intro i s hk' hi hst hkp ⟨L, es, ep, t, hS, g⟩ hR
    have hlt : i < n := by omega
    refine codeAny_builtin F.entry_set_update_loop ?_
    rw [Around.under_plainId F.plain_set_update_loop _]
    show wpAny _ A.in1 (pyNext (.ref it) >>= _) _ _ s
    refine wpAny_bind (W.item i s _ _ hlt hst fun v s' hP hst' hm => ?_)
    obtain ⟨p, hp, rfl⟩ := hval i v hP
    have hkp' := keepM hm hkp
    have hS' : SX w s'.heap S txt L es ep t := hS.stay (fun o e => hm.heap S o hSw e) fun q hq => isH_keep hkp' (hk q (List.mem_of_mem_take (g.sub q hq))).1
    have hpm := hk p (List.mem_of_getElem? hp)
    have hx : IsH s'.heap p.1 p.2 := isH_keep hkp' hpm.1
    show wpAny _ A.in1 (holding [p.1] (setAdd S p.1) >>= _) _ _ s'
    refine wpAny_bind (wpAny_holding ?_)
    unfold setAdd
    refine wpAny_holding ?_
    have ⟨⟨hh1, hh2⟩, as, rd⟩ := hx
    refine wpAny_bind (hash_d p.2 _ s' p.1 as _ hh1 (by omega) rd fun tk htk => ?_)
    refine add_x (s := { s' with toks := tk }) hS' hx hpm.2 hu (by have := g.len; omega) fun b h' L' es' ep' t' hsb hS2 c1 c2 => ?_
    have hkp2 : ∀ b o, h0.get? b = some o → h'.get? b = some o := fun b o e => (hsb.2 b (fun z => by rw [z, hS0] at e; cases e)).trans (hkp' b o e)
    refine wpAny_pure ⟨plainId_quiet F.plain_set_update_loop _, ih (i + 1) _ (by omega) hlt (W.frame _ s' _ _ hst' htk fun b hb o e => ?_) hkp2 ⟨L', es', ep', t', hS2, g.step hp c1 c2⟩ fun s'' L2 es2 ep2 t2 hm'' hS'' g'' hkp'' => ?_⟩
    · rw [hsb.2 b (fun h : b = S => hSf (by rw [← h]; exact hb))]; exact e
    · refine hR s'' L2 es2 ep2 t2 (Moved.trans W.gtrans ((hm.mono hsub).then_heap htk fun b o hb e => ?_) hm'') hS'' g'' hkp''
      rw [hsb.2 b (fun h : b = S => hb (by rw [h]; exact List.mem_cons_self))]; exact e
abbrev set0 (w : World) : Obj := { cls := .type "set", dict := none, data := .set #[] 0 (.fresh 0 0 (!w.params.followText "set-order")) }
theorem free_at {h : Heap} {b : Addr} (hb : h.objs.size ≤ b) : h.get? b = none := by
  cases q : h.get? b with
  | none => rfl
  | some o => exact absurd (Nat.lt_of_lt_of_le (Heap.lt_size q) hb) (Nat.lt_irrefl _)
/-- set(xs), by the iterator that xs gives -/
theorem set_call {l : Addr} {T : String} {o : Obj} {items : Array Value} {n0 : Nat} (hT : T = "list" ∨ T = "tuple") (ho : s.heap.get? l = some o) (hcl : o.cls = .type T) (hdt : o.data = .seq items n0) (ks : List Row) {Q : Value → Shared → Prop} (hh : A.handled = none)
    (hit : items.toList = ks.map fun p => p.1) (hk : ∀ p ∈ ks, IsH s.heap p.1 p.2 ∧ KindOk txt p) (hfew : ks.length < 64) (hu : A.units + 16 < cLine)
    (h : ∀ (h' : Heap) (tk : Nat) L es ep t, SX w h' s.heap.objs.size txt L es ep t → GotX ks ks.length L → (∀ b o, s.heap.get? b = some o → h'.get? b = some o) → Q (.ref s.heap.objs.size) { s with heap := h', toks := tk }) :
    wpAny (model P w) A (call (.type "set") [.ref l]) Q E s := by
  have hisz : items.size = ks.length := by
    have q := congrArg List.length hit
    rwa [Array.length_toList, List.length_map] at q
  obtain ⟨c, tl, hmro⟩ := F.called_set.mro
  have hmade := F.called_set.made
  have hsub := F.called_set.sub
  refine wpAny_call (codeAny_of_tree ?_)
  show wpAny _ _ (callAny (.type "set") _) _ _ _
  refine wpAny_pure ⟨Code.quiet_builtin _ (by decide +kernel), codeAny_builtin F.entry_type_call ?_⟩
  rw [Around.under_plain (weight_type_call_type "set" [.ref l] []) rfl]
  have h1 := F.called_set.notType
  have h2 := F.called_set.canCreate
  have hct := F.typeCall_set_1 (.ref l)
  repeat (any_goals (first | assumption | wp_step))
  refine codeAny_mono (code_set_led1 (.ref l) (E := E) (Q₁ := fun obj s₁ => obj = .ref s.heap.objs.size ∧ s₁ = { s with heap := s.heap.push (set0 w) }) ⟨rfl, rfl⟩) fun r s₁ hr => ?_
  cases r with
  | error e => exact hr
  | ok fl =>
    cases fl with
    | ret obj =>
      obtain ⟨rfl, rfl⟩ := hr
      have hS : (s.heap.push (set0 w)).get? s.heap.objs.size = some (set0 w) := Heap.get?_push_size _ rfl
      have hTy : Shared.TypeIs { s with heap := s.heap.push (set0 w) } (.ref s.heap.objs.size) "set" := ⟨_, hS, rfl⟩
      have hli := F.called_set.init.lookup
      have hbi := F.called_set.init.bind (.ref s.heap.objs.size)
      repeat (any_goals (first | assumption | wp_step))
      refine codeAny_mono (codeAny_call_builtin (R := wants (fun r s₂ => r = .none ∧ ∃ h' tk L es ep t, s₂ = { s with heap := h', toks := tk } ∧ SX w h' s.heap.objs.size txt L es ep t ∧ GotX ks ks.length L ∧
          (∀ b o, s.heap.get? b = some o → h'.get? b = some o)) E) F.called_set.init.plain F.entry_set_init (check_set_init_1 hTy ?_)) fun r₂ s₂ hr₂ => ?_
      · have hlS : l < s.heap.objs.size := Heap.lt_size ho
        have hh3 : A.in1.in1.in1.handled = none := by simp [hh]
        have hz1 : (s.heap.push (set0 w)).objs.size = s.heap.objs.size + 1 := Heap.size_push ..
        have hneI : l ≠ (s.heap.push (set0 w)).objs.size := by rw [Heap.size_push]; exact Nat.ne_of_lt (Nat.lt_succ_of_lt hlS)
        have hSf : s.heap.objs.size ∉ [(s.heap.push (set0 w)).objs.size, l] := by
          rw [Heap.size_push]; simp only [List.mem_cons, List.mem_singleton, List.not_mem_nil, or_false, not_or]
          exact ⟨Nat.ne_of_lt (Nat.lt_succ_self _), Nat.ne_of_gt hlS⟩
        have hval : ∀ (i : Nat) (v : Value), items[i]? = some v → ∃ p, ks[i]? = some p ∧ v = p.1 := fun i v hv => by
          have q : items.toList[i]? = some v := by rw [Array.getElem?_toList]; exact hv
          rw [hit, List.getElem?_map] at q
          cases hq : ks[i]? with
          | none => rw [hq] at q; cases q
          | some p =>
            rw [hq] at q
            exact ⟨p, rfl, (Option.some.inj q).symm⟩
        have hol' : (s.heap.push (set0 w)).get? l = some o := Heap.get?_push_of_some _ ho
        have uni : A.in1.in1.in1.units + 10 < cLine := by
          have h1 : A.in1.in1.in1.units ≤ A.units + 3 := by first | exact Nat.le_refl _ | (simp [Around.in1, Around.units]; omega) | simp [Around.in1]
          omega
        rcases hT with rfl | rfl
        · obtain ⟨ocls, odict, odata, oslots⟩ := o
          simp only at hcl hdt
          subst hcl; subst hdt
          have hsls := F.sub_list_set
          have hslf := F.sub_list_frozenset
          have hne : (Value.type "list" == Value.type "dict") = false := by decide
          have hl1 : (s.heap.push (set0 w)).IsList l items := ⟨_, hol', rfl, n0, rfl⟩
          unfold Builtin.«set.__init__» noKeywords Builtin.Frozenset.updateFrom
          generalize hPI : pyIter = PI
          wp_walk
          subst hPI
          refine wpAny_pyIter_list hl1 ?_
          refine wpAny_bind (wpAny_runValue ?_)
          refine upd_loop ((Walks.list hh3 _ l hneI items).toS) s.heap.objs.size hSf ks hisz hfew hval s.heap hk (free_at (Nat.le_refl _)) (fun b hb => free_at (by
              rw [List.mem_singleton.mp hb, Heap.size_push]
              exact Nat.le_succ _)) uni (items.size - 0) 0 _ (by omega) (Nat.zero_le _)
            ⟨⟨_, Heap.get?_push_size _ rfl, rfl, rfl⟩, (hl1.push _)⟩ (fun b o e => Heap.get?_push_of_some _ (Heap.get?_push_of_some _ e)) ⟨[], #[], 0, _, SX.new (Heap.get?_push_of_some _ hS), ⟨fun p hp => by simp at hp, fun p hp => by simp at hp, Nat.le_refl _⟩⟩ ?_
          intro s' L es ep t hm hS' g' hkp
          obtain ⟨h', g2, d', tk', os'⟩ := s'
          obtain rfl : g2 = s.gens := hm.gens
          obtain rfl : d' = s.drawn := hm.drawn
          obtain rfl : os' = s.os := hm.os
          refine wpAny_pure ?_
          show wpAny _ _ (ret Value.none) _ _ _
          rw [hisz] at g'
          exact wpAny_pure ⟨rfl, h', tk', L, es, ep, t, rfl, hS', g', hkp⟩
        · obtain ⟨ocls, odict, odata, oslots⟩ := o
          simp only at hcl hdt
          subst hcl; subst hdt
          have hsls := F.sub_tuple_set
          have hslf := F.sub_tuple_frozenset
          have hne : (Value.type "tuple" == Value.type "dict") = false := by decide
          have hl1 : (s.heap.push (set0 w)).IsTuple l items := ⟨_, hol', rfl, n0, rfl⟩
          unfold Builtin.«set.__init__» noKeywords Builtin.Frozenset.updateFrom
          generalize hPI : pyIter = PI
          wp_walk
          subst hPI
          refine wpAny_pyIter_tuple hl1 ?_
          refine wpAny_bind (wpAny_runValue ?_)
          refine upd_loop ((Walks.tuple hh3 _ l hneI items).toS) s.heap.objs.size hSf ks hisz hfew hval s.heap hk (free_at (Nat.le_refl _)) (fun b hb => free_at (by
              rw [List.mem_singleton.mp hb, Heap.size_push]
              exact Nat.le_succ _)) uni (items.size - 0) 0 _ (by omega) (Nat.zero_le _)
            ⟨⟨_, Heap.get?_push_size _ rfl, rfl, rfl⟩, (hl1.push _)⟩ (fun b o e => Heap.get?_push_of_some _ (Heap.get?_push_of_some _ e)) ⟨[], #[], 0, _, SX.new (Heap.get?_push_of_some _ hS), ⟨fun p hp => by simp at hp, fun p hp => by simp at hp, Nat.le_refl _⟩⟩ ?_
          intro s' L es ep t hm hS' g' hkp
          obtain ⟨h', g2, d', tk', os'⟩ := s'
          obtain rfl : g2 = s.gens := hm.gens
          obtain rfl : d' = s.drawn := hm.drawn
          obtain rfl : os' = s.os := hm.os
          refine wpAny_pure ?_
          show wpAny _ _ (ret Value.none) _ _ _
          rw [hisz] at g'
          exact wpAny_pure ⟨rfl, h', tk', L, es, ep, t, rfl, hS', g', hkp⟩
      · cases r₂ with
        | error e => exact hr₂
        | ok fl₂ =>
          cases fl₂ with
          | ret r =>
            obtain ⟨rfl, h', tk, L, es, ep, t, rfl, hS', g', hk'⟩ := hr₂
            repeat (any_goals (first | assumption | wp_step))
            exact h _ _ _ _ _ _ hS' g' hk'
          | _ => exact hr₂.elim
    | _ => exact hr.elim
end
end Tdl
/-! TLEval: a small evaluator for the Python of these laws; values are data (PyData) with a flag of ownership. -/
namespace Tdl
open PySem PySem.W

/-- im: never changed again; ow: a list or dict that nothing else holds; bo: a look at a slot's own list or dict -/
inductive Md where
  | im | ow | bo
  deriving DecidableEq, Repr
structure RV where
  d : PyData
  m : Md
abbrev im (d : PyData) : RV := ⟨d, .im⟩
abbrev ow (d : PyData) : RV := ⟨d, .ow⟩

inductive Res (α : Type) where
  | ok (a : α)
  | exc (c : String)
  | err
def Res.bd {α β : Type} (r : Res α) (f : α → Res β) : Res β := match r with
  | .ok a => f a
  | .exc c => .exc c
  | .err => .err
@[simp] theorem bd_ok {α β : Type} (a : α) (f : α → Res β) : (Res.ok a).bd f = f a := rfl
@[simp] theorem bd_exc {α β : Type} (c : String) (f : α → Res β) : (Res.exc c : Res α).bd f = .exc c := rfl
@[simp] theorem bd_err {α β : Type} (f : α → Res β) : (Res.err : Res α).bd f = .err := rfl
def gd {α : Type} (c : Bool) (r : Res α) : Res α := match c with
  | true => r
  | false => .err
@[simp] theorem gd_true {α : Type} (r : Res α) : gd true r = r := rfl
@[simp] theorem gd_false {α : Type} (r : Res α) : gd false r = .err := rfl

inductive Tg where
  | nm (i : Nat)
  | tp (ts : List Tg)
inductive Bo where
  | add | sub | mul | fdiv | mod | pow
  deriving DecidableEq
inductive Co where
  | eq | ne | lt | le | gt | ge | isin | nin | iz | nz
  deriving DecidableEq
inductive Ty where
  | int | bool | str | list | tuple | tl
  deriving DecidableEq
/-- what a loop walks: a thing, range(n), range(a, b), enumerate(xs), zip(xs, ys), d.items(), a dict's keys -/
inductive Wk where
  | sq | r1 | r2 | en | zp | its | ks
  deriving DecidableEq
inductive Bl where
  | len | list | tuple | all | any | sum | min | max | min2 | max2 | sorted | dict | dictT | sset | lset | lvals
  deriving DecidableEq
inductive Mt where
  | count | index | get2 | join | split
  deriving DecidableEq

inductive Ex where
  | nil
  | var (i : Nat)
  | cst (d : PyData)
  | glb (x : String) (d : PyData)
  | tup (es : List Ex)
  | lst (es : List Ex)
  | bin (o : Bo) (a b : Ex)
  | neg (a : Ex)
  | cmp (o : Co) (a b : Ex)
  | chn (o p : Co) (a b c : Ex)
  | bop (k : Bool) (es : List Ex)
  | nt (a : Ex)
  | ite (c a b : Ex)
  | idx (a b : Ex)
  | slc (a lo hi : Ex)
  | rev (a : Ex)
  | call (f : String) (es : List Ex)
  | blt (b : Bl) (es : List Ex)
  | mth (m : Mt) (o : Ex) (es : List Ex)
  | isi (a : Ex) (t : Ty)
  | lc (own : List (String × Nat)) (tg : Tg) (k : Wk) (src : List Ex) (cond elt : Ex)
  | lcd (own : List (String × Nat)) (tg : Tg) (its : Bool) (i : Nat) (cond elt : Ex)
  | lc2 (own : List (String × Nat)) (tg : Tg) (k : Wk) (src : List Ex) (tg1 : Tg) (k1 : Wk) (src1 : List Ex) (elt : Ex)
  | dc (tk : Bool) (own : List (String × Nat)) (tg : Tg) (k : Wk) (src : List Ex) (key val : Ex)
  | dc2 (tk : Bool) (own : List (String × Nat)) (tg : Tg) (k : Wk) (src : List Ex) (cond : Ex) (tg1 : Tg) (k1 : Wk) (src1 : List Ex) (key val : Ex)
  | srt (x : String) (i : Nat) (src key : Ex)
  | emp (tk : Bool)
  | one (tk : Bool) (key val : Ex)
  | isx (i : Nat) (c : String)
  | calli (fs : List String) (ix : Ex) (es : List Ex)

/-! ### data -/
def isB : PyData → Option Bool
  | .bool b => some b
  | _ => none
/-- an index that may be negative -/
def place (n : Nat) (i : Int) : Option Nat := if 0 ≤ i then (if i < n then some i.toNat else none) else if -(n : Int) ≤ i then some (i + n).toNat else none
def cutD {α : Type} (xs : List α) (lo hi : Option Int) : List α := (xs.drop (HT.sIx xs.length 0 lo)).take (HT.sIx xs.length xs.length hi - HT.sIx xs.length 0 lo)
def isN : PyData → Bool
  | .none => true
  | _ => false
/-- the two may be compared by == -/
def eqOk (d e : PyData) : Bool := d.plain && (e.plain && (decide (d.depth ≤ 40) || decide (e.depth ≤ 40)))
def ltOk (d e : PyData) : Bool := alike d e && (!isN d && (decide (d.depth ≤ 40) && (d.plain && e.plain)))
def numLt : PyData → PyData → Option Bool
  | .int i, .int j => some (decide (i < j))
  | _, _ => none
def flatK : PyData → Bool
  | .int _ => true
  | .str _ => true
  | _ => false
/-- keys of dicts: ints and texts (false), or tuples of these (true) -/
def keyK (tk : Bool) : PyData → Bool
  | .int _ => !tk
  | .str _ => !tk
  | .tuple xs => tk && xs.all flatK
  | _ => false
/-- a dict: the kind of its keys stands ahead -/
abbrev dct (tk : Bool) (es : List (PyData × PyData)) : PyData := .dict ((.none, .bool tk) :: es)
def dget (k : PyData) : List (PyData × PyData) → Option PyData
  | [] => none
  | (a, v) :: r => if PyData.eqv a k then some v else dget k r
def dput (k v : PyData) (es : List (PyData × PyData)) : List (PyData × PyData) :=
  if es.any (fun p => PyData.eqv p.1 k) then es.map (fun p => if PyData.eqv p.1 k then (p.1, v) else p) else es ++ [(k, v)]
def asList : PyData → Option (List PyData)
  | .list xs => some xs
  | .tuple xs => some xs
  | _ => none
def allB : List PyData → Option (List Bool)
  | [] => some []
  | .bool b :: r => (allB r).map (b :: ·)
  | _ :: _ => none
def allI : List PyData → Option (List Int)
  | [] => some []
  | .int b :: r => (allI r).map (b :: ·)
  | _ :: _ => none
def allS : List PyData → Option (List Str)
  | [] => some []
  | .str b :: r => (allS r).map (b :: ·)
  | _ :: _ => none
/-- all alike, none None, not too deep -/
def alikes (xs : List PyData) : Bool := xs.all fun x => (!isN x && decide (x.depth ≤ 40)) && xs.all fun y => alike x y
/-- sorted by insertion, from behind: stable -/
def insB {α : Type} (le : α → α → Bool) (a : α) : List α → List α
  | [] => [a]
  | b :: l => match le a b with
    | true => a :: b :: l
    | false => b :: insB le a l
def isort {α : Type} (le : α → α → Bool) : List α → List α
  | [] => []
  | a :: l => insB le a (isort le l)
def srtD (xs : List PyData) : List PyData := isort (fun x y => !dataLt y x) xs
/-- each once -/
def onceD : List PyData → List PyData
  | [] => []
  | x :: r => if r.any (fun y => PyData.eqv y x) then onceD r else x :: onceD r
def okSet (xs : List PyData) : Bool := (decide (xs.length < 64) && alikes xs) && (hdks xs && xs.all fun x => decide (x.depth ≤ 6))
def LIM : Nat := 16777216
/-- a small whole number -/
def smI (k : Nat) (i : Int) : Bool := Nat.blt i.natAbs k
theorem smI_iff {k : Nat} {i : Int} : smI k i = true ↔ -(k : Int) < i ∧ i < k := by
  unfold smI
  rw [Nat.blt_eq]
  omega

def binop (o : Bo) (m : Md) (d e : PyData) : Res RV := match o, d, e with
  | .add, .int i, .int j => .ok (im (.int (i + j)))
  | .add, .str x, .str y => gd (decide (x.length + y.length ≤ LIM)) (.ok (im (.str (x ++ y))))
  | .add, .list xs, .list ys => gd (decide (xs.length + ys.length ≤ LIM)) (.ok (ow (.list (xs ++ ys))))
  | .add, .tuple xs, .tuple ys => gd (decide (xs.length + ys.length ≤ LIM)) (.ok (im (.tuple (xs ++ ys))))
  | .sub, .int i, .int j => .ok (im (.int (i - j)))
  | .mul, .int i, .int j => gd (smI 18446744073709551616 i || smI 18446744073709551616 j) (.ok (im (.int (i * j))))
  | .mul, .list xs, .int k => gd (decide (m ≠ .im ∧ 0 ≤ k ∧ k ≤ 1000 ∧ xs.length ≤ 1000)) (.ok (ow (.list (List.replicate k.toNat xs).flatten)))
  | .mul, .tuple xs, .int k => gd (decide (2 ≤ k ∧ k ≤ 1000 ∧ 0 < xs.length ∧ xs.length ≤ 1000)) (.ok (im (.tuple (List.replicate k.toNat xs).flatten)))
  | .fdiv, .int i, .int j => gd (decide (0 < j) && smI 1180591620717411303424 j) (.ok (im (.int (i / j))))
  | .mod, .int i, .int j => gd (decide (0 < j)) (.ok (im (.int (i % j))))
  | .pow, .int i, .int j => gd (decide (0 ≤ j ∧ j ≤ 100 ∧ i.natAbs < 2 ^ 64)) (.ok (im (.int (i ^ j.toNat))))
  | _, _, _ => .err

def cmpop (o : Co) (d e : PyData) : Res Bool := match o with
  | .eq => gd (eqOk d e) (.ok (PyData.eqv d e))
  | .ne => gd (eqOk d e) (.ok (!PyData.eqv d e))
  | .lt => gd (ltOk d e) (.ok (dataLt d e))
  | .gt => gd (ltOk d e) (.ok (dataLt e d))
  | .le => gd (ltOk d e) (.ok (!dataLt e d))
  | .ge => gd (ltOk d e) (.ok (!dataLt d e))
  | .isin => match e with
    | .list xs => gd (d.plain && (PyData.plainAll xs && decide (d.depth ≤ 40))) (.ok (xs.any fun z => PyData.eqv z d))
    | .tuple xs => gd (d.plain && (PyData.plainAll xs && decide (d.depth ≤ 40))) (.ok (xs.any fun z => PyData.eqv z d))
    | .dict ((.none, .bool tk) :: kvs) => gd (keyK tk d) (.ok (dget d kvs).isSome)
    | .str y => match d with
      | .str x => gd (decide (x.length = 1)) (.ok (y.cps.toList.contains (x.cps.getD 0 0)))
      | _ => .err
    | _ => .err
  | .nin => match e with
    | .list xs => gd (d.plain && (PyData.plainAll xs && decide (d.depth ≤ 40))) (.ok (!xs.any fun z => PyData.eqv z d))
    | .tuple xs => gd (d.plain && (PyData.plainAll xs && decide (d.depth ≤ 40))) (.ok (!xs.any fun z => PyData.eqv z d))
    | .dict ((.none, .bool tk) :: kvs) => gd (keyK tk d) (.ok (!(dget d kvs).isSome))
    | _ => .err
  | .iz => match e, d with
    | .none, .none => .ok true
    | .none, _ => .ok false
    | .bool a, .bool b => .ok (decide (b = a))
    | _, _ => .err
  | .nz => match e, d with
    | .none, .none => .ok false
    | .none, _ => .ok true
    | .bool a, .bool b => .ok (!decide (b = a))
    | _, _ => .err

def idxop (d e : PyData) : Res PyData := match d, e with
  | .list xs, .int i => match (place xs.length i).bind (xs[·]?) with
    | some x => .ok x
    | none => .err
  | .tuple xs, .int i => match (place xs.length i).bind (xs[·]?) with
    | some x => .ok x
    | none => .err
  | .str x, .int i => match (place x.cps.toList.length i).bind (x.cps.toList[·]?) with
    | some c => gd (decide (x.length ≤ LIM)) (.ok (.str ⟨#[c]⟩))
    | none => .err
  | .dict ((.none, .bool tk) :: kvs), k => gd (keyK tk k) (match dget k kvs with
    | some v => .ok v
    | none => .err)
  | _, _ => .err
def slcop (d : PyData) (l h : Option Int) : Res RV := match d with
  | .list xs => .ok (ow (.list (cutD xs l h)))
  | .tuple xs => .ok (im (.tuple (cutD xs l h)))
  | .str x => gd (decide (x.length ≤ LIM)) (.ok (im (.str ⟨(cutD x.cps.toList l h).toArray⟩)))
  | _ => .err
def revop (d : PyData) : Res RV := match d with
  | .list xs => .ok (ow (.list xs.reverse))
  | .tuple xs => .ok (im (.tuple xs.reverse))
  | _ => .err
def isiop (d : PyData) (t : Ty) : Bool := match t with
  | .int => d.isInt
  | .bool => d.isBool
  | .str => d.isStr
  | .list => d.isList
  | .tuple => d.isTuple
  | .tl => d.isTuple || d.isList
def pairsOf : List PyData → Option (List (PyData × PyData))
  | [] => some []
  | .tuple [k, v] :: r => (pairsOf r).map ((k, v) :: ·)
  | _ :: _ => none
def dmerge (kvs : List (PyData × PyData)) : List (PyData × PyData) → List (PyData × PyData)
  | [] => kvs
  | (k, v) :: r => dmerge (dput k v kvs) r
def fold1 (f : PyData → PyData → Bool) (x : PyData) (xs : List PyData) : PyData := xs.foldl (fun a y => if f y a then y else a) x

def bltop (b : Bl) (ds : List PyData) : Res RV := match b, ds with
  | .len, [.list xs] => .ok (im (.int xs.length))
  | .len, [.tuple xs] => .ok (im (.int xs.length))
  | .len, [.str x] => gd (decide (x.length ≤ LIM)) (.ok (im (.int x.length)))
  | .len, [.dict ((.none, .bool _) :: kvs)] => .ok (im (.int kvs.length))
  | .list, [.list xs] => .ok (ow (.list xs))
  | .list, [.tuple xs] => .ok (ow (.list xs))
  | .lvals, [.dict ((.none, .bool false) :: kvs)] => .ok (ow (.list (kvs.map (·.2))))
  | .tuple, [.list xs] => .ok (im (.tuple xs))
  | .tuple, [.tuple xs] => .ok (im (.tuple xs))
  | .tuple, [.str x] => gd (decide (x.length ≤ LIM)) (.ok (im (.tuple (x.cps.toList.map fun c => .str ⟨#[c]⟩))))
  | .all, [.list xs] => match allB xs with
    | some bs => .ok (im (.bool (bs.all id)))
    | none => .err
  | .any, [.list xs] => match allB xs with
    | some bs => .ok (im (.bool (bs.any id)))
    | none => .err
  | .sum, [.list xs] => match allI xs with
    | some is => .ok (im (.int is.sum))
    | none => .err
  | .min, [.list (x :: xs)] => gd (alikes (x :: xs)) (.ok (im (fold1 (fun y a => dataLt y a) x xs)))
  | .max, [.list (x :: xs)] => gd (alikes (x :: xs)) (.ok (im (fold1 (fun y a => dataLt a y) x xs)))
  | .min2, [.int i, .int j] => .ok (im (.int (if j < i then j else i)))
  | .max2, [.int i, .int j] => .ok (im (.int (if j > i then j else i)))
  | .sorted, [.list xs] => gd (alikes xs) (.ok (ow (.list (srtD xs))))
  | .sorted, [.tuple xs] => gd (alikes xs) (.ok (ow (.list (srtD xs))))
  | .sorted, [.dict ((.none, .bool _) :: kvs)] => gd (alikes (kvs.map (·.1))) (.ok (ow (.list (srtD (kvs.map (·.1))))))
  | .sset, [.list xs] => gd (okSet xs) (.ok (ow (.list (srtD (onceD xs)))))
  | .sset, [.tuple xs] => gd (okSet xs) (.ok (ow (.list (srtD (onceD xs)))))
  | .lset, [.list xs] => gd (okSet xs) (.ok (im (.int (onceD xs).length)))
  | .lset, [.tuple xs] => gd (okSet xs) (.ok (im (.int (onceD xs).length)))
  | .dict, [.list xs] => match pairsOf xs with
    | some kvs => gd (kvs.all fun p => keyK false p.1) (.ok (ow (dct false (dmerge [] kvs))))
    | none => .err
  | .dictT, [.list xs] => match pairsOf xs with
    | some kvs => gd (kvs.all fun p => keyK true p.1) (.ok (ow (dct true (dmerge [] kvs))))
    | none => .err
  | .dict, [.dict ((.none, .bool false) :: kvs)] => .ok (ow (dct false kvs))
  | _, _ => .err
def mthop (m : Mt) (d : PyData) (ds : List PyData) : Res RV := match m, d, ds with
  | .count, .list xs, [x] => gd (x.plain && (PyData.plainAll xs && decide (x.depth ≤ 40))) (.ok (im (.int (xs.countP fun y => PyData.eqv y x))))
  | .index, .list xs, [x] => gd (x.plain && (PyData.plainAll xs && decide (x.depth ≤ 40))) (match xs.findIdx? fun y => PyData.eqv y x with
    | some j => .ok (im (.int j))
    | none => .err)
  | .get2, .dict ((.none, .bool tk) :: kvs), [k, z] => gd (keyK tk k) (.ok (im ((dget k kvs).getD z)))
  | .join, .str s, [.list xs] => match allS xs with
    | some ys => gd (decide ((ys.map (·.length)).sum + ys.length * s.length ≤ 16777216)) (.ok (im (.str (Txt.join s ys))))
    | none => .err
  | .join, .str s, [.tuple xs] => match allS xs with
    | some ys => gd (decide ((ys.map (·.length)).sum + ys.length * s.length ≤ 16777216)) (.ok (im (.str (Txt.join s ys))))
    | none => .err
  | .split, .str s, [.str t] => gd (decide (t.length = 1 ∧ s.length ≤ 1000000)) (.ok (ow (.list ((Txt.split s t).map .str))))
  | _, _, _ => .err

/-- the thing that the method is asked of -/
def mthG : Mt → PyData → Bool
  | .count, .list _ => true
  | .index, .list _ => true
  | .get2, .dict ((.none, .bool _) :: _) => true
  | .join, .str _ => true
  | .split, .str _ => true
  | _, _ => false
/-- what a walk gives, item by item -/
def walkop (k : Wk) (ds : List PyData) : Res (List PyData) := match k, ds with
  | .sq, [.list xs] => .ok xs
  | .sq, [.tuple xs] => .ok xs
  | .sq, [.str x] => .ok (x.cps.toList.map fun c => .str ⟨#[c]⟩)
  | .ks, [.dict ((.none, .bool _) :: kvs)] => .ok (kvs.map (·.1))
  | .r1, [.int n] => gd (smI 1000000 n) (.ok ((List.range n.toNat).map fun (i : Nat) => .int i))
  | .r2, [.int a, .int b] => gd (smI 1000000 a && smI 1000000 b) (.ok ((List.range (b - a).toNat).map fun (i : Nat) => .int (a + i)))
  | .en, [.list xs] => .ok ((List.range xs.length).zip xs |>.map fun p => .tuple [.int p.1, p.2])
  | .en, [.tuple xs] => .ok ((List.range xs.length).zip xs |>.map fun p => .tuple [.int p.1, p.2])
  | .zp, [.list xs, .list ys] => .ok ((xs.zip ys).map fun p => .tuple [p.1, p.2])
  | .zp, [.tuple xs, .tuple ys] => .ok ((xs.zip ys).map fun p => .tuple [p.1, p.2])
  | .its, [.dict ((.none, .bool _) :: kvs)] => .ok (kvs.map fun p => .tuple [p.1, p.2])
  | _, _ => .err

/-- what a dict's walk gives -/
def dwalk (its : Bool) (kvs : List (PyData × PyData)) : List PyData := match its with
  | true => kvs.map fun p => .tuple [p.1, p.2]
  | false => kvs.map (·.1)
/-! ### slots -/
inductive SV where
  | un
  | rv (r : RV)
  | ex (c : String)
abbrev Env := List SV
def look (env : Env) (i : Nat) : Res RV := match env[i]? with
  | some (.rv ⟨d, .im⟩) => .ok ⟨d, .im⟩
  | some (.rv ⟨d, .ow⟩) => .ok ⟨d, .bo⟩
  | some (.rv ⟨d, .bo⟩) => .ok ⟨d, .bo⟩
  | _ => .err
mutual
def bindT : Tg → PyData → Env → Res Env
  | .nm i, d, env => .ok (env.set i (.rv (im d)))
  | .tp ts, .tuple ds, env => bindTs ts ds env
  | .tp ts, .list ds, env => bindTs ts ds env
  | .tp _, _, _ => .err
termination_by structural t => t
def bindTs : List Tg → List PyData → Env → Res Env
  | [], [], env => .ok env
  | t :: ts, d :: ds, env => (bindT t d env).bd fun env1 => bindTs ts ds env1
  | _, _, _ => .err
termination_by structural t => t
end
def wipeS : List (String × Nat) → Env → Env
  | [], env => env
  | p :: ps, env => (wipeS ps env).set p.2 .un
/-- as a thing that others may hold -/
def fr (r : RV) : Res PyData := match r.m with
  | .bo => .err
  | _ => .ok r.d
def bl (r : RV) : Res Bool := match r.d with
  | .bool b => .ok b
  | _ => .err
/-- an argument of a call: a look is lent, anything else given -/
def lend (r : RV) : RV := match r.m with
  | .bo => r
  | _ => im r.d
/-- dicts are walked as given things -/
def wsrc {α : Type} (k : Wk) (l g : α) : α := match k with
  | .ks => g
  | .its => g
  | _ => l
def goLc (f : PyData → Res (Option PyData)) : List PyData → List PyData → Res (List PyData)
  | [], acc => .ok acc
  | x :: r, acc => (f x).bd fun o => match o with
    | some y => goLc f r (acc ++ [y])
    | none => goLc f r acc
def goLc2 (f : PyData → List PyData → Res (List PyData)) : List PyData → List PyData → Res (List PyData)
  | [], acc => .ok acc
  | x :: r, acc => (f x acc).bd fun acc1 => goLc2 f r acc1
def goDc (f : PyData → List (PyData × PyData) → Res (List (PyData × PyData))) : List PyData → List (PyData × PyData) → Res (List (PyData × PyData))
  | [], acc => .ok acc
  | x :: r, acc => (f x acc).bd fun acc1 => goDc f r acc1
/-- nothing is raised within -/
def calm {α : Type} (r : Res α) : Res α := match r with
  | .ok a => .ok a
  | _ => .err
@[simp] theorem calm_ok {α : Type} (a : α) : calm (Res.ok a) = .ok a := rfl
def keyed (f : PyData → Res PyData) : List PyData → Res (List (PyData × PyData))
  | [] => .ok []
  | x :: r => (f x).bd fun k => (keyed f r).bd fun ks => .ok ((k, x) :: ks)

def wpO (lo : Ex) (r : Res RV) : Res (Option Int) := match lo with
  | .nil => .ok none
  | _ => r.bd fun x => match x.d with
    | .int i => .ok (some i)
    | _ => .err
def wcO (c : Ex) (r : Res RV) : Res Bool := match c with
  | .nil => .ok true
  | _ => r.bd fun x => bl x
/-- what is called: a def of the text -/
abbrev Fns := String → List SV → Res RV

mutual
def ev (Φ : Fns) : Ex → Env → Res RV
  | .nil, _ => .ok (im .none)
  | .var i, env => look env i
  | .cst d, _ => .ok (im d)
  | .glb _ d, _ => .ok (im d)
  | .tup es, env => (evs Φ es env).bd fun ds => .ok (im (.tuple ds))
  | .lst es, env => (evs Φ es env).bd fun ds => .ok (ow (.list ds))
  | .bin o a b, env => (ev Φ a env).bd fun x => (ev Φ b env).bd fun y => binop o x.m x.d y.d
  | .neg a, env => (ev Φ a env).bd fun x => match x.d with
    | .int i => .ok (im (.int (-i)))
    | _ => .err
  | .cmp o a b, env => (ev Φ a env).bd fun x => (ev Φ b env).bd fun y => (cmpop o x.d y.d).bd fun c => .ok (im (.bool c))
  | .chn o p a b c, env => (ev Φ a env).bd fun x => (ev Φ b env).bd fun y => (cmpop o x.d y.d).bd fun k => match k with
    | true => (ev Φ c env).bd fun z => (cmpop p y.d z.d).bd fun l => .ok (im (.bool l))
    | false => .ok (im (.bool false))
  | .bop k es, env => evb Φ k es env
  | .nt a, env => (ev Φ a env).bd fun x => (bl x).bd fun c => .ok (im (.bool (!c)))
  | .ite c a b, env => (ev Φ c env).bd fun x => (bl x).bd fun k => match k with
    | true => ev Φ a env
    | false => ev Φ b env
  | .idx a b, env => (ev Φ a env).bd fun x => (ev Φ b env).bd fun y => (idxop x.d y.d).bd fun z => .ok (im z)
  | .slc a lo hi, env => (ev Φ a env).bd fun x => (wpO lo (ev Φ lo env)).bd fun l => (wpO hi (ev Φ hi env)).bd fun h => slcop x.d l h
  | .rev a, env => (ev Φ a env).bd fun x => revop x.d
  | .call f es, env => (evr Φ es env).bd fun rs => Φ f (rs.map fun r => .rv (lend r))
  | .blt b es, env => (evl Φ es env).bd fun ds => bltop b ds
  | .mth m o es, env => (ev Φ o env).bd fun x => gd (mthG m x.d) ((evs Φ es env).bd fun ds => mthop m x.d ds)
  | .isi a t, env => (ev Φ a env).bd fun x => gd x.d.plain (.ok (im (.bool (isiop x.d t))))
  | .lc own tg k src cond elt, env => (wsrc k (evl Φ src env) (evs Φ src env)).bd fun ds => (walkop k ds).bd fun xs =>
      gd (decide (xs.length ≤ LIM)) ((goLc (fun x => (bindT tg x (wipeS own env)).bd fun e1 => (calm (wcO cond (ev Φ cond e1))).bd fun c => match c with
        | true => ((calm (ev Φ elt e1)).bd fr).bd fun d => .ok (some d)
        | false => .ok none) xs []).bd fun out => .ok (ow (.list out)))
  | .lcd own tg its i cond elt, env => match env[i]? with
    | some (.rv ⟨.dict ((.none, .bool tk) :: kvs), .ow⟩) => gd (decide (kvs.length ≤ LIM) && (!its || !tk)) ((goLc (fun x => (bindT tg x (wipeS own env)).bd fun e1 => (calm (wcO cond (ev Φ cond e1))).bd fun c => match c with
        | true => ((calm (ev Φ elt e1)).bd fr).bd fun d => .ok (some d)
        | false => .ok none) (dwalk its kvs) []).bd fun out => .ok (ow (.list out)))
    | _ => .err
  | .lc2 own tg k src tg1 k1 src1 elt, env => (wsrc k (evl Φ src env) (evs Φ src env)).bd fun ds => (walkop k ds).bd fun xs =>
      (goLc2 (fun x acc => (bindT tg x (wipeS own env)).bd fun e1 => (calm (evs Φ src1 e1)).bd fun ds1 => (walkop k1 ds1).bd fun xs1 =>
        goLc (fun x1 => (bindT tg1 x1 e1).bd fun e2 => ((calm (ev Φ elt e2)).bd fr).bd fun d => .ok (some d)) xs1 acc) xs []).bd fun out => gd (decide (out.length ≤ LIM)) (.ok (ow (.list out)))
  | .dc tk own tg k src key val, env => (wsrc k (evl Φ src env) (evs Φ src env)).bd fun ds => (walkop k ds).bd fun xs =>
      gd (decide (xs.length ≤ LIM)) ((goDc (fun x acc => (bindT tg x (wipeS own env)).bd fun e1 => ((calm (ev Φ key e1)).bd fr).bd fun kd => ((calm (ev Φ val e1)).bd fr).bd fun vd =>
        gd (keyK tk kd) (.ok (dput kd vd acc))) xs []).bd fun out => .ok (ow (dct tk out)))
  | .dc2 tk own tg k src cond tg1 k1 src1 key val, env => (wsrc k (evl Φ src env) (evs Φ src env)).bd fun ds => (walkop k ds).bd fun xs =>
      (goDc (fun x acc => (bindT tg x (wipeS own env)).bd fun e1 => (calm (wcO cond (ev Φ cond e1))).bd fun c => match c with
        | true => (calm (evs Φ src1 e1)).bd fun ds1 => (walkop k1 ds1).bd fun xs1 =>
          goDc (fun x1 acc1 => (bindT tg1 x1 e1).bd fun e2 => ((calm (ev Φ key e2)).bd fr).bd fun kd => ((calm (ev Φ val e2)).bd fr).bd fun vd =>
            gd (keyK tk kd) (.ok (dput kd vd acc1))) xs1 acc
        | false => .ok acc) xs []).bd fun out => gd (decide (out.length < LIM)) (.ok (ow (dct tk out)))
  | .srt x i src key, env => (ev Φ src env).bd fun l => match asList l.d with
    | some xs => (keyed (fun y => (calm (ev Φ key ((wipeS [(x, i)] env).set i (.rv (im y))))).bd fun z => fr z) xs).bd fun ks =>
        gd (alikes (ks.map (·.1))) (.ok (ow (.list ((isort (fun p q => !dataLt q.1 p.1) ks).map (·.2)))))
    | none => .err
  | .calli fs ix es, env => (ev Φ ix env).bd fun k => match k.d with
    | .int i => match (place fs.length i).bind (fs[·]?) with
      | some f => (evr Φ es env).bd fun rs => Φ f (rs.map fun r => .rv (lend r))
      | none => .err
    | _ => .err
  | .emp tk, _ => .ok (ow (dct tk []))
  | .isx i c, env => match env[i]? with
    | some (.ex c1) => .ok (im (.bool (c1 == c || c == "ToldError" || c == "ValueError")))
    | _ => .err
  | .one tk k v, env => ((ev Φ k env).bd fr).bd fun kd => ((ev Φ v env).bd fr).bd fun vd => gd (keyK tk kd) (.ok (ow (dct tk [(kd, vd)])))
termination_by structural e => e
/-- items that others may hold from now on -/
def evs (Φ : Fns) : List Ex → Env → Res (List PyData)
  | [], _ => .ok []
  | e :: r, env => (ev Φ e env).bd fun x => (fr x).bd fun d => (evs Φ r env).bd fun ds => .ok (d :: ds)
termination_by structural e => e
def evr (Φ : Fns) : List Ex → Env → Res (List RV)
  | [], _ => .ok []
  | e :: r, env => (ev Φ e env).bd fun x => (evr Φ r env).bd fun ds => .ok (x :: ds)
termination_by structural e => e
/-- things that are looked at alone -/
def evl (Φ : Fns) : List Ex → Env → Res (List PyData)
  | [], _ => .ok []
  | e :: r, env => (ev Φ e env).bd fun x => (evl Φ r env).bd fun ds => .ok (x.d :: ds)
termination_by structural e => e
def evb (Φ : Fns) (k : Bool) : List Ex → Env → Res RV
  | [], _ => .err
  | [e], env => ev Φ e env
  | e :: r, env => (ev Φ e env).bd fun x => (bl x).bd fun c => match c, k with
    | true, true => evb Φ k r env
    | false, false => evb Φ k r env
    | true, false => .ok (im (.bool true))
    | false, true => .ok (im (.bool false))
termination_by structural e => e
end
/-- a bound of a slice; nil: none is written -/
abbrev evp (Φ : Fns) (lo : Ex) (env : Env) : Res (Option Int) := wpO lo (ev Φ lo env)
/-- a comprehension's if; nil: none is written -/
abbrev evc (Φ : Fns) (c : Ex) (env : Env) : Res Bool := wcO c (ev Φ c env)
/-! ### statements -/
inductive Mu where
  | app | ext | upd | rmv | clr | ins | pop
  deriving DecidableEq
inductive Stm where
  | asg (t : Tg) (own : Bool) (e : Ex)
  | par (is : List Nat) (owns : List Bool) (es : List Ex)
  | put (i : Nat) (k e : Ex)
  | putp (i : Nat) (k : Ex) (j : Nat) (e1 e2 : Ex)
  | mut (m : Mu) (i : Nat) (es : List Ex)
  | ret (e : Ex)
  | retv (i : Nat)
  | iff (c : Ex) (a b : List Stm)
  | for_ (t : Tg) (k : Wk) (src : List Ex) (b : List Stm)
  | whl (c : Ex) (b : List Stm)
  | rse (c : String)
  | exq (e : Ex)
  | tri (b : List Stm) (i : Nat) (h : List Stm)
  | frz (i : Nat)
inductive Flow where
  | nx (env : Env)
  | rt (r : RV)
def frzS (env : Env) (i : Nat) : Env := match env[i]? with
  | some (.rv ⟨d, .ow⟩) => env.set i (.rv ⟨d, .im⟩)
  | _ => env
def frzL : List Ex → Env → Env
  | [], env => env
  | .var i :: r, env => frzL r (frzS env i)
  | _ :: r, env => frzL r env
/-- what a slot gets -/
def keep (own : Bool) (r : RV) : Res RV := match r.m, own with
  | .bo, _ => .err
  | .ow, true => .ok r
  | _, _ => .ok (im r.d)
def parS (own : Bool) (r : RV) (env : Env) (i : Nat) : Res Env := (keep own r).bd fun v => .ok (env.set i (.rv v))
def parL : List Nat → List Bool → List RV → Env → Res Env
  | [], [], [], env => .ok env
  | i :: is, o :: os, r :: rs, env => (parS o r env i).bd fun e1 => parL is os rs e1
  | _, _, _, _ => .err
def putop (d k v : PyData) : Res PyData := match d with
  | .dict ((.none, .bool tk) :: kvs) => gd (keyK tk k && decide (kvs.length < LIM)) (.ok (dct tk (dput k v kvs)))
  | .list xs => match k with
    | .int i => match place xs.length i with
      | some j => .ok (.list (xs.set j v))
      | none => .err
    | _ => .err
  | _ => .err
def mutop (m : Mu) (d : PyData) (ds : List PyData) : Res PyData := match m, d, ds with
  | .app, .list xs, [x] => gd (decide (xs.length < LIM)) (.ok (.list (xs ++ [x])))
  | .ext, .list xs, [.list ys] => gd (decide (xs.length + ys.length ≤ LIM)) (.ok (.list (xs ++ ys)))
  | .upd, .dict ((.none, .bool false) :: kvs), [.dict ((.none, .bool false) :: more)] => gd (decide (kvs.length + more.length ≤ LIM)) (.ok (dct false (dmerge kvs more)))
  | .rmv, .list xs, [x] => gd (x.plain && (PyData.plainAll xs && decide (x.depth ≤ 40))) (match xs.findIdx? fun y => PyData.eqv y x with
    | some j => .ok (.list (xs.eraseIdx j))
    | none => .err)
  | .clr, .list _, [] => .ok (.list [])
  | .pop, .list xs, [.int i] => match place xs.length i with
    | some j => .ok (.list (xs.eraseIdx j))
    | none => .err
  | .ins, .list xs, [.int i, x] => gd (decide (i = 0 ∧ xs.length < LIM)) (.ok (.list (x :: xs)))
  | _, _, _ => .err
/-- the thing that is changed -/
def mutG : Mu → PyData → Bool
  | .upd, .dict ((.none, .bool _) :: _) => true
  | .upd, _ => false
  | _, .list _ => true
  | _, _ => false
def owned (env : Env) (i : Nat) : Res PyData := match env[i]? with
  | some (.rv ⟨d, .ow⟩) => .ok d
  | _ => .err
def loopF (t : Tg) (body : Env → Res Flow) : List PyData → Env → Res Flow
  | [], env => .ok (.nx env)
  | x :: r, env => (bindT t x env).bd fun e1 => (body e1).bd fun f => match f with
    | .nx e2 => loopF t body r e2
    | .rt v => .ok (.rt v)
def loopW (c : Env → Res Bool) (body : Env → Res Flow) : Nat → Env → Res Flow
  | 0, _ => .err
  | n + 1, env => (c env).bd fun k => match k with
    | true => (body env).bd fun f => match f with
      | .nx e2 => loopW c body n e2
      | .rt v => .ok (.rt v)
    | false => .ok (.nx env)
mutual
def ex (Φ : Fns) (F : Nat) : Stm → Env → Res Flow
  | .asg (.nm i) o e, env => (ev Φ e env).bd fun r => (keep o r).bd fun v => .ok (.nx (env.set i (.rv v)))
  | .asg (.tp ts) _ e, env => (ev Φ e env).bd fun r => (fr r).bd fun d => (bindT (.tp ts) d env).bd fun e1 => .ok (.nx e1)
  | .par is os es, env => (evr Φ es env).bd fun rs => (parL is os rs env).bd fun e1 => .ok (.nx e1)
  | .put i k e, env => ((ev Φ e env).bd fr).bd fun v => (owned env i).bd fun d => ((ev Φ k env).bd fr).bd fun kd => (putop d kd v).bd fun d1 => .ok (.nx (env.set i (.rv (ow d1))))
  | .putp i k j e1 e2, env => (evs Φ [e1, e2] env).bd fun vs => (owned env i).bd fun d => ((ev Φ k env).bd fr).bd fun kd => match vs with
    | [v, v2] => (putop d kd v).bd fun d1 => .ok (.nx ((env.set i (.rv (ow d1))).set j (.rv (im v2))))
    | _ => .err
  | .mut .ext i [e], env => (owned env i).bd fun d => gd (mutG .ext d) ((ev Φ e env).bd fun r => gd (decide (r.m ≠ .im)) ((mutop .ext d [r.d]).bd fun d1 => .ok (.nx (env.set i (.rv (ow d1))))))
  | .mut .ext _ _, _ => .err
  | .mut m i es, env => (owned env i).bd fun d => gd (mutG m d) ((evs Φ es env).bd fun ds => (mutop m d ds).bd fun d1 => .ok (.nx (env.set i (.rv (ow d1)))))
  | .ret e, env => (ev Φ e env).bd fun r => (keep true r).bd fun v => .ok (.rt v)
  | .retv i, env => (owned env i).bd fun d => .ok (.rt (ow d))
  | .iff c a b, env => (ev Φ c env).bd fun r => (bl r).bd fun k => match k with
    | true => exs Φ F a env
    | false => exs Φ F b env
  | .for_ t k src b, env => (evs Φ src (frzL src env)).bd fun ds => (walkop k ds).bd fun xs => loopF t (exs Φ F b) xs (frzL src env)
  | .whl c b, env => loopW (fun e => (ev Φ c e).bd fun r => bl r) (exs Φ F b) F env
  | .rse c, _ => .exc c
  | .exq e, env => (ev Φ e env).bd fun _ => .ok (.nx env)
  | .tri b i h, env => match exs Φ F b env with
    | .ok f => .ok f
    | .exc c => (exs Φ F h (env.set i (.ex c))).bd fun f => match f with
      | .nx e2 => .ok (.nx (e2.set i .un))
      | .rt r => .ok (.rt r)
    | .err => .err
  | .frz i, env => .ok (.nx (frzS env i))
termination_by structural s => s
def exs (Φ : Fns) (F : Nat) : List Stm → Env → Res Flow
  | [], env => .ok (.nx env)
  | s :: r, env => (ex Φ F s env).bd fun f => match f with
    | .nx e2 => exs Φ F r e2
    | .rt v => .ok (.rt v)
termination_by structural s => s
end
structure Fn where
  np : Nat
  names : List String
  body : List Stm
def out (f : Flow) : RV := match f with
  | .nx _ => im .none
  | .rt r => r
/-- a call: at most n deep, F turns of a while -/
def callF (P : String → Option Fn) (F : Nat) : Nat → Fns
  | 0, _, _ => .err
  | n + 1, f, args => match P f with
    | none => .err
    | some d => gd (args.length == d.np) ((exs (callF P F n) F d.body (args ++ List.replicate (d.names.length - d.np) .un)).bd fun fl => .ok (out fl))
end Tdl
/-! TdRep: what a value of the layer stands for. -/
namespace Tdl
open PySem PySem.W L2

def kD : Key → PyData
  | .inl i => .int i
  | .inr x => .str x
def tD (ks : List Key) : PyData := .tuple (ks.map kD)

mutual
/-- v stands for d, by objects of Z alone -/
inductive Rep (K : Frag) (Z : Hp) : V → PyData → Prop
  | non : Rep K Z .non .none
  | bl (b : Bool) : Rep K Z (.bl b) (.bool b)
  | int (i : Int) : Rep K Z (.int i) (.int i)
  | str (x : Str) : Rep K Z (.str x) (.str x)
  | lst {a : Addr} {vs : List V} {ds : List PyData} : SqL K Z a vs → RepL K Z vs ds → Rep K Z (.ref a) (.list ds)
  | tup {a : Addr} {vs : List V} {ds : List PyData} : Z a = some (.tup vs) → RepL K Z vs ds → Rep K Z (.ref a) (.tuple ds)
  | dk {a : Addr} {kvs : List (Key × V)} {es : List (PyData × PyData)} : Rd Z a (.dK kvs) → RepK K Z kvs es → Rep K Z (.ref a) (dct false es)
  | dt {a : Addr} {kvs : List (List Key × V)} {es : List (PyData × PyData)} : Rd Z a (.dT kvs) → RepT K Z kvs es → Rep K Z (.ref a) (dct true es)
inductive RepL (K : Frag) (Z : Hp) : List V → List PyData → Prop
  | nil : RepL K Z [] []
  | cons {v : V} {vs : List V} {d : PyData} {ds : List PyData} : Rep K Z v d → RepL K Z vs ds → RepL K Z (v :: vs) (d :: ds)
inductive RepK (K : Frag) (Z : Hp) : List (Key × V) → List (PyData × PyData) → Prop
  | nil : RepK K Z [] []
  | cons {k : Key} {v : V} {d : PyData} {kvs : List (Key × V)} {es : List (PyData × PyData)} : Rep K Z v d → RepK K Z kvs es → RepK K Z ((k, v) :: kvs) ((kD k, d) :: es)
inductive RepT (K : Frag) (Z : Hp) : List (List Key × V) → List (PyData × PyData) → Prop
  | nil : RepT K Z [] []
  | cons {k : List Key} {v : V} {d : PyData} {kvs : List (List Key × V)} {es : List (PyData × PyData)} : Rep K Z v d → RepT K Z kvs es → RepT K Z ((k, v) :: kvs) ((tD k, d) :: es)
end

section
variable {K : Frag} {Z Z' H H' : Hp}
/-- a dict -/
def IsDc : HO → Prop
  | .dK _ => True
  | .dT _ => True
  | _ => False
/-- all that stood stands, some dicts locked -/
def Sm (Z Z' : Hp) : Prop := ∀ a o, Z a = some o → Z' a = some o ∨ (IsDc o ∧ ∃ od, Z' a = some (.frz od o))
theorem Sm.refl (Z : Hp) : Sm Z Z := fun _ _ h => .inl h
theorem Sm.of (s : Same Z Z') : Sm Z Z' := fun a o h => .inl (s a o h)
instance : Coe (Same Z Z') (Sm Z Z') := ⟨Sm.of⟩
theorem Sm.trans {Z2 : Hp} (s : Sm Z Z') (t : Sm Z' Z2) : Sm Z Z2 := fun a o h => by
  rcases s a o h with h | ⟨d, od, h⟩
  · exact t a o h
  · rcases t a _ h with h | ⟨d2, _⟩
    · exact .inr ⟨d, od, h⟩
    · exact d2.elim
theorem Sm.free (s : Sm Z Z') {a : Addr} (h : Z' a = none) : Z a = none := by
  cases e : Z a with
  | none => rfl
  | some o =>
    rcases s a o e with q | ⟨_, _, q⟩ <;> (rw [h] at q; cases q)
theorem Sm.eq (s : Sm Z Z') {a : Addr} {o : HO} (n : ¬ IsDc o) (h : Z a = some o) : Z' a = some o := by
  rcases s a o h with q | ⟨d, _⟩
  · exact q
  · exact absurd d n
theorem Sm.frz (s : Sm Z Z') {a : Addr} {o : Obj} {u : HO} (h : Z a = some (.frz o u)) : Z' a = some (.frz o u) := s.eq (fun z => z) h
theorem Sm.lst (s : Sm Z Z') {a : Addr} {vs : List V} (h : Z a = some (.lst vs)) : Z' a = some (.lst vs) := s.eq (fun z => z) h
theorem Sm.tup (s : Sm Z Z') {a : Addr} {vs : List V} (h : Z a = some (.tup vs)) : Z' a = some (.tup vs) := s.eq (fun z => z) h
theorem rd_up (s : Sm Z Z') {a : Addr} {u : HO} (h : Rd Z a u) : Rd Z' a u := by
  rcases h with h | ⟨o, h⟩
  · rcases s _ _ h with h | ⟨_, h⟩
    · exact .inl h
    · exact .inr h
  · exact .inr ⟨o, s.eq (fun z => z) h⟩
theorem seqL_up (s : Sm Z Z') {a : Addr} {vs : List V} (h : SqL K Z a vs) : SqL K Z' a vs := by
  rcases h with (h | ⟨o, h⟩) | h
  · exact .inl (.inl (s.eq (fun z => z) h))
  · exact .inl (.inr ⟨o, s.eq (fun z => z) h⟩)
  · exact .inr h
theorem seqT_up (s : Sm Z Z') {a : Addr} {vs : List V} (h : SqT K Z a vs) : SqT K Z' a vs := by
  rcases h with (h | ⟨o, h⟩) | h
  · exact .inl (.inl (s.eq (fun z => z) h))
  · exact .inl (.inr ⟨o, s.eq (fun z => z) h⟩)
  · exact .inr h
mutual
theorem Rep.up (s : Sm Z Z') : ∀ {v : V} {d : PyData}, Rep K Z v d → Rep K Z' v d
  | _, _, .non => .non
  | _, _, .bl b => .bl b
  | _, _, .int i => .int i
  | _, _, .str x => .str x
  | _, _, .lst h r => .lst (seqL_up s h) (RepL.up s r)
  | _, _, .tup h r => .tup (s.eq (fun z => z) h) (RepL.up s r)
  | _, _, .dk h r => .dk (rd_up s h) (RepK.up s r)
  | _, _, .dt h r => .dt (rd_up s h) (RepT.up s r)
theorem RepL.up (s : Sm Z Z') : ∀ {vs : List V} {ds : List PyData}, RepL K Z vs ds → RepL K Z' vs ds
  | _, _, .nil => .nil
  | _, _, .cons h r => .cons (Rep.up s h) (RepL.up s r)
theorem RepK.up (s : Sm Z Z') : ∀ {vs : List (Key × V)} {ds : List (PyData × PyData)}, RepK K Z vs ds → RepK K Z' vs ds
  | _, _, .nil => .nil
  | _, _, .cons h r => .cons (Rep.up s h) (RepK.up s r)
theorem RepT.up (s : Sm Z Z') : ∀ {vs : List (List Key × V)} {ds : List (PyData × PyData)}, RepT K Z vs ds → RepT K Z' vs ds
  | _, _, .nil => .nil
  | _, _, .cons h r => .cons (Rep.up s h) (RepT.up s r)
end
mutual
theorem Rep.dp (s : Sm Z H) : ∀ {v : V} {d : PyData}, Rep K Z v d → d.plain = true → Dp K H v d
  | _, _, .non, _ => .non
  | _, _, .bl b, _ => .bl b
  | _, _, .int i, _ => .int i
  | _, _, .str x, _ => .str x
  | _, _, .lst h r, p => .lst (seqL_up s h) (RepL.dp s r (by simpa [PyData.plain] using p))
  | _, _, .tup h r, p => .tup (.of (s.eq (fun z => z) h)) (RepL.dp s r (by simpa [PyData.plain] using p))
  | _, _, .dk h r, p => by simp [PyData.plain] at p
  | _, _, .dt h r, p => by simp [PyData.plain] at p
theorem RepL.dp (s : Sm Z H) : ∀ {vs : List V} {ds : List PyData}, RepL K Z vs ds → PyData.plainAll ds = true → DpAll K H vs ds
  | _, _, .nil, _ => .nil
  | _, _, .cons h r, p => by
    simp only [PyData.plainAll, Bool.and_eq_true] at p
    exact .cons (Rep.dp s h p.1) (RepL.dp s r p.2)
end
theorem RepL.length : ∀ {vs : List V} {ds : List PyData}, RepL K Z vs ds → vs.length = ds.length
  | _, _, .nil => rfl
  | _, _, .cons _ r => congrArg (· + 1) (RepL.length r)
theorem RepL.append : ∀ {vs ws : List V} {ds es : List PyData}, RepL K Z vs ds → RepL K Z ws es → RepL K Z (vs ++ ws) (ds ++ es)
  | _, _, _, _, .nil, r => r
  | _, _, _, _, .cons h t, r => .cons h (RepL.append t r)
theorem RepL.get : ∀ {vs : List V} {ds : List PyData} {i : Nat} {d : PyData}, RepL K Z vs ds → ds[i]? = some d → ∃ v, vs[i]? = some v ∧ Rep K Z v d
  | _, _, _, _, .nil, e => by simp at e
  | _, _, 0, _, .cons h _, e => by
    simp only [List.getElem?_cons_zero, Option.some.injEq] at e
    subst e
    exact ⟨_, rfl, h⟩
  | _, _, i + 1, d, .cons _ t, e => by
    simp only [List.getElem?_cons_succ] at e
    obtain ⟨v, h1, h2⟩ := RepL.get (i := i) t e
    exact ⟨v, by simpa using h1, h2⟩
theorem RepL.get' : ∀ {vs : List V} {ds : List PyData} {i : Nat} {v : V}, RepL K Z vs ds → vs[i]? = some v → ∃ d, ds[i]? = some d ∧ Rep K Z v d
  | _, _, _, _, .nil, e => by simp at e
  | _, _, 0, _, .cons h _, e => by
    simp only [List.getElem?_cons_zero, Option.some.injEq] at e
    subst e
    exact ⟨_, rfl, h⟩
  | _, _, i + 1, d, .cons _ t, e => by
    simp only [List.getElem?_cons_succ] at e
    obtain ⟨v, h1, h2⟩ := RepL.get' (i := i) t e
    exact ⟨v, by simpa using h1, h2⟩
theorem RepL.take : ∀ (n : Nat) {vs : List V} {ds : List PyData}, RepL K Z vs ds → RepL K Z (vs.take n) (ds.take n)
  | 0, _, _, _ => .nil
  | _ + 1, _, _, .nil => .nil
  | n + 1, _, _, .cons h t => .cons h (RepL.take n t)
theorem RepL.drop : ∀ (n : Nat) {vs : List V} {ds : List PyData}, RepL K Z vs ds → RepL K Z (vs.drop n) (ds.drop n)
  | 0, _, _, r => r
  | _ + 1, _, _, .nil => .nil
  | n + 1, _, _, .cons _ t => RepL.drop n t
theorem RepL.reverse : ∀ {vs : List V} {ds : List PyData}, RepL K Z vs ds → RepL K Z vs.reverse ds.reverse
  | _, _, .nil => .nil
  | _, _, .cons h t => by
    rw [List.reverse_cons, List.reverse_cons]
    exact RepL.append (RepL.reverse t) (.cons h .nil)
theorem RepL.set {v : V} {d : PyData} (h : Rep K Z v d) : ∀ (i : Nat) {vs : List V} {ds : List PyData}, RepL K Z vs ds → RepL K Z (vs.set i v) (ds.set i d)
  | _, _, _, .nil => .nil
  | 0, _, _, .cons _ t => .cons h t
  | i + 1, _, _, .cons q t => .cons q (RepL.set h i t)
theorem RepL.eraseIdx : ∀ (i : Nat) {vs : List V} {ds : List PyData}, RepL K Z vs ds → RepL K Z (vs.eraseIdx i) (ds.eraseIdx i)
  | _, _, _, .nil => .nil
  | 0, _, _, .cons _ t => t
  | i + 1, _, _, .cons q t => .cons q (RepL.eraseIdx i t)
theorem RepL.rep {vs : List V} {ds : List PyData} (h : RepL K Z vs ds) : ∀ n : Nat, RepL K Z (List.replicate n vs).flatten (List.replicate n ds).flatten
  | 0 => .nil
  | n + 1 => by
    rw [List.replicate_succ, List.replicate_succ, List.flatten_cons, List.flatten_cons]
    exact h.append (RepL.rep h n)
theorem RepL.nil_iff {vs : List V} {ds : List PyData} (h : RepL K Z vs ds) : vs = [] ↔ ds = [] := by
  constructor <;> intro e <;> subst e <;> cases h <;> rfl
theorem RepL.each {f : PyData → V} : ∀ {ds : List PyData}, (∀ d ∈ ds, Rep K Z (f d) d) → RepL K Z (ds.map f) ds
  | [], _ => .nil
  | d :: ds, h => .cons (h d List.mem_cons_self) (RepL.each fun e he => h e (List.mem_cons_of_mem _ he))

/-- the object at a that may be changed, read as d: itself in H, what it holds in Z -/
def OwnM (K : Frag) (Z H : Hp) (a : Addr) : PyData → Prop
  | .list ds => ∃ vs, H a = some (.lst vs) ∧ RepL K Z vs ds
  | .dict es => (∃ kvs es', es = (.none, .bool false) :: es' ∧ H a = some (.dK kvs) ∧ RepK K Z kvs es') ∨ ∃ kvs es', es = (.none, .bool true) :: es' ∧ H a = some (.dT kvs) ∧ RepT K Z kvs es'
  | _ => False
theorem OwnM.there {a : Addr} {d : PyData} (h : OwnM K Z H a d) : ∃ o, H a = some o := by
  cases d with
  | list ds => exact ⟨_, h.choose_spec.1⟩
  | dict es =>
    rcases h with ⟨_, _, _, e, _⟩ | ⟨_, _, _, e, _⟩
    · exact ⟨_, e⟩
    · exact ⟨_, e⟩
  | _ => exact h.elim
theorem OwnM.mut {a : Addr} {d : PyData} (h : OwnM K Z H a d) : Mut (H a) := by
  cases d with
  | list ds =>
    rw [h.choose_spec.1]
    trivial
  | dict es =>
    rcases h with ⟨_, _, _, e, _⟩ | ⟨_, _, _, e, _⟩
    · rw [e]; trivial
    · rw [e]; trivial
  | _ => exact h.elim
theorem OwnM.up {a : Addr} {d : PyData} (s : Sm Z Z') (e : H' a = H a) (h : OwnM K Z H a d) : OwnM K Z' H' a d := by
  cases d with
  | list ds =>
    obtain ⟨vs, h1, h2⟩ := h
    exact ⟨vs, e.trans h1, h2.up s⟩
  | dict es =>
    rcases h with ⟨_, _, e0, h1, h2⟩ | ⟨_, _, e0, h1, h2⟩
    · exact .inl ⟨_, _, e0, e.trans h1, h2.up s⟩
    · exact .inr ⟨_, _, e0, e.trans h1, h2.up s⟩
  | _ => exact h.elim
/-- an own thing given away: it stands in the unchanging part from now on -/
theorem OwnM.rep {a : Addr} {d : PyData} (s : Sm Z Z') (e : Z' a = H a) (h : OwnM K Z H a d) : Rep K Z' (.ref a) d := by
  cases d with
  | list ds =>
    obtain ⟨vs, h1, h2⟩ := h
    exact .lst (.of (e.trans h1)) (h2.up s)
  | dict es =>
    rcases h with ⟨_, _, rfl, h1, h2⟩ | ⟨_, _, rfl, h1, h2⟩
    · exact .dk (.inl (e.trans h1)) (h2.up s)
    · exact .dt (.inl (e.trans h1)) (h2.up s)
  | _ => exact h.elim

/-- the same, looked at alone: a dict may be locked -/
def OwnR (K : Frag) (Z H : Hp) (a : Addr) : PyData → Prop
  | .list ds => ∃ vs, H a = some (.lst vs) ∧ RepL K Z vs ds
  | .dict es => (∃ kvs es', es = (.none, .bool false) :: es' ∧ Rd H a (.dK kvs) ∧ RepK K Z kvs es') ∨ ∃ kvs es', es = (.none, .bool true) :: es' ∧ Rd H a (.dT kvs) ∧ RepT K Z kvs es'
  | _ => False
theorem OwnM.rd {a : Addr} {d : PyData} (h : OwnM K Z H a d) : OwnR K Z H a d := by
  cases d with
  | list ds => exact h
  | dict es =>
    rcases h with ⟨_, _, e0, h1, h2⟩ | ⟨_, _, e0, h1, h2⟩
    · exact .inl ⟨_, _, e0, .inl h1, h2⟩
    · exact .inr ⟨_, _, e0, .inl h1, h2⟩
  | _ => exact h.elim
theorem rd_eq {a : Addr} {u : HO} (e : H' a = H a) (h : Rd H a u) : Rd H' a u := by
  rcases h with h | ⟨o, h⟩
  · exact .inl (e.trans h)
  · exact .inr ⟨o, e.trans h⟩
theorem OwnR.up {a : Addr} {d : PyData} (s : Sm Z Z') (e : H' a = H a) (h : OwnR K Z H a d) : OwnR K Z' H' a d := by
  cases d with
  | list ds =>
    obtain ⟨vs, h1, h2⟩ := h
    exact ⟨vs, e.trans h1, h2.up s⟩
  | dict es =>
    rcases h with ⟨_, _, e0, h1, h2⟩ | ⟨_, _, e0, h1, h2⟩
    · exact .inl ⟨_, _, e0, rd_eq e h1, h2.up s⟩
    · exact .inr ⟨_, _, e0, rd_eq e h1, h2.up s⟩
  | _ => exact h.elim
/-- an object that is no tuple stands there -/
def NT : Option HO → Prop
  | some (.tup _) => False
  | some _ => True
  | none => False
theorem NT.ne {o : Option HO} (h : NT o) : o ≠ none := fun e => by subst e; exact h
theorem OwnR.nt {a : Addr} {d : PyData} (h : OwnR K Z H a d) : NT (H a) := by
  cases d with
  | list ds => rw [h.choose_spec.1]; trivial
  | dict es =>
    rcases h with ⟨_, _, e0, h1, h2⟩ | ⟨_, _, e0, h1, h2⟩
    · rcases h1 with h1 | ⟨_, h1⟩ <;> (rw [h1]; trivial)
    · rcases h1 with h1 | ⟨_, h1⟩ <;> (rw [h1]; trivial)
  | _ => exact h.elim
theorem NT.some {o : Option HO} (h : NT o) : ∃ x, o = some x := by
  cases o with
  | none => exact h.elim
  | some x => exact ⟨x, rfl⟩
theorem OwnR.upS {a : Addr} {d : PyData} (s : Sm Z Z') (t : Sm H H') (h : OwnR K Z H a d) : OwnR K Z' H' a d := by
  cases d with
  | list ds =>
    obtain ⟨vs, h1, h2⟩ := h
    exact ⟨vs, t.eq (fun z => z) h1, h2.up s⟩
  | dict es =>
    rcases h with ⟨_, _, e0, h1, h2⟩ | ⟨_, _, e0, h1, h2⟩
    · exact .inl ⟨_, _, e0, rd_up t h1, h2.up s⟩
    · exact .inr ⟨_, _, e0, rd_up t h1, h2.up s⟩
  | _ => exact h.elim
theorem OwnM.nt {a : Addr} {d : PyData} (h : OwnM K Z H a d) : NT (H a) := h.rd.nt

/-- nothing that stood is changed, but that dicts of the unchanging part may be locked; what is new in the unchanging part is new -/
structure Ext (Z H Z' H' : Hp) : Prop where
  z : Sm Z Z'
  h : Sm H H'
  own : ∀ a, Z a = none → NT (H a) → H' a = H a
  in_ : Same Z' H'
  new : ∀ b, Z b = none → NT (H b) → Z' b = none
theorem Ext.refl (i : Same Z H) : Ext Z H Z H := ⟨Sm.refl _, Sm.refl _, fun _ _ _ => rfl, i, fun _ h _ => h⟩
theorem Ext.nt {a : Addr} (x : Ext Z H Z' H') (hz : Z a = none) (h : NT (H a)) : NT (H' a) := by rw [x.own a hz h]; exact h
theorem Ext.trans {Z1 H1 Z2 H2 : Hp} (a : Ext Z H Z1 H1) (b : Ext Z1 H1 Z2 H2) : Ext Z H Z2 H2 :=
  ⟨a.z.trans b.z, a.h.trans b.h, fun c hz hh => (b.own c (a.new c hz hh) (a.nt hz hh)).trans (a.own c hz hh), b.in_, fun c hz hh => b.new c (a.new c hz hh) (a.nt hz hh)⟩
theorem OwnM.upS {a : Addr} {d : PyData} (x : Ext Z H Z' H') (hz : Z a = none) (h : OwnM K Z H a d) : OwnM K Z' H' a d := h.up x.z (x.own a hz h.nt)
theorem sameU {a : Addr} {o : HO} (h : H a = none) : Same H (upd H a o) := fun b x e => by
  rw [upd_ne (ne_of_none e h)]
  exact e
theorem smU {a : Addr} {o : HO} (h : H a = none) : Sm H (upd H a o) := .of (sameU h)
theorem updN {p a : Addr} {o : HO} (h : H p = none) (n : NT (H a)) : upd H p o a = H a := upd_ne fun e => by
  rw [e, h] at n
  exact n
/-- a new object, apart from the unchanging part -/
theorem Ext.obj {p : Addr} {o : HO} (i : Same Z H) (h : H p = none) : Ext Z H Z (L2.upd H p o) :=
  ⟨Sm.refl _, smU h, fun a _ n => updN h n, i.trans (sameU h), fun _ q _ => q⟩
theorem sameN (s : Same Z H) {a : Addr} (h : H a = Option.none) : Z a = Option.none := s.free h
/-- a new object that is never changed -/
theorem Ext.fix {p : Addr} {o : HO} (i : Same Z H) (h : H p = Option.none) : Ext Z H (L2.upd Z p o) (L2.upd H p o) :=
  ⟨smU (sameN i h), smU h, fun a _ n => updN h n, fun b x e => by
    by_cases hb : b = p
    · subst hb
      rw [upd_same] at e ⊢
      exact e
    · rw [upd_ne hb] at e ⊢
      exact i _ _ e, fun b q r => by
    by_cases hb : b = p
    · subst hb
      exact absurd h r.ne
    · rw [upd_ne hb]
      exact q⟩
theorem smF {a : Addr} {u : HO} {od : Obj} (h : Z a = some u) (d : IsDc u) : Sm Z (upd Z a (.frz od u)) := fun b o e => by
  by_cases hb : b = a
  · subst hb
    rw [h] at e
    cases e
    exact .inr ⟨d, od, upd_same⟩
  · exact .inl (by rw [upd_ne hb]; exact e)
/-- a dict of the unchanging part is locked -/
theorem Ext.lock {a : Addr} {u : HO} {od : Obj} (i : Same Z H) (h : Z a = some u) (d : IsDc u) : Ext Z H (L2.upd Z a (.frz od u)) (L2.upd H a (.frz od u)) :=
  ⟨smF h d, smF (i _ _ h) d, fun b hz _ => upd_ne (fun e => by rw [e, h] at hz; cases hz), fun b x e => by
    by_cases hb : b = a
    · subst hb
      rw [upd_same] at e ⊢
      exact e
    · rw [upd_ne hb] at e ⊢
      exact i _ _ e, fun b q r => by
    by_cases hb : b = a
    · subst hb
      rw [h] at q
      cases q
    · rw [upd_ne hb]
      exact q⟩

/-- what the flagged value r is, seen from a state (Z, H) that has become (Z', H') -/
def RVr (K : Frag) (H Z' H' : Hp) (r : RV) (v : V) : Prop := match r.m with
  | .im => Rep K Z' v r.d
  | .ow => ∃ a, v = .ref a ∧ H a = none ∧ Z' a = none ∧ OwnM K Z' H' a r.d
  | .bo => ∃ a, v = .ref a ∧ OwnR K Z' H' a r.d
/-- read alone: the thing in H', what it holds in Z' -/
inductive Red (K : Frag) (Z H : Hp) (v : V) (d : PyData) : Prop
  | im : Rep K Z v d → Red K Z H v d
  | ob (a : Addr) : v = .ref a → OwnR K Z H a d → Red K Z H v d
theorem RVr.red {r : RV} {v : V} (h : RVr K H Z' H' r v) : Red K Z' H' v r.d := by
  obtain ⟨d, m⟩ := r
  cases m with
  | im => exact .im h
  | ow =>
    obtain ⟨a, e, _, _, h⟩ := h
    exact .ob a e h.rd
  | bo =>
    obtain ⟨a, e, h⟩ := h
    exact .ob a e h
theorem Red.up {v : V} {d : PyData} {H1 Z1 : Hp} (x : Ext Z H Z1 H1) (h : Red K Z H v d) : Red K Z1 H1 v d := by
  rcases h with h | ⟨a, e, h⟩
  · exact .im (h.up x.z)
  · exact .ob a e (h.upS x.z x.h)
/-- given away -/
theorem RVr.give {r : RV} {v : V} {d : PyData} (i : Same Z' H') (h : RVr K H Z' H' r v) (e : fr r = .ok d) : ∃ Z'', Rep K Z'' v d ∧ Same Z' Z'' ∧ Same Z'' H' ∧ ∀ b, Z' b = none → NT (H b) → Z'' b = none := by
  obtain ⟨d', m⟩ := r
  cases m with
  | im =>
    cases e
    exact ⟨Z', h, Same.refl _, i, fun _ q _ => q⟩
  | ow =>
    cases e
    obtain ⟨a, rfl, h1, h2, h3⟩ := h
    obtain ⟨o, ho⟩ := h3.there
    refine ⟨L2.upd Z' a o, h3.rep (smU h2) (by rw [upd_same, ho]), sameU h2, fun b x e => ?_, fun b q r => ?_⟩
    · by_cases hb : b = a
      · subst hb
        rw [upd_same] at e
        rw [ho]
        exact e
      · rw [upd_ne hb] at e
        exact i _ _ e
    · by_cases hb : b = a
      · subst hb
        exact absurd h1 r.ne
      · rw [upd_ne hb]
        exact q
  | bo => cases e
theorem Red.dp {v : V} {d : PyData} (i : Same Z H) (h : Red K Z H v d) (p : d.plain = true) : Dp K H v d := by
  rcases h with h | ⟨a, rfl, h⟩
  · exact h.dp (.of i) p
  · cases d with
    | list ds =>
      obtain ⟨vs, h1, h2⟩ := h
      exact .lst (.of h1) (h2.dp (.of i) (by simpa [PyData.plain] using p))
    | dict es => simp [PyData.plain] at p
    | _ => exact h.elim
theorem Red.list {v : V} {ds : List PyData} (i : Same Z H) (h : Red K Z H v (.list ds)) : ∃ a vs, v = .ref a ∧ SqL K H a vs ∧ RepL K Z vs ds := by
  rcases h with h | ⟨a, rfl, vs, h1, h2⟩
  · cases h with
    | lst h1 h2 => exact ⟨_, _, rfl, seqL_up (.of i) h1, h2⟩
  · exact ⟨a, vs, rfl, .of h1, h2⟩
theorem Red.tuple {v : V} {ds : List PyData} (h : Red K Z H v (.tuple ds)) : ∃ a vs, v = .ref a ∧ Z a = some (.tup vs) ∧ RepL K Z vs ds := by
  rcases h with h | ⟨a, rfl, h⟩
  · cases h with
    | tup h1 h2 => exact ⟨_, _, rfl, h1, h2⟩
  · exact h.elim
theorem Red.int {v : V} {n : Int} (h : Red K Z H v (.int n)) : v = .int n := by
  rcases h with h | ⟨a, _, h⟩
  · cases h; rfl
  · exact h.elim
theorem Red.str {v : V} {x : Str} (h : Red K Z H v (.str x)) : v = .str x := by
  rcases h with h | ⟨a, _, h⟩
  · cases h; rfl
  · exact h.elim
theorem Red.bool {v : V} {b : Bool} (h : Red K Z H v (.bool b)) : v = .bl b := by
  rcases h with h | ⟨a, _, h⟩
  · cases h; rfl
  · exact h.elim
theorem Red.none {v : V} (h : Red K Z H v .none) : v = .non := by
  rcases h with h | ⟨a, _, h⟩
  · cases h; rfl
  · exact h.elim
theorem Red.dict {v : V} {es : List (PyData × PyData)} (i : Same Z H) (h : Red K Z H v (.dict es)) :
    ∃ a, v = .ref a ∧ ((∃ kvs es', es = (.none, .bool false) :: es' ∧ Rd H a (.dK kvs) ∧ RepK K Z kvs es') ∨ ∃ kvs es', es = (.none, .bool true) :: es' ∧ Rd H a (.dT kvs) ∧ RepT K Z kvs es') := by
  rcases h with h | ⟨a, rfl, h⟩
  · cases h with
    | dk h1 h2 => exact ⟨_, rfl, .inl ⟨_, _, rfl, rd_up (.of i) h1, h2⟩⟩
    | dt h1 h2 => exact ⟨_, rfl, .inr ⟨_, _, rfl, rd_up (.of i) h1, h2⟩⟩
  · exact ⟨a, rfl, h⟩
/-- every tuple of H taken into the unchanging part -/
def tupZ (Z H : Hp) : Hp := fun a => match H a with
  | some (.tup vs) => some (.tup vs)
  | _ => Z a
theorem tupZ_at {a : Addr} {vs : List V} (h : H a = some (.tup vs)) : tupZ Z H a = some (.tup vs) := by
  unfold tupZ
  rw [h]
theorem tupZ_ext (i : Same Z H) : Ext Z H (tupZ Z H) H := by
  refine ⟨.of fun a o e => ?_, Sm.refl _, fun _ _ _ => rfl, fun a o e => ?_, fun a e n => ?_⟩
  · have := i _ _ e
    unfold tupZ
    split
    · rename_i vs h
      rw [h] at this
      exact this
    · exact e
  · unfold tupZ at e
    split at e
    · rename_i vs h
      rw [h]
      exact e
    · exact i _ _ e
  · unfold tupZ
    split
    · rename_i vs h
      rw [h] at n
      exact n.elim
    · exact e
end
end Tdl
/-! TdOps: operators by values. -/
namespace Tdl
open PySem PySem.W L2 PyProof.Rows
theorem lim_eq : LIM = sizeLine := by rw [sizeLine_eq]; rfl
theorem gd_ok {α : Type} {c : Bool} {r : Res α} {a : α} (h : gd c r = .ok a) : c = true ∧ r = .ok a := by
  cases c with
  | true => exact ⟨rfl, h⟩
  | false => cases h
/-- looked at: with the flag -/
def Rd2 (K : Frag) (Z H : Hp) (r : RV) (v : V) : Prop := match r.m with
  | .im => Rep K Z v r.d
  | _ => ∃ a, v = .ref a ∧ OwnR K Z H a r.d
section
variable {K : Frag} {Z H Z' H' : Hp} {r : RV} {v : V}
theorem Rd2.red (h : Rd2 K Z H r v) : Red K Z H v r.d := by
  obtain ⟨d, m⟩ := r
  cases m with
  | im => exact .im h
  | ow =>
    obtain ⟨a, e, h⟩ := h
    exact .ob a e h
  | bo =>
    obtain ⟨a, e, h⟩ := h
    exact .ob a e h
theorem RVr.rd2 (h : RVr K H Z' H' r v) : Rd2 K Z' H' r v := by
  obtain ⟨d, m⟩ := r
  cases m with
  | im => exact h
  | ow =>
    obtain ⟨a, e, _, _, h⟩ := h
    exact ⟨a, e, h.rd⟩
  | bo =>
    obtain ⟨a, e, h⟩ := h
    exact ⟨a, e, h⟩
theorem Rd2.up {Z1 H1 : Hp} (x : Ext Z H Z1 H1) (h : Rd2 K Z H r v) : Rd2 K Z1 H1 r v := by
  obtain ⟨d, m⟩ := r
  cases m with
  | im => exact Rep.up x.z h
  | ow =>
    obtain ⟨a, e, h⟩ := h
    exact ⟨a, e, h.upS x.z x.h⟩
  | bo =>
    obtain ⟨a, e, h⟩ := h
    exact ⟨a, e, h.upS x.z x.h⟩
theorem RVr.back {H0 : Hp} (s : Sm H0 H) (h : RVr K H Z' H' r v) : RVr K H0 Z' H' r v := by
  obtain ⟨d, m⟩ := r
  cases m with
  | im => exact h
  | ow =>
    obtain ⟨a, e, h1, h⟩ := h
    exact ⟨a, e, s.free h1, h⟩
  | bo => exact h
theorem newList {p : Addr} {vs : List V} {ds : List PyData} (i : Same Z H) (hp : H p = none) (h : RepL K Z vs ds) : Ext Z H Z (upd H p (.lst vs)) ∧ RVr K H Z (upd H p (.lst vs)) (ow (.list ds)) (.ref p) :=
  ⟨Ext.obj i hp, p, rfl, hp, sameN i hp, vs, upd_same, h⟩
theorem newTup {p : Addr} {vs : List V} {ds : List PyData} (i : Same Z H) (hp : H p = none) (h : RepL K Z vs ds) : Ext Z H (upd Z p (.tup vs)) (upd H p (.tup vs)) ∧ RVr K H (upd Z p (.tup vs)) (upd H p (.tup vs)) (im (.tuple ds)) (.ref p) :=
  ⟨Ext.fix i hp, .tup upd_same (h.up (smU (sameN i hp)))⟩
end

/-- list + list -/
def rCatS (K : Frag) : R2 := fun x y H Q => ∃ l b xs zs, x = .ref l ∧ y = .ref b ∧ SqL K H l xs ∧ SqL K H b zs ∧ xs.length + zs.length ≤ sizeLine ∧ ∀ p, H p = none → Q (.ref p) (upd H p (.lst (xs ++ zs)))
section
variable {X : Cx}
theorem op_catS : OpR X (binaryOp .Add) (rCatS X.K) := by
  intro pins s σ H x y v u Q I rx ry h
  obtain ⟨l, b, xs, zs, rfl, rfl, hl, hb, hz, q⟩ := h
  cases rx
  cases ry
  obtain ⟨its, r1, ⟨⟨c1, k1, t1, sl1⟩, n1, e1, q1, q2, q3⟩, _⟩ := I.list hl
  obtain ⟨its2, r2, ⟨⟨c2, k2, t2, sl2⟩, n2, e2, w1, w2, w3⟩, _⟩ := I.list hb
  simp only at q1 q2 q3 w1 w2 w3
  subst q1 q2 q3 w1 w2 w3
  refine concat_meets ⟨_, e1, rfl⟩ ⟨_, e2, rfl⟩ noFill_list_add seq_list_add PySem.F.slot_list_add PySem.F.entry_list_add (PySem.F.args_list_add_2 _ _)
    (list_addW l b its.toArray its2.toArray n1 n2 none none sl1 sl2 (by rw [List.size_toArray, List.size_toArray, ← r1.length, ← r2.length]; exact hz)) ⟨e1, e2, ?_⟩
  have ea : its.toArray ++ its2.toArray = (its ++ its2).toArray := by simp
  rw [ea]
  exact ⟨.ref _, _, I.lnew (t' := s.toks) (r1.append r2) (by rw [List.length_append]; omega), rfl, q _ I.fresh⟩
end

def boP : Bo → Operator
  | .add => .Add | .sub => .Sub | .mul => .Mult | .fdiv => .FloorDiv | .mod => .Mod | .pow => .Pow
def rBin (K : Frag) (o : Bo) : R2 := fun x y H Q => ∃ Z r1 r2 r, Same Z H ∧ Rd2 K Z H r1 x ∧ Rd2 K Z H r2 y ∧ binop o r1.m r1.d r2.d = .ok r ∧ ∀ Z' H' v, Ext Z H Z' H' → RVr K H Z' H' r v → Q v H'
section
variable {X : Cx}
theorem op_bin (o : Bo) : OpR X (binaryOp (boP o)) (rBin X.K o) := by
  intro pins s σ H x y v u Q I rx ry h
  obtain ⟨Z, ⟨d1, m1⟩, ⟨d2, m2⟩, r, i, h1, h2, e, q⟩ := h
  unfold binop at e
  dsimp only at e
  split at e
  · -- int + int
    cases e
    cases h1.red.int
    cases h2.red.int
    exact op_add pins s σ H _ _ v u Q I rx ry ⟨_, _, rfl, rfl, q Z H _ (Ext.refl i) (.int _)⟩
  · obtain ⟨e1, e2⟩ := gd_ok e
    cases e2
    cases h1.red.str
    cases h2.red.str
    exact op_add_str pins s σ H _ _ v u Q I rx ry ⟨_, _, rfl, rfl, by rw [← lim_eq]; exact of_decide_eq_true e1, q Z H _ (Ext.refl i) (.str _)⟩
  · obtain ⟨e1, e2⟩ := gd_ok e
    cases e2
    obtain ⟨a, vs, rfl, ha, ra⟩ := h1.red.list i
    obtain ⟨b, ws, rfl, hb, rb⟩ := h2.red.list i
    refine op_catS pins s σ H _ _ v u Q I rx ry ⟨a, b, vs, ws, rfl, rfl, ha, hb, ?_, fun p hp => ?_⟩
    · rw [ra.length, rb.length, ← lim_eq]
      exact of_decide_eq_true e1
    · obtain ⟨n1, n2⟩ := newList i hp (ra.append rb)
      exact q _ _ _ n1 n2
  · obtain ⟨e1, e2⟩ := gd_ok e
    cases e2
    obtain ⟨a, vs, rfl, ha, ra⟩ := h1.red.tuple
    obtain ⟨b, ws, rfl, hb, rb⟩ := h2.red.tuple
    refine op_catA pins s σ H _ _ v u Q I rx ry ⟨a, b, vs, ws, rfl, rfl, SqT.of (i _ _ ha), SqT.of (i _ _ hb), ?_, fun z => ?_, fun _ z => ?_, fun _ _ p hp => ?_⟩
    · rw [ra.length, rb.length, ← lim_eq]
      exact of_decide_eq_true e1
    · have e3 := ra.nil_iff.mp z
      subst e3
      exact q Z H _ (Ext.refl i) (.tup hb rb)
    · have e3 := rb.nil_iff.mp z
      subst e3
      rw [List.append_nil] at q
      exact q Z H _ (Ext.refl i) (.tup ha ra)
    · obtain ⟨n1, n2⟩ := newTup i hp (ra.append rb)
      exact q _ _ _ n1 n2
  · cases e
    cases h1.red.int
    cases h2.red.int
    exact op_sub pins s σ H _ _ v u Q I rx ry ⟨_, _, rfl, rfl, q Z H _ (Ext.refl i) (.int _)⟩
  · obtain ⟨e1, e2⟩ := gd_ok e
    cases e2
    cases h1.red.int
    cases h2.red.int
    exact op_mul pins s σ H _ _ v u Q I rx ry ⟨_, _, rfl, rfl, ((Bool.or_eq_true _ _).mp e1).imp (fun c => by have := smI_iff.mp c; omega) (fun c => by have := smI_iff.mp c; omega), q Z H _ (Ext.refl i) (.int _)⟩
  · rename_i xs0 k0
    obtain ⟨e1, e2⟩ := gd_ok e
    cases e2
    cases h2.red.int
    obtain ⟨c1, c2, c3, c4⟩ := of_decide_eq_true e1
    obtain ⟨a, rfl, vs, ha, ra⟩ : ∃ a, x = .ref a ∧ OwnR X.K Z H a (.list _) := by
      cases m1 with
      | im => exact absurd rfl c1
      | ow => exact h1
      | bo => exact h1
    refine op_rep pins s σ H _ _ v u Q I rx ry ⟨a, _, vs, rfl, rfl, ha, by omega, by omega, ?_, fun p hp => ?_⟩
    · rw [ra.length, sizeLine_eq]
      have a2 : k0.toNat ≤ 1000 := by omega
      exact Nat.le_trans (Nat.mul_le_mul c4 a2) (by decide)
    · obtain ⟨n1, n2⟩ := newList i hp (ra.rep _)
      exact q _ _ _ n1 n2
  · obtain ⟨e1, e2⟩ := gd_ok e
    cases e2
    cases h2.red.int
    obtain ⟨c1, c2, c3, c4⟩ := of_decide_eq_true e1
    obtain ⟨a, vs, rfl, ha, ra⟩ := h1.red.tuple
    refine op_repT pins s σ H _ _ v u Q I rx ry ⟨a, _, vs, rfl, rfl, SqT.of (i _ _ ha), fun z => ?_, c1, c2, by rw [ra.length]; exact c4, fun p hp => ?_⟩
    · rw [ra.nil_iff.mp z] at c3
      exact absurd c3 (by simp)
    · obtain ⟨n1, n2⟩ := newTup i hp (ra.rep _)
      exact q _ _ _ n1 n2
  · obtain ⟨e1, e2⟩ := gd_ok e
    cases e2
    cases h1.red.int
    cases h2.red.int
    obtain ⟨c1, c2⟩ := (Bool.and_eq_true _ _).mp e1
    have c1 := of_decide_eq_true c1
    have c2 := smI_iff.mp c2
    exact op_fdivW pins s σ H _ _ v u Q I rx ry ⟨_, _, rfl, rfl, wide_div (b := 70) c1 (by omega) (by decide) (by decide), q Z H _ (Ext.refl i) (.int _)⟩
  · obtain ⟨e1, e2⟩ := gd_ok e
    cases e2
    cases h1.red.int
    cases h2.red.int
    exact op_mod pins s σ H _ _ v u Q I rx ry ⟨_, _, rfl, rfl, of_decide_eq_true e1, q Z H _ (Ext.refl i) (.int _)⟩
  · obtain ⟨e1, e2⟩ := gd_ok e
    cases e2
    cases h1.red.int
    cases h2.red.int
    obtain ⟨c1, c2, c3⟩ := of_decide_eq_true e1
    exact op_pow pins s σ H _ _ v u Q I rx ry ⟨_, _, rfl, rfl, ⟨c1, by omega, c3⟩, q Z H _ (Ext.refl i) (.int _)⟩
  · cases e
end
end Tdl
/-! TdOps2: dicts, comparisons. -/
namespace Tdl
open PySem PySem.W L2 PyProof.Rows

/-! ### keys -/
theorem eqv_kD (a b : Key) : PyData.eqv (kD a) (kD b) = decide (a = b) := by
  cases a <;> cases b <;> simp [kD, PyData.eqv]
  · rename_i x y
    by_cases e : x = y <;> simp [e]
  · rename_i x y
    by_cases e : x = y <;> simp [e]
theorem eqv_kDs : ∀ a b : List Key, PyData.eqvAll (a.map kD) (b.map kD) = decide (a = b)
  | [], [] => by simp [PyData.eqvAll]
  | [], _ :: _ => by simp [PyData.eqvAll]
  | _ :: _, [] => by simp [PyData.eqvAll]
  | x :: xs, y :: ys => by
    rw [List.map_cons, List.map_cons, PyData.eqvAll, eqv_kD, eqv_kDs xs ys, ← Bool.decide_and]
    exact decide_eq_decide.mpr (by rw [List.cons.injEq])
theorem eqv_tD (a b : List Key) : PyData.eqv (tD a) (tD b) = decide (a = b) := by
  unfold tD
  simp only [PyData.eqv]
  exact eqv_kDs a b
section
variable {K : Frag} {Z H : Hp}
theorem flat_rep : ∀ {xs : List PyData} {vs : List V}, xs.all flatK = true → RepL K Z vs xs → ∃ ks : List Key, xs = ks.map kD ∧ vs = ks.map kV
  | [], _, _, h => by
    cases h
    exact ⟨[], rfl, rfl⟩
  | x :: xs, _, p, h => by
    cases h with
    | cons h1 h2 =>
      simp only [List.all_cons, Bool.and_eq_true] at p
      obtain ⟨ks, e1, e2⟩ := flat_rep p.2 h2
      cases x with
      | int i =>
        cases h1
        exact ⟨.inl i :: ks, by rw [e1]; rfl, by rw [e2]; rfl⟩
      | str z =>
        cases h1
        exact ⟨.inr z :: ks, by rw [e1]; rfl, by rw [e2]; rfl⟩
      | _ => cases p.1
theorem key_flat {d : PyData} {v : V} (h : Rep K Z v d) (p : keyK false d = true) : ∃ k : Key, d = kD k ∧ v = kV k := by
  cases d with
  | int i =>
    cases h
    exact ⟨.inl i, rfl, rfl⟩
  | str z =>
    cases h
    exact ⟨.inr z, rfl, rfl⟩
  | tuple xs => cases p
  | _ => cases p
theorem key_tup {d : PyData} {v : V} (h : Rep K Z v d) (p : keyK true d = true) : ∃ (k : List Key) (b : Addr), d = tD k ∧ v = .ref b ∧ Z b = some (.tup (k.map kV)) := by
  cases d with
  | tuple xs =>
    cases h with
    | tup h1 h2 =>
      obtain ⟨ks, e1, e2⟩ := flat_rep (by simpa [keyK] using p) h2
      exact ⟨ks, _, by rw [e1]; rfl, rfl, by rw [← e2]; exact h1⟩
  | _ => cases p
/-- what is found -/
def OR (K : Frag) (Z : Hp) : Option V → Option PyData → Prop
  | some v, some d => Rep K Z v d
  | none, none => True
  | _, _ => False
theorem OR.isSome {o : Option V} {u : Option PyData} (h : OR K Z o u) : o.isSome = u.isSome := by
  cases o <;> cases u <;> first | rfl | exact h.elim
theorem RepK.find (k : Key) : ∀ {kvs : List (Key × V)} {es : List (PyData × PyData)}, RepK K Z kvs es → OR K Z (valV kvs k) (dget (kD k) es)
  | _, _, .nil => True.intro
  | _, _, .cons (k := j) h t => by
    unfold dget
    rw [eqv_kD]
    by_cases e : j = k
    · rw [valV_pos e, decide_eq_true e, if_pos rfl]
      exact h
    · rw [valV_neg e, decide_eq_false e, if_neg Bool.false_ne_true]
      exact RepK.find k t
theorem RepT.find (k : List Key) : ∀ {kvs : List (List Key × V)} {es : List (PyData × PyData)}, RepT K Z kvs es → OR K Z (valV kvs k) (dget (tD k) es)
  | _, _, .nil => True.intro
  | _, _, .cons (k := j) h t => by
    unfold dget
    rw [eqv_tD]
    by_cases e : j = k
    · rw [valV_pos e, decide_eq_true e, if_pos rfl]
      exact h
    · rw [valV_neg e, decide_eq_false e, if_neg Bool.false_ne_true]
      exact RepT.find k t
theorem RepK.length : ∀ {kvs : List (Key × V)} {es : List (PyData × PyData)}, RepK K Z kvs es → kvs.length = es.length
  | _, _, .nil => rfl
  | _, _, .cons _ t => congrArg (· + 1) (RepK.length t)
theorem RepT.length : ∀ {kvs : List (List Key × V)} {es : List (PyData × PyData)}, RepT K Z kvs es → kvs.length = es.length
  | _, _, .nil => rfl
  | _, _, .cons _ t => congrArg (· + 1) (RepT.length t)
theorem RepK.any (k : Key) : ∀ {kvs : List (Key × V)} {es : List (PyData × PyData)}, RepK K Z kvs es → (es.any fun p => PyData.eqv p.1 (kD k)) = kvs.any fun kv => decide (kv.1 = k)
  | _, _, .nil => rfl
  | _, _, .cons (k := j) h t => by rw [List.any_cons, List.any_cons, RepK.any k t, eqv_kD]
theorem RepK.repl (k : Key) {v : V} {d : PyData} (hv : Rep K Z v d) : ∀ {kvs : List (Key × V)} {es : List (PyData × PyData)}, RepK K Z kvs es →
    RepK K Z (kvs.map fun kv => if kv.1 = k then (kv.1, v) else kv) (es.map fun p => if PyData.eqv p.1 (kD k) then (p.1, d) else p)
  | _, _, .nil => .nil
  | _, _, .cons (k := j) h t => by
    rw [List.map_cons, List.map_cons, eqv_kD]
    by_cases e : j = k
    · rw [decide_eq_true e, if_pos e, if_pos rfl]
      exact .cons hv (RepK.repl k hv t)
    · rw [decide_eq_false e, if_neg e, if_neg Bool.false_ne_true]
      exact .cons h (RepK.repl k hv t)
theorem RepK.snoc (k : Key) {v : V} {d : PyData} (hv : Rep K Z v d) : ∀ {kvs : List (Key × V)} {es : List (PyData × PyData)}, RepK K Z kvs es → RepK K Z (kvs ++ [(k, v)]) (es ++ [(kD k, d)])
  | _, _, .nil => .cons hv .nil
  | _, _, .cons h t => .cons h (RepK.snoc k hv t)
theorem RepK.put (k : Key) {v : V} {d : PyData} (hv : Rep K Z v d) {kvs : List (Key × V)} {es : List (PyData × PyData)} (h : RepK K Z kvs es) : RepK K Z (putK kvs k v) (dput (kD k) d es) := by
  unfold putK dput
  rw [h.any k]
  split
  · exact h.repl k hv
  · exact h.snoc k hv
theorem RepT.any (k : List Key) : ∀ {kvs : List (List Key × V)} {es : List (PyData × PyData)}, RepT K Z kvs es → (es.any fun p => PyData.eqv p.1 (tD k)) = kvs.any fun kv => decide (kv.1 = k)
  | _, _, .nil => rfl
  | _, _, .cons (k := j) h t => by rw [List.any_cons, List.any_cons, RepT.any k t, eqv_tD]
theorem RepT.repl (k : List Key) {v : V} {d : PyData} (hv : Rep K Z v d) : ∀ {kvs : List (List Key × V)} {es : List (PyData × PyData)}, RepT K Z kvs es →
    RepT K Z (kvs.map fun kv => if kv.1 = k then (kv.1, v) else kv) (es.map fun p => if PyData.eqv p.1 (tD k) then (p.1, d) else p)
  | _, _, .nil => .nil
  | _, _, .cons (k := j) h t => by
    rw [List.map_cons, List.map_cons, eqv_tD]
    by_cases e : j = k
    · rw [decide_eq_true e, if_pos e, if_pos rfl]
      exact .cons hv (RepT.repl k hv t)
    · rw [decide_eq_false e, if_neg e, if_neg Bool.false_ne_true]
      exact .cons h (RepT.repl k hv t)
theorem RepT.snoc (k : List Key) {v : V} {d : PyData} (hv : Rep K Z v d) : ∀ {kvs : List (List Key × V)} {es : List (PyData × PyData)}, RepT K Z kvs es → RepT K Z (kvs ++ [(k, v)]) (es ++ [(tD k, d)])
  | _, _, .nil => .cons hv .nil
  | _, _, .cons h t => .cons h (RepT.snoc k hv t)
theorem RepT.put (k : List Key) {v : V} {d : PyData} (hv : Rep K Z v d) {kvs : List (List Key × V)} {es : List (PyData × PyData)} (h : RepT K Z kvs es) : RepT K Z (putK kvs k v) (dput (tD k) d es) := by
  unfold putK dput
  rw [h.any k]
  split
  · exact h.repl k hv
  · exact h.snoc k hv
/-- a look-up in a dict -/
theorem look_dict {v u : V} {tk : Bool} {es : List (PyData × PyData)} {k : PyData} (i : Same Z H) (h : Red K Z H v (dct tk es)) (hk : Red K Z H u k) (p : keyK tk k = true) : ∃ a o, v = .ref a ∧ DGet H a u o ∧ OR K Z o (dget k es) := by
  have hk' : Rep K Z u k := by
    rcases hk with h | ⟨a, rfl, h⟩
    · exact h
    · cases k <;> first | exact h.elim | (cases tk <;> cases p)
  obtain ⟨a, rfl, ⟨kvs, es', e0, e, r⟩ | ⟨kvs, es', e0, e, r⟩⟩ := h.dict i
  · simp only [List.cons.injEq, Prod.mk.injEq, PyData.bool.injEq, true_and] at e0
    obtain ⟨rfl, rfl⟩ := e0
    obtain ⟨kk, rfl, rfl⟩ := key_flat hk' p
    exact ⟨a, _, rfl, .inl ⟨kvs, kk, e, rfl, rfl⟩, r.find kk⟩
  · simp only [List.cons.injEq, Prod.mk.injEq, PyData.bool.injEq, true_and] at e0
    obtain ⟨rfl, rfl⟩ := e0
    obtain ⟨kk, b, rfl, rfl, eb⟩ := key_tup hk' p
    exact ⟨a, _, rfl, .inr ⟨kvs, kk, b, e, rfl, i _ _ eb, rfl⟩, r.find kk⟩
end

def coP : Co → CmpOp
  | .eq => .Eq | .ne => .NotEq | .lt => .Lt | .le => .LtE | .gt => .Gt | .ge => .GtE | .isin => .In | .nin => .NotIn | .iz => .Is | .nz => .IsNot
def rCmp (K : Frag) (o : Co) : R2 := fun x y H Q => ∃ Z d e b, Same Z H ∧ Red K Z H x d ∧ Red K Z H y e ∧ cmpop o d e = .ok b ∧ Q (.bl b) H
section
variable {X : Cx}
theorem min_room {a b u : Nat} (hu : u + 64 < cLine) (h : a ≤ 40 ∨ b ≤ 40) : u + min a b < cLine := by omega
theorem or_room {d e : PyData} {u : Nat} (hu : u + 64 < cLine) (h : (decide (d.depth ≤ 40) || decide (e.depth ≤ 40)) = true) : u + min d.depth e.depth < cLine := by
  refine min_room hu ?_
  simpa using h
theorem isN_ne {d : PyData} (h : (!isN d) = true) : d ≠ .none := fun e => by
  subst e
  cases h
theorem ltOk_of {d e : PyData} {u : Nat} (hu : u + 64 < cLine) (h : ltOk d e = true) : alike d e = true ∧ d ≠ .none ∧ u + min d.depth e.depth < cLine ∧ d.plain = true ∧ e.plain = true := by
  simp only [ltOk, Bool.and_eq_true] at h
  exact ⟨h.1, isN_ne h.2.1, min_room hu (.inl (of_decide_eq_true h.2.2.1)), h.2.2.2.1, h.2.2.2.2⟩
theorem Red.reads {Z H : Hp} {pins : List (Addr × Obj)} {σ : L2.St} {s : Shared} {v : V} {d : PyData} {u : Value} (I : L2.Inv X pins σ H s) (i : Same Z H) (h : Red X.K Z H v d) (p : d.plain = true) (r : RelV v u) : ∃ as, Reads s.heap u d as :=
  Dp.reads I d v u (h.dp i p) r
theorem one_sign {x : Str} (h : x.length = 1) : x = ⟨#[x.cps.getD 0 0]⟩ := by
  obtain ⟨⟨l⟩⟩ := x
  have h' : l.length = 1 := h
  cases l with
  | nil => cases h'
  | cons a r =>
    cases r with
    | nil => rfl
    | cons b r => cases h'
theorem op_cmp (hu : X.A.units + 64 < cLine) (o : Co) : OpR X (compareOp (coP o)) (rCmp X.K o) := by
  intro pins s σ H x y v u Q I rx ry h
  obtain ⟨Z, d, e, b, i, h1, h2, eq, q⟩ := h
  have fin : EP X pins σ Q (.bool b) s := ⟨.bl b, H, I, rfl, q⟩
  cases o with
  | eq =>
    obtain ⟨g1, g2⟩ := gd_ok eq
    cases g2
    simp only [eqOk, Bool.and_eq_true] at g1
    obtain ⟨as, r1⟩ := h1.reads I i g1.1 rx
    obtain ⟨bs, r2⟩ := h2.reads I i g1.2.1 ry
    exact SeqAt.eq_plain r1 r2 g1.1 g1.2.1 (or_room hu g1.2.2) fin
  | ne =>
    obtain ⟨g1, g2⟩ := gd_ok eq
    cases g2
    simp only [eqOk, Bool.and_eq_true] at g1
    obtain ⟨as, r1⟩ := h1.reads I i g1.1 rx
    obtain ⟨bs, r2⟩ := h2.reads I i g1.2.1 ry
    exact SeqAt.ne_plain r1 r2 g1.1 g1.2.1 (or_room hu g1.2.2) fin
  | lt =>
    obtain ⟨g1, g2⟩ := gd_ok eq
    cases g2
    obtain ⟨g1, g2, g3, g4, g5⟩ := ltOk_of hu g1
    obtain ⟨as, r1⟩ := h1.reads I i g4 rx
    obtain ⟨bs, r2⟩ := h2.reads I i g5 ry
    exact lt_data r1 r2 g1 g2 g3 fin
  | gt =>
    obtain ⟨g1, g2⟩ := gd_ok eq
    cases g2
    obtain ⟨g1, g2, g3, g4, g5⟩ := ltOk_of hu g1
    obtain ⟨as, r1⟩ := h1.reads I i g4 rx
    obtain ⟨bs, r2⟩ := h2.reads I i g5 ry
    exact gt_data r1 r2 g1 g2 g3 fin
  | le =>
    obtain ⟨g1, g2⟩ := gd_ok eq
    cases g2
    obtain ⟨g1, g2, g3, g4, g5⟩ := ltOk_of hu g1
    obtain ⟨as, r1⟩ := h1.reads I i g4 rx
    obtain ⟨bs, r2⟩ := h2.reads I i g5 ry
    exact le_data r1 r2 g1 g2 g3 fin
  | ge =>
    obtain ⟨g1, g2⟩ := gd_ok eq
    cases g2
    obtain ⟨g1, g2, g3, g4, g5⟩ := ltOk_of hu g1
    obtain ⟨as, r1⟩ := h1.reads I i g4 rx
    obtain ⟨bs, r2⟩ := h2.reads I i g5 ry
    exact ge_data r1 r2 g1 g2 g3 fin
  | isin =>
    unfold cmpop at eq
    dsimp only at eq
    split at eq
    · obtain ⟨g1, g2⟩ := gd_ok eq
      cases g2
      simp only [Bool.and_eq_true] at g1
      obtain ⟨as, r1⟩ := h1.reads I i g1.1 rx
      obtain ⟨bs, r2⟩ := h2.reads I i (by simpa [PyData.plain] using g1.2.1) ry
      have g3 := of_decide_eq_true g1.2.2
      exact SeqAt.in_list_data r2 r1 g1.2.1 g1.1 (by omega) fin
    · obtain ⟨g1, g2⟩ := gd_ok eq
      cases g2
      simp only [Bool.and_eq_true] at g1
      obtain ⟨as, r1⟩ := h1.reads I i g1.1 rx
      obtain ⟨bs, r2⟩ := h2.reads I i (by simpa [PyData.plain] using g1.2.1) ry
      have g3 := of_decide_eq_true g1.2.2
      exact SeqAt.in_tuple_data r2 r1 g1.2.1 g1.1 (by omega) fin
    · obtain ⟨g1, g2⟩ := gd_ok eq
      cases g2
      obtain ⟨a, oo, rfl, g, r⟩ := look_dict i h2 h1 g1
      cases ry
      refine d_in (by omega) I g rx fun s' I' => ⟨.bl _, H, I', rfl, ?_⟩
      rw [r.isSome]
      exact q
    · split at eq
      · rename_i yy _ xx
        obtain ⟨g1, g2⟩ := gd_ok eq
        cases g2
        cases h1.str
        cases h2.str
        refine op_in_sign pins s σ H _ _ v u Q I rx ry ⟨xx.cps.getD 0 0, yy, congrArg V.str (one_sign (of_decide_eq_true g1)), rfl, ?_⟩
        have e3 : yy.cps.toList.contains (xx.cps.getD 0 0) = decide (xx.cps.getD 0 0 ∈ yy.cps.toList) := by
          rw [List.contains_eq_mem]
        rw [← e3]
        exact q
      · cases eq
    · cases eq
  | nin =>
    unfold cmpop at eq
    dsimp only at eq
    split at eq
    · obtain ⟨g1, g2⟩ := gd_ok eq
      cases g2
      simp only [Bool.and_eq_true] at g1
      obtain ⟨as, r1⟩ := h1.reads I i g1.1 rx
      obtain ⟨bs, r2⟩ := h2.reads I i (by simpa [PyData.plain] using g1.2.1) ry
      have g3 := of_decide_eq_true g1.2.2
      exact SeqAt.notIn_list_data r2 r1 g1.2.1 g1.1 (by omega) fin
    · obtain ⟨g1, g2⟩ := gd_ok eq
      cases g2
      simp only [Bool.and_eq_true] at g1
      obtain ⟨as, r1⟩ := h1.reads I i g1.1 rx
      obtain ⟨bs, r2⟩ := h2.reads I i (by simpa [PyData.plain] using g1.2.1) ry
      have g3 := of_decide_eq_true g1.2.2
      exact SeqAt.notIn_tuple_data r2 r1 g1.2.1 g1.1 (by omega) fin
    · obtain ⟨g1, g2⟩ := gd_ok eq
      cases g2
      obtain ⟨a, oo, rfl, g, r⟩ := look_dict i h2 h1 g1
      cases ry
      refine d_notIn (by omega) I g rx fun s' I' => ⟨.bl _, H, I', rfl, ?_⟩
      rw [r.isSome]
      exact q
    · cases eq
  | iz =>
    unfold cmpop at eq
    dsimp only at eq
    split at eq
    · cases eq
      cases h1.none
      cases h2.none
      exact op_isN pins s σ H _ _ v u Q I rx ry ⟨rfl, q⟩
    · rename_i hne
      cases eq
      cases h2.none
      refine op_isN pins s σ H _ _ v u Q I rx ry ⟨rfl, ?_⟩
      have : x ≠ .non := fun e => by
        subst e
        rcases h1 with h1 | ⟨a, z, _⟩
        · cases h1
          exact hne rfl
        · cases z
      rw [decide_eq_false this]
      exact q
    · cases eq
      cases h1.bool
      cases h2.bool
      exact op_isBl pins s σ H _ _ v u Q I rx ry ⟨_, _, rfl, rfl, q⟩
    · cases eq
  | nz =>
    unfold cmpop at eq
    dsimp only at eq
    split at eq
    · cases eq
      cases h1.none
      cases h2.none
      exact op_notN pins s σ H _ _ v u Q I rx ry ⟨rfl, q⟩
    · rename_i hne
      cases eq
      cases h2.none
      refine op_notN pins s σ H _ _ v u Q I rx ry ⟨rfl, ?_⟩
      have : x ≠ .non := fun e => by
        subst e
        rcases h1 with h1 | ⟨a, z, _⟩
        · cases h1
          exact hne rfl
        · cases z
      rw [decide_eq_false this]
      exact q
    · cases eq
      cases h1.bool
      cases h2.bool
      exact op_notBl pins s σ H _ _ v u Q I rx ry ⟨_, _, rfl, rfl, q⟩
    · cases eq
end
end Tdl
/-! TdOps3: items and slices. -/
namespace Tdl
open PySem PySem.W L2 PyProof.Rows

theorem place_atI {α : Type} (xs : List α) (i : Int) : (place xs.length i).bind (xs[·]?) = atI xs i := rfl
def rIdx (K : Frag) : R2 := fun x y H Q => ∃ Z d e z, Same Z H ∧ Red K Z H x d ∧ Red K Z H y e ∧ idxop d e = .ok z ∧ ∀ v, Rep K Z v z → Q v H
section
variable {K : Frag} {Z H : Hp} {X : Cx}
theorem RepL.at {vs : List V} {ds : List PyData} {i : Int} {d : PyData} (h : RepL K Z vs ds) (e : atI ds i = some d) : ∃ v, atI vs i = some v ∧ Rep K Z v d := by
  obtain ⟨j, h1, h2, h3, h4, h5⟩ := atI_get e
  obtain ⟨v, e1, e2⟩ := h.get h2
  refine ⟨v, ?_, e2⟩
  unfold atI at e ⊢
  rw [h.length]
  cases q : ixN ds.length i with
  | none => rw [q] at e; cases e
  | some k =>
    obtain ⟨g1, _⟩ := ixN_seq q
    rw [g1] at h1
    cases h1
    exact e1
theorem ix_dict (hu : X.A.units + 1 < cLine) : IxR X (fun x y H Q => ∃ a v, x = .ref a ∧ DGet H a y (some v) ∧ Q v H) := by
  intro value slice pins s σ H x y v u Q I rx ry h hs
  obtain ⟨a, z, rfl, g, q⟩ := h
  obtain rfl : v = Value.ref a := rx
  have hT := dict_typeIs I g
  unfold subscriptTail
  refine wpAny_bind ?_
  rw [getitemInPython_of_ne hT.not_modules]
  refine wpAny_bind (wpAny_specialOf hT PySem.F.slot_dict_getitem.lookup ?_)
  have go : wpAny (model X.prog X.w) X.A (subscripted slice false (.ref a) u) (fun r s₃ => wpAny (model X.prog X.w) X.A (letTemporaryGo value (.ref a) r >>= fun _ => pure r) (EP X pins σ Q) X.xe s₃) X.xe s := by
    rw [hs]
    refine wpAny_operating (d_getItem hu I g ry fun w' s3 I3 rw' => ?_)
    exact wpAny_bind (wpAny_letTemporaryGo (wpAny_pure ⟨z, H, I3, rw', q⟩))
  first
    | exact wpAny_pure (wpAny_bind go)
    | exact wpAny_bind (wpAny_pure (wpAny_bind go))
    | exact wpAny_bind go
theorem ix_all (hu : X.A.units + 64 < cLine) : IxR X (rIdx X.K) := by
  intro value slice pins s σ H x y v u Q I rx ry h hs
  obtain ⟨Z, d, e, z, i, h1, h2, eq, q⟩ := h
  unfold idxop at eq
  split at eq
  · split at eq
    · rename_i xs j _ w hw
      cases eq
      obtain ⟨a, vs, rfl, ha, ra⟩ := h1.list i
      cases h2.int
      obtain ⟨v1, g1, g2⟩ := ra.at hw
      exact ix_list value slice pins s σ H _ _ v u Q I rx ry ⟨a, vs, _, v1, rfl, rfl, ha, g1, q v1 g2⟩ hs
    · cases eq
  · split at eq
    · rename_i xs j _ w hw
      cases eq
      obtain ⟨a, vs, rfl, ha, ra⟩ := h1.tuple
      cases h2.int
      obtain ⟨v1, g1, g2⟩ := ra.at hw
      exact ix_tup value slice pins s σ H _ _ v u Q I rx ry ⟨a, vs, _, v1, rfl, rfl, .of (i _ _ ha), g1, q v1 g2⟩ hs
    · cases eq
  · split at eq
    · rename_i xs j _ c hc
      obtain ⟨g1, g2⟩ := gd_ok eq
      cases g2
      cases h1.str
      cases h2.int
      exact ix_str value slice pins s σ H _ _ v u Q I rx ry ⟨_, _, c, rfl, rfl, by rw [← lim_eq]; exact of_decide_eq_true g1, hc, q _ (.str _)⟩ hs
    · cases eq
  · obtain ⟨g1, g2⟩ := gd_ok eq
    split at g2
    · rename_i w hw
      cases g2
      obtain ⟨a, o, rfl, g, r⟩ := look_dict i h1 h2 g1
      rw [hw] at r
      cases o with
      | none => exact r.elim
      | some v1 => exact ix_dict (by omega) value slice pins s σ H _ _ v u Q I rx ry ⟨a, v1, rfl, g, q v1 r⟩ hs
    · cases g2
  · cases eq

def rSlc (K : Frag) : V → Option Int → Option Int → Hp → VK → Prop := fun x lo hi H Q => ∃ Z d r, Same Z H ∧ Red K Z H x d ∧ slcop d lo hi = .ok r ∧ ∀ Z' H' v, Ext Z H Z' H' → RVr K H Z' H' r v → Q v H'
theorem cut_rep {vs : List V} {ds : List PyData} (lo hi : Option Int) (h : RepL K Z vs ds) : RepL K Z (cutV vs lo hi) (cutD ds lo hi) := by
  unfold cutV cutD
  rw [h.length]
  exact (h.drop _).take _
theorem sl_all : SlR X (rSlc X.K) := by
  intro pins s σ H x v vl vu lo hi sl Q I rx hs pl pu h
  obtain ⟨Z, d, r, i, h1, eq, q⟩ := h
  unfold slcop at eq
  split at eq
  · cases eq
    obtain ⟨a, vs, rfl, ha, ra⟩ := h1.list i
    refine sl_list pins s σ H _ v vl vu lo hi sl Q I rx hs pl pu ⟨a, vs, rfl, ha, fun p hp => ?_⟩
    obtain ⟨n1, n2⟩ := newList i hp (cut_rep lo hi ra)
    exact q _ _ _ n1 n2
  · cases eq
    obtain ⟨a, vs, rfl, ha, ra⟩ := h1.tuple
    refine sl_tupA pins s σ H _ v vl vu lo hi sl Q I rx hs pl pu ⟨a, vs, rfl, .of (i _ _ ha), fun hw => ?_, fun _ p hp => ?_⟩
    · refine q Z H _ (Ext.refl i) ?_
      have e3 : cutV vs lo hi = vs := by
        unfold cutV
        rw [hw.1, hw.2, List.drop_zero, Nat.sub_zero, List.take_length]
      have := cut_rep lo hi ra
      rw [e3] at this
      exact .tup ha this
    · obtain ⟨n1, n2⟩ := newTup i hp (cut_rep lo hi ra)
      exact q _ _ _ n1 n2
  · obtain ⟨g1, g2⟩ := gd_ok eq
    cases g2
    cases h1.str
    exact sl_str pins s σ H _ v vl vu lo hi sl Q I rx hs pl pu ⟨_, rfl, by rw [← lim_eq]; exact of_decide_eq_true g1, q Z H _ (Ext.refl i) (.str _)⟩
  · cases eq
end
end Tdl
/-! TdRev: t[::-1] of a tuple. -/
namespace Tdl
open PySem PySem.W L2 PyProof.Rows
theorem fm_congr {α β : Type} {f g : α → Option β} : ∀ {l : List α}, (∀ x ∈ l, f x = g x) → l.filterMap f = l.filterMap g
  | [], _ => rfl
  | x :: l, h => by
    rw [List.filterMap_cons, List.filterMap_cons, h x List.mem_cons_self, fm_congr fun y hy => h y (List.mem_cons_of_mem _ hy)]
theorem rev_pick (xs : Array Value) : ((List.range xs.size).filterMap fun (m : Nat) => xs[((xs.size : Int) - 1 + (m : Int) * (-1)).toNat]?).toArray = xs.toList.reverse.toArray := by
  congr 1
  have e : (List.range xs.size).filterMap (fun (m : Nat) => xs[((xs.size : Int) - 1 + (m : Int) * (-1)).toNat]?) = (List.range xs.size).filterMap fun m => xs[xs.size - 1 - m]? := by
    refine fm_congr fun m hm => ?_
    have := List.mem_range.mp hm
    have e2 : ((xs.size : Int) - 1 + (m : Int) * (-1)).toNat = xs.size - 1 - m := by omega
    rw [e2]
  rw [e]
  have e3 : (fun m => xs[xs.size - 1 - m]?) = (fun k => xs[k]?) ∘ fun m => xs.size - 1 - m := rfl
  rw [e3, ← List.filterMap_map, krv_range, List.filterMap_reverse, krv_all]
theorem places_rev (n : Nat) : Builtin.Slice.slicePlaces ((n : Int) - 1) (-1) (-1) = n := by
  unfold Builtin.Slice.slicePlaces
  have h1 : ¬ ((-1 : Int) > 0) := by decide
  simp only [if_neg h1]
  by_cases h : n = 0
  · subst h
    decide
  · have h2 : (n : Int) - 1 > -1 := by omega
    rw [if_pos h2]
    have : ((n : Int) - 1 - -1 - 1) / (- -1) + 1 = n := by
      have e : (- -1 : Int) = 1 := by decide
      rw [e, Int.ediv_one]
      omega
    rw [this]
    exact Int.toNat_natCast n
section
variable {prog : Program} {w : World} {A : Around} {E : Value → Shared → Prop} {s : Shared}
theorem revApplied {sl : Addr} {vs : Value} {n : Nat} {Q : Int × Int × Nat → Shared → Prop} (hs : s.heap.IsSliceOf sl .none .none vs) (p : IsPart vs (some (-1)))
    (h : Q ((n : Int) - 1, -1, n) s) : wpAny (model prog w) A (Builtin.Slice.sliceApplied (.ref sl) (pure (n : Int))) Q E s := by
  obtain ⟨os, hos, hcs, hds⟩ := id hs
  unfold Builtin.Slice.sliceApplied Builtin.Slice.sliceFields
  refine wpAny_bind (wpAny_bind (wpAny_field hos hds (x := .none) rfl (wpAny_bind (wpAny_field hos hds (x := .none) rfl (wpAny_bind (wpAny_field hos hds (x := vs) rfl (wpAny_pure ?_)))))))
  refine wpAny_bind (HT.slicePart_ p ?_)
  show wpAny _ _ (if ((-1 : Int) == 0) = true then _ else _) _ _ s
  rw [if_neg (by decide)]
  refine wpAny_bind (HT.slicePart_ .none (wpAny_bind (HT.slicePart_ .none (wpAny_bind (wpAny_pure ?_)))))
  show wpAny _ _ (pure ((n : Int) - 1, (-1 : Int), Builtin.Slice.slicePlaces ((n : Int) - 1) (-1) (-1))) _ _ s
  rw [places_rev]
  exact wpAny_pure h
theorem getItem_tuple_rev {t sl : Addr} {items : Array Value} {vs : Value} {Q : Value → Shared → Prop} (ht : IsTup s.heap t items) (hs : s.heap.IsSliceOf sl .none .none vs) (p : IsPart vs (some (-1)))
    (h : Q (.ref s.heap.objs.size) { s with heap := s.heap.push { cls := .type "tuple", data := .seq items.toList.reverse.toArray } }) (hsz : items.size ≤ sizeLine) :
    wpAny (model prog w) A (getItem (.ref t) (.ref sl)) Q E s := by
  have hrev : sizeOk (.seq items.toList.reverse.toArray) := by
    show items.toList.reverse.toArray.size ≤ sizeLine
    rw [List.size_toArray, List.length_reverse, Array.length_toList]
    exact hsz
  obtain ⟨os, hos, hcs, hds⟩ := id hs
  have hTs : s.TypeIs (.ref sl) "slice" := ⟨os, hos, hcs⟩
  unfold getItem
  try with_reducible refine wpAny_holding ?_
  first | refine wpAny_bind (wpAny_pure ?_) | skip
  refine wpAny_bind (wpAny_sequenceKey ht.typeIs (by decide) ?_)
  refine wpAny_bind (wpAny_callSpecial?_slot (name := Str.ofString "__getitem__") ht.typeIs PyProof.Rows.slot_tuple_getitem
    (wpAny_call_entry PyProof.Rows.slot_tuple_getitem ht.typeIs entry_tuple_getitem ?_ (args_tuple_getitem _ _)))
  show wpAny _ _ (Builtin.Tuple.tupleItemsOf (.ref t) >>= _) _ _ s
  refine wpAny_bind (tupleItemsOf_ ht ?_)
  refine wpAny_bind (wpAny_typeOf hTs ?_)
  rw [if_pos (by decide)]
  refine wpAny_bind (revApplied hs p ?_)
  have hno : ¬ ((((items.size : Int) - 1) == 0 && (-1 : Int) == 1 && items.size == items.size) = true) := by
    intro q
    rw [Bool.and_eq_true, Bool.and_eq_true] at q
    exact absurd (eq_of_beq q.1.2) (by decide)
  show wpAny _ _ (if (((items.size : Int) - 1) == 0 && (-1 : Int) == 1 && items.size == items.size) = true then _ else _) _ _ s
  rw [if_neg hno, rev_pick]
  first
    | exact wpAny_bind (m := Builtin.Tuple.tupleExact _) (wpAny_newObj_type (wpAny_pure ⟨_, rfl, wpAny_pure h⟩) hrev)
    | exact wpAny_bind (m := Builtin.Tuple.tupleExact _) (wpAny_newObj_type (wpAny_bind (wpAny_pure (wpAny_pure ⟨_, rfl, wpAny_pure h⟩))) hrev)
    | exact wpAny_bind (wpAny_bind (m := Builtin.Tuple.tupleExact _) (wpAny_newObj_type (wpAny_pure (wpAny_pure ⟨_, rfl, wpAny_pure h⟩)) hrev))
    | exact wpAny_bind (wpAny_bind (m := Builtin.Tuple.tupleExact _) (wpAny_newObj_type (wpAny_pure ⟨_, rfl, wpAny_pure h⟩) hrev))
end
section
variable {X : Cx}
/-- xs[::-1], a list or a tuple -/
def tRev (K : Frag) (te : TE) : TE := fun σ H Q => te σ H fun x H1 => ∃ Z d r, Same Z H1 ∧ Red K Z H1 x d ∧ revop d = .ok r ∧ ∀ Z' H' v, Ext Z H1 Z' H' → RVr K H1 Z' H' r v → Q v H'
theorem pe_rev {e : Expr} {te : TE} {k : Nat} {p1 p2 p3 pos : Pos} (he : PE X e te) : PE X (.Subscript e (.Slice none none (some (.UnaryOp .USub (.Constant (.int 1) k p1) p2)) p3) pos) (tRev X.K te) := by
  refine ⟨fun pins s σ H Q I h => ?_⟩
  refine Subscript_ (thn (he.run pins s σ H _ I h) fun v s1 ⟨x, H1, I1, r1, q1⟩ => ?_)
  obtain ⟨Z, d, r, i, hd, eq, q⟩ := q1
  have hst : PO X (some (.UnaryOp .USub (.Constant (.int 1) k p1) p2)) (tPart (tUn (rU fun i => .int (-i)) (tC (.int 1)))) := po_some (pe_un un_neg pe_int)
  refine wpAny_Slice (thn (po_none.run pins s1 σ H1 (fun o H2 => o = none ∧ H2 = H1) I1 ⟨rfl, rfl⟩) fun vl s2 ⟨l, H2, I2, pl, el, e2⟩ => ?_)
  subst el e2
  refine thn (po_none.run pins s2 σ H2 (fun o H3 => o = none ∧ H3 = H2) I2 ⟨rfl, rfl⟩) fun vu s3 ⟨u, H3, I3, pu, eu, e3⟩ => ?_
  subst eu e3
  refine thn (hst.run pins s3 σ H3 (fun o H4 => o = some (-1) ∧ H4 = H3) I3 ⟨1, rfl, -1, rfl, rfl, rfl⟩) fun vs s4 ⟨o, H4, I4, ps, eo, e4⟩ => ?_
  subst eo e4
  have I5 : L2.Inv X pins σ H4 { s4 with heap := s4.heap.push { cls := .type "slice", data := .fields #[vl, vu, vs] } } := I4.kept (t' := s4.toks) fun b ob q => Heap.get?_push_of_some _ q
  cases pl
  cases pu
  unfold revop at eq
  split at eq
  · cases eq
    obtain ⟨a, ws, rfl, ha, ra⟩ := hd.list i
    cases r1
    obtain ⟨its, rr, ht, hz⟩ := I5.list ha
    have hlen := rr.length
    show wpAny (model X.prog X.w) X.A (subscriptTail e (.Slice none none (some (.UnaryOp .USub (.Constant (.int 1) k p1) p2)) p3) (.ref a) (.ref s4.heap.objs.size)) (EP X pins σ Q) X.xe _
    refine tail_any (ops := [.ref a, .ref s4.heap.objs.size]) ht.isList.typeIs (PySem.slot_list_getitem.lookup) ?_ (by with_unfolding_all rfl)
    refine wpAny_getItem_list_slice ht.isList (Heap.IsSliceOf.new _ .none .none vs) .none .none ps (by decide) ?_ (by rw [List.size_toArray]; omega)
    rw [krv_pick]
    obtain ⟨n1, n2⟩ := newList i I5.fresh ra.reverse
    refine ⟨.ref _, _, I5.lnew (t' := s4.toks) rr.reverse (by rw [List.length_reverse]; exact hz), rfl, q _ _ _ n1 n2⟩
  · cases eq
    obtain ⟨a, ws, rfl, ha, ra⟩ := hd.tuple
    cases r1
    obtain ⟨its, rr, ht, hz⟩ := I5.tuple (.of (i _ _ ha))
    have hlen := rr.length
    show wpAny (model X.prog X.w) X.A (subscriptTail e (.Slice none none (some (.UnaryOp .USub (.Constant (.int 1) k p1) p2)) p3) (.ref a) (.ref s4.heap.objs.size)) (EP X pins σ Q) X.xe _
    refine tail_any (ops := [.ref a, .ref s4.heap.objs.size]) ht.typeIs (PyProof.Rows.slot_tuple_getitem.lookup) ?_ (by with_unfolding_all rfl)
    refine getItem_tuple_rev ht (Heap.IsSliceOf.new _ .none .none vs) ps ?_ (by rw [List.size_toArray]; omega)
    obtain ⟨n1, n2⟩ := newTup i I5.fresh ra.reverse
    refine ⟨.ref _, _, I5.laid (t' := s4.toks) (o := .tup ws.reverse) (fun b ob q => Heap.get?_push_of_some _ q) (Nat.le_refl _) ?_, rfl, q _ _ _ n1 n2⟩
    exact ⟨by rw [List.length_reverse]; exact hz, _, rr.reverse, IsTup.new _ _⟩
  · cases eq
end
end Tdl
/-! TdSort: sorted of alike data, empty tuples among them too. -/
namespace Tdl
open PySem PySem.W L2 PyProof.Rows

def TupHd (h : Heap) (v : Value) (o : Option Value) : Prop := ∃ a ob xs n, v = Value.ref a ∧ h.get? a = some ob ∧ ob.cls = .type "tuple" ∧ ob.data = .seq xs n ∧ xs[0]? = o
section
variable {M : Model} {A : Around} {E : Value → Shared → Prop} {s : Shared}
theorem heads_wp : ∀ (vs : List Value) (os : List (Option Value)) {Q : List (Option Value) → Shared → Prop}, EachIs (TupHd s.heap) vs os → Q os s → wpAny M A (vs.mapM firstOfTuple') Q E s
  | [], os, _, t, h => by
    cases t
    rw [List.mapM_nil]
    exact wpAny_pure h
  | v :: vs, os, Q, t, h => by
    cases t with
    | cons t1 t2 =>
      obtain ⟨a, o, xs, n, rfl, ho, hc, hd, hf⟩ := t1
      rw [List.mapM_cons]
      refine wpAny_bind ?_
      rw [kas_first_eq]
      refine wpAny_bind (Looks.here (show Looks M s.heap (typeOf (.ref a)) o.cls from (Looks.ld ho).andThen .now) ?_)
      rw [hc, if_neg (by first | decide | simp)]
      refine wpAny_bind (listItems_at ho hd (wpAny_pure ?_))
      rw [hf]
      exact wpAny_bind (heads_wp vs _ (Q := fun bs s' => wpAny M A (pure (_ :: bs)) Q E s') t2 (wpAny_pure h))
theorem kind_mixed {vs : List Value} {os : List (Option Value)} (t : EachIs (TupHd s.heap) vs os) (hn : os.all (·.isSome) = false) :
    ∃ kd, (kd = general' ∨ kd = oneType') ∧ ∀ (E : Value → Shared → Prop) {Q : SortKind → Shared → Prop}, Q kd s → wpAny M A (keyKind' vs.toArray) Q E s := by
  by_cases hc : (os.toArray[0]?.bind id).isSome = true
  · refine ⟨general', .inl rfl, fun E Q h => ?_⟩
    rw [kat_kind_eq, List.mapM_toArray, map_eq_pure_bind]
    refine wpAny_bind (wpAny_bind (heads_wp vs os t (wpAny_pure ?_)))
    rw [if_neg (by simpa using hn), if_pos hc]
    exact wpAny_pure h
  · refine ⟨oneType', .inr rfl, fun E Q h => ?_⟩
    rw [kat_kind_eq, List.mapM_toArray, map_eq_pure_bind]
    refine wpAny_bind (wpAny_bind (heads_wp vs os t (wpAny_pure ?_)))
    rw [if_neg (by simpa using hn), if_neg hc]
    rw [oneTypeOnly'_eq, List.mapM_toArray, map_eq_pure_bind]
    have hT : ∀ v ∈ vs, Looks M s.heap (typeOf v) (.type "tuple") := fun v hv => by
      obtain ⟨o, ho, a, ob, xs, n, rfl, e1, e2, _⟩ := t.left v hv
      have : Looks M s.heap (typeOf (.ref a)) ob.cls := (Looks.ld e1).andThen .now
      rw [e2] at this
      exact this
    refine wpAny_bind (wpAny_bind (wpAny_bind (kas_mapM (r := Value.type "tuple") vs (fun v hv Q' hq => (hT v hv).here hq) (wpAny_pure ?_))))
    cases vs with
    | nil =>
      cases t
      simp at hn
    | cons v0 vr =>
      have h0 : (List.map (fun _ => Value.type "tuple") (v0 :: vr)).toArray[0]? = some (Value.type "tuple") := by simp
      have hall : ((List.map (fun _ => Value.type "tuple") (v0 :: vr)).toArray.all fun x => x == Value.type "tuple") = true := by
        simp only [List.all_toArray, List.all_map, List.all_eq_true]
        intro _ _
        rfl
      rw [h0]
      dsimp only
      rw [if_pos hall]
      exact wpAny_pure (wpAny_pure h)
end
theorem firstTup (xs : List PyData) (ys : List PyData) : dataLt (.tuple xs) (.tuple ys) = PyProof.Rows.lexLt itemOrd (keyToksAll xs) (keyToksAll ys) := dataLt_tuple _ _
section
variable {prog : Program} {w : World} {A : Around} {E : Value → Shared → Prop} {s : Shared}
theorem call_tuple_lt {l b : Addr} {items items2 : Array Value} {e r : Nat → Bool} {Q : Value → Shared → Prop} (hl : s.heap.IsTuple l items) (hb : s.heap.IsTuple b items2)
    (he : ∀ j (h1 : j < items.size) (h2 : j < items2.size), SeqAt.EqAt A.in1 s items[j] items2[j] (e j)) (hr : ∀ j (h1 : j < items.size) (h2 : j < items2.size), e j = false → SeqAt.RcLt A.in1 s items[j] items2[j] (r j))
    (h : Q (.bool (SeqAt.firstLt e r (decide (items.size < items2.size)) (List.range (min items.size items2.size)))) s) : wpAny (model prog w) A (call (.builtin "tuple.__lt__") [.ref l, .ref b]) Q E s := by
  obtain ⟨⟨cls, dd, data, sl⟩, ho, hc, n, hd⟩ := id hl
  obtain ⟨⟨cls2, dd2, data2, sl2⟩, ho2, hc2, n2, hd2⟩ := id hb
  simp only at hc hd hc2 hd2
  subst hc hd hc2 hd2
  exact call_meets F.slot_tuple_lt ⟨_, ho, rfl⟩ F.entry_tuple_lt (F.args_tuple_lt_2 _ _) (SeqAt.tuple_ltAt l b items items2 n n2 dd dd2 sl sl2 e r) ⟨ho, ho2, he, hr, h⟩
/-- one key against another, tuples too -/
theorem oneLt_any {f : Bool} {da db : PyData} {a b : Value} {as bs : List Addr} {Q : Bool → Shared → Prop} (ra : Reads s.heap a da as) (rb : Reads s.heap b db bs) (h : alike da db = true) (hn : da ≠ .none)
    (hu : A.units + min da.depth db.depth < cLine) (hq : Q (dataLt da db) s) : wpAny (model prog w) A (oneLt' f a b) Q E s := by
  by_cases hf : f = true ∧ ∃ xs, da = .tuple xs
  · obtain ⟨rfl, xs, rfl⟩ := hf
    cases db with
    | tuple ys =>
      have hal : alikeAll xs ys = true := by simpa [alike] using h
      cases ra with
      | @tuple l o vs n _ as₁ h1 h2 h3 h4 =>
        cases rb with
        | @tuple l' o' vs' n' _ bs₁ k1 k2 k3 k4 =>
          have n1 : vs.size = xs.length := by simpa using SeqAt.ReadsAll.length _ _ _ h4
          have n2 : vs'.size = ys.length := by simpa using SeqAt.ReadsAll.length _ _ _ k4
          rw [dataLt_tuple, ← firstLt_toks xs ys hal, ← n1, ← n2] at hq
          rw [oneLt'_eq]
          simp only [if_true]
          refine wpAny_bind (wpAny_cRoomFor (SeqAt.room_here hu) ?_)
          refine wpAny_bind (wpAny_callSpecialIfBound?_slot (T := "tuple") ⟨_, h1, h2⟩ F.slot_tuple_lt (call_tuple_lt (e := SeqAt.pairEq xs ys) (r := fun j => dataLt (xs.getD j .none) (ys.getD j .none)) ⟨_, h1, h2, _, h3⟩ ⟨_, k1, k2, _, k3⟩ (fun j j1 j2 => ?_) (fun j j1 j2 hj => ?_) ?_))
          · have := eqAt_alikeAll xs ys A.in1 s vs.toList vs'.toList _ _ h4 k4 hal (SeqAt.room_in hu) j (by simpa using j1) (by simpa using j2)
            simpa using this
          · have := rcLt_alikeAll xs ys A.in1 s vs.toList vs'.toList _ _ h4 k4 hal (SeqAt.room_in hu) j (by simpa using j1) (by simpa using j2) hj
            simpa using this
          · exact wpAny_truthy_bool hq
    | _ => exact absurd h (by simp [alike])
  · exact oneLt_alike (fun e xs z => hf ⟨e, xs, z⟩) ra rb h hn hu hq
/-- alike data that are not None can be sorted -/
theorem sortsAny {vs : List Value} {ds : List PyData} (e : EachIs (fun v d => ∃ as, Reads s.heap v d as) vs ds) (hal : AllAlike ds) (hn : ∀ d ∈ ds, d ≠ .none) (hu : ∀ d, d ∈ ds → A.units + d.depth < cLine) : SortsAt prog w A s (dataKind s.heap ds) vs := by
  by_cases hk : Sortable ds
  · exact SortsAt.data e hal hk hu
  · have allT : ∀ d ∈ ds, ∃ xs, d = .tuple xs := by
      have ⟨d0, h0, h1⟩ : ∃ d0 ∈ ds, ∃ xs, d0 = .tuple xs := by
        apply Classical.byContradiction
        intro z
        exact hk (.inr fun d hd => ⟨hn d hd, fun xs q => z ⟨d, hd, xs, q⟩⟩)
      obtain ⟨xs, rfl⟩ := h1
      intro d hd
      have := hal _ h0 _ hd
      cases d <;> first | exact ⟨_, rfl⟩ | exact absurd this (by simp [alike])
    have ⟨de, he1, he2⟩ : ∃ d ∈ ds, d = .tuple [] := by
      apply Classical.byContradiction
      intro z
      refine hk (.inl fun d hd => ?_)
      obtain ⟨xs, rfl⟩ := allT d hd
      cases xs with
      | nil => exact absurd ⟨_, hd, rfl⟩ z
      | cons x r => exact ⟨x, r, rfl⟩
    subst he2
    have go : ∀ {vs : List Value} {ds : List PyData}, EachIs (fun v d => ∃ as, Reads s.heap v d as) vs ds → (∀ d ∈ ds, ∃ xs, d = .tuple xs) →
        ∃ os, EachIs (TupHd s.heap) vs os ∧ (PyData.tuple [] ∈ ds → os.all (·.isSome) = false) := by
      intro vs ds e
      induction e with
      | nil => exact fun _ => ⟨[], .nil, fun h => by simp at h⟩
      | @cons v d vs ds r t ih =>
        intro hT
        obtain ⟨os, o1, o2⟩ := ih fun d hd => hT d (List.mem_cons_of_mem _ hd)
        obtain ⟨xs, rfl⟩ := hT _ List.mem_cons_self
        obtain ⟨as, r⟩ := r
        cases r with
        | @tuple l o ws n _ as₁ h1 h2 h3 h4 =>
          refine ⟨ws[0]? :: os, .cons ⟨l, o, ws, n, rfl, h1, h2, h3, rfl⟩ o1, fun hm => ?_⟩
          rw [List.all_cons]
          rcases List.mem_cons.mp hm with q | q
          · cases q
            have : ws.size = 0 := by simpa using SeqAt.ReadsAll.length _ _ _ h4
            have e0 : ws[0]? = none := by simp [this]
            rw [e0] <;> rfl
          · rw [o2 q, Bool.and_false]
    obtain ⟨os, o1, o2⟩ := go e allT
    obtain ⟨kd, k1, k2⟩ := kind_mixed (M := model prog w) (A := A) o1 (o2 he1)
    refine ⟨fun v hv => ?_, kd, ?_, fun _ => k2⟩
    · obtain ⟨d, hd, as, r⟩ := e.left v hv
      exact ⟨_, dataKind_some hal hd r⟩
    · intro E x y a b Q ha hb hq
      obtain ⟨d, as, hd, ra, rfl⟩ := dataKind_inv ha
      obtain ⟨d', as', hd', rb, rfl⟩ := dataKind_inv hb
      have room : A.units + min d.depth d'.depth < cLine := Nat.lt_of_le_of_lt (Nat.add_le_add_left (Nat.min_le_left _ _) _) (hu d hd)
      rcases k1 with rfl | rfl
      · exact oneLt_any (f := false) ra rb (hal d hd d' hd') (hn d hd) room hq
      · rw [keyLt'_oneType]
        exact oneLt_any (f := true) ra rb (hal d hd d' hd') (hn d hd) room hq
end
end Tdl
/-! TdSort2: sorted(xs) of a list, a tuple, a dict. -/
namespace Tdl
open PySem PySem.W L2 PyProof.Rows

/-! ### order of alike data -/
mutual
theorem eqv_eq : ∀ (d e : PyData), alike d e = true → PyData.eqv d e = true → d = e
  | .none, e, a, _ => by cases e <;> first | rfl | exact absurd a (by simp [alike])
  | .bool b, e, a, q => by
    cases e with
    | bool c => rw [show b = c from by simpa [PyData.eqv] using q]
    | _ => exact absurd a (by simp [alike])
  | .int b, e, a, q => by
    cases e with
    | int c => rw [show b = c from by simpa [PyData.eqv] using q]
    | _ => exact absurd a (by simp [alike])
  | .str b, e, a, q => by
    cases e with
    | str c => rw [show b = c from by simpa [PyData.eqv] using q]
    | _ => exact absurd a (by simp [alike])
  | .list xs, e, a, q => by
    cases e with
    | list c => rw [eqv_eqs xs c (by simpa [alike] using a) (by simpa [PyData.eqv] using q)]
    | _ => exact absurd a (by simp [alike])
  | .tuple xs, e, a, q => by
    cases e with
    | tuple c => rw [eqv_eqs xs c (by simpa [alike] using a) (by simpa [PyData.eqv] using q)]
    | _ => exact absurd a (by simp [alike])
  | .dict es, e, a, q => by cases e <;> exact absurd a (by simp [alike])
theorem eqv_eqs : ∀ (ds es : List PyData), alikeAll ds es = true → PyData.eqvAll ds es = true → ds = es
  | [], [], _, _ => rfl
  | [], _ :: _, _, q => absurd q (by simp [PyData.eqvAll])
  | _ :: _, [], _, q => absurd q (by simp [PyData.eqvAll])
  | d :: ds, e :: es, a, q => by
    rw [eqv_all_cons, Bool.and_eq_true] at q
    have a' := alike_all_cons a
    rw [eqv_eq d e a'.1 q.1, eqv_eqs ds es a'.2 q.2]
end
theorem toks_ne {d e : PyData} (a : alike d e = true) (h : keyToks d = keyToks e) : d = e := by
  refine eqv_eq d e a ?_
  cases q : PyData.eqv d e with
  | true => rfl
  | false =>
    have z := (toks_eqv d e a).2 q [] [.inl 0]
    rw [← h, lex_pre] at z
    have z1 : PyProof.Rows.lexLt itemOrd (keyToks d) (keyToks d) = false := PyProof.Rows.lex_irrefl _
    rw [z1] at z
    exact absurd z (by decide)
theorem dlt_total {d e : PyData} (a : alike d e = true) (h1 : dataLt d e = false) (h2 : dataLt e d = false) : d = e := toks_ne a (PyProof.Rows.lex_total _ _ h1 h2)
theorem dlt_negTrans {d e f : PyData} (h1 : dataLt d e = false) (h2 : dataLt e f = false) : dataLt d f = false := by
  cases q : dataLt d f with
  | false => rfl
  | true =>
    rcases PyProof.Rows.lex_negTrans (O := itemOrd) (keyToks d) (keyToks e) (keyToks f) q with z | z
    · exact absurd (show dataLt d e = true from z) (by rw [h1]; exact Bool.false_ne_true)
    · exact absurd (show dataLt e f = true from z) (by rw [h2]; exact Bool.false_ne_true)
theorem dlt_asymm {d e : PyData} (h : dataLt d e = true) : dataLt e d = false := by
  cases q : dataLt e d with
  | false => rfl
  | true =>
    have := PyProof.Rows.lex_trans (O := itemOrd) (keyToks d) (keyToks e) (keyToks d) h q
    rw [PyProof.Rows.lex_irrefl] at this
    cases this
abbrev dle (x y : PyData) : Bool := !dataLt y x
theorem dle_trans (x y z : PyData) (h1 : dle x y = true) (h2 : dle y z = true) : dle x z = true := by
  simp only [dle, Bool.not_eq_true'] at h1 h2 ⊢
  exact dlt_negTrans h2 h1
theorem dle_total (x y : PyData) : (dle x y || dle y x) = true := by
  simp only [dle]
  cases q : dataLt y x with
  | false => rfl
  | true => rw [dlt_asymm q]; rfl
theorem isort_ms {α : Type} {le : α → α → Bool} (tr : ∀ x y z, le x y = true → le y z = true → le x z = true) (tot : ∀ x y, (le x y || le y x) = true) : ∀ xs : List α, isort le xs = xs.mergeSort le
  | [] => by simp [isort]
  | a :: l => by
    obtain ⟨l1, l2, e1, e2, h⟩ := List.mergeSort_cons tr tot a l
    unfold isort
    rw [isort_ms tr tot l, e2, e1]
    have srt := List.pairwise_mergeSort (le := le) tr tot (a :: l)
    rw [e1] at srt
    have go : ∀ l1 : List α, (∀ b ∈ l1, (!le a b) = true) → (∀ b ∈ l2, le a b = true) → insB le a (l1 ++ l2) = l1 ++ a :: l2 := fun l1 => by
      induction l1 with
      | nil =>
        intro _ h2
        cases l2 with
        | nil => rfl
        | cons b l2 =>
          show (match le a b with | true => a :: b :: l2 | false => b :: insB le a l2) = _
          rw [h2 b List.mem_cons_self]
          rfl
      | cons b l1 ih =>
        intro h1 h2
        show (match le a b with | true => a :: b :: (l1 ++ l2) | false => b :: insB le a (l1 ++ l2)) = _
        have := h1 b List.mem_cons_self
        rw [Bool.not_eq_true'] at this
        rw [this, ih (fun c hc => h1 c (List.mem_cons_of_mem _ hc)) h2]
        rfl
    exact go l1 h fun b hb => by
      rw [List.pairwise_append] at srt
      exact List.rel_of_pairwise_cons srt.2.1 hb
theorem srtD_ms (xs : List PyData) : srtD xs = xs.mergeSort dle := isort_ms (fun x y z => dle_trans x y z) (fun x y => dle_total x y) xs
theorem srtD_perm (xs : List PyData) : (srtD xs).Perm xs := by rw [srtD_ms]; exact List.mergeSort_perm _ _
theorem srtD_sorted (xs : List PyData) : (srtD xs).Pairwise fun x y => dle x y = true := by
  rw [srtD_ms]
  exact List.pairwise_mergeSort (le := dle) (fun x y z => dle_trans x y z) (fun x y => dle_total x y) xs
theorem perm_sorted_eq {α : Type} {le : α → α → Prop} : ∀ {xs ys : List α}, (∀ x ∈ xs, ∀ y ∈ xs, le x y → le y x → x = y) → xs.Perm ys → xs.Pairwise le → ys.Pairwise le → xs = ys
  | [], ys, _, p, _, _ => by rw [List.nil_perm.mp p]
  | x :: xs, [], _, p, _, _ => absurd p.length_eq (by simp)
  | x :: xs, y :: ys, an, p, h1, h2 => by
    obtain ⟨a1, a2⟩ := List.pairwise_cons.mp h1
    obtain ⟨b1, b2⟩ := List.pairwise_cons.mp h2
    have hy : y ∈ x :: xs := p.mem_iff.mpr List.mem_cons_self
    have hx : x ∈ y :: ys := p.mem_iff.mp List.mem_cons_self
    have e : x = y := by
      rcases List.mem_cons.mp hy with z | z
      · exact z.symm
      · rcases List.mem_cons.mp hx with z' | z'
        · exact z'
        · exact an x List.mem_cons_self y hy (a1 y z) (b1 x z')
    subst e
    rw [perm_sorted_eq (fun u hu v hv => an u (List.mem_cons_of_mem _ hu) v (List.mem_cons_of_mem _ hv)) (List.Perm.cons_inv p) a2 b2]
/-! alikes -/
theorem alikes_at {xs : List PyData} (h : alikes xs = true) {x : PyData} (hx : x ∈ xs) : x ≠ .none ∧ x.depth ≤ 40 ∧ ∀ y ∈ xs, alike x y = true := by
  unfold alikes at h
  have := List.all_eq_true.mp h x hx
  simp only [Bool.and_eq_true] at this
  exact ⟨isN_ne this.1.1, of_decide_eq_true this.1.2, fun y hy => List.all_eq_true.mp this.2 y hy⟩
theorem alikes_all {xs : List PyData} (h : alikes xs = true) : AllAlike xs := fun d hd e he => (alikes_at h hd).2.2 e he
theorem alikes_sub {xs ys : List PyData} (h : alikes xs = true) (s : ∀ y ∈ ys, y ∈ xs) : alikes ys = true := by
  unfold alikes
  refine List.all_eq_true.mpr fun y hy => ?_
  obtain ⟨a, b, c⟩ := alikes_at h (s y hy)
  simp only [Bool.and_eq_true]
  refine ⟨⟨?_, decide_eq_true b⟩, List.all_eq_true.mpr fun z hz => c z (s z hz)⟩
  cases y <;> first | rfl | exact absurd rfl a
theorem srtD_congr {xs ys : List PyData} (h : alikes xs = true) (p : ys.Perm xs) : srtD ys = srtD xs := by
  refine perm_sorted_eq (le := fun x y => dle x y = true) (fun x hx y hy h1 h2 => ?_) ((srtD_perm ys).trans (p.trans (srtD_perm xs).symm)) (srtD_sorted ys) (srtD_sorted xs)
  have mx : ∀ z ∈ srtD ys, z ∈ xs := fun z hz => p.mem_iff.mp ((srtD_perm ys).mem_iff.mp hz)
  simp only [dle, Bool.not_eq_true'] at h1 h2
  exact dlt_total ((alikes_at h (mx x hx)).2.2 y (mx y hy)) h2 h1

/-! ### values and data, side by side -/
section
variable {K : Frag} {Z H : Hp} {X : Cx}
def RU (K : Frag) (Z : Hp) (u : Value) (d : PyData) : Prop := ∃ v, RelV v u ∧ Rep K Z v d
theorem eachRU : ∀ {vs : List V} {us : List Value} {ds : List PyData}, Vals vs us → RepL K Z vs ds → EachIs (RU K Z) us ds
  | _, _, _, .nil, .nil => .nil
  | _, _, _, .cons r t, .cons h q => .cons ⟨_, r, h⟩ (eachRU t q)
theorem ofRU : ∀ {us : List Value} {ds : List PyData}, EachIs (RU K Z) us ds → ∃ vs, Vals vs us ∧ RepL K Z vs ds
  | _, _, .nil => ⟨[], .nil, .nil⟩
  | _, _, .cons ⟨v, h1, h2⟩ t => by
    obtain ⟨vs, q1, q2⟩ := ofRU t
    exact ⟨v :: vs, .cons h1 q1, .cons h2 q2⟩
theorem each_ru {pins : List (Addr × Obj)} {σ : L2.St} {s : Shared} (I : L2.Inv X pins σ H s) (i : Same Z H) {us : List Value} {ds : List PyData} (h : EachIs (RU X.K Z) us ds) (hp : ∀ d ∈ ds, d.plain = true) : EachIs (fun v d => ∃ as, Reads s.heap v d as) us ds := by
  induction h with
  | nil => exact .nil
  | cons h t ih =>
    obtain ⟨v, h1, h2⟩ := h
    exact .cons (Red.reads I i (.im h2) (hp _ List.mem_cons_self) h1) (ih fun d hd => hp d (List.mem_cons_of_mem _ hd))
end
mutual
theorem alike_plain : ∀ d : PyData, alike d d = true → d.plain = true
  | .none, _ => rfl
  | .bool _, _ => rfl
  | .int _, _ => rfl
  | .str _, _ => rfl
  | .list xs, h => by
    show PyData.plainAll xs = true
    exact alike_plains xs (by simpa [alike] using h)
  | .tuple xs, h => by
    show PyData.plainAll xs = true
    exact alike_plains xs (by simpa [alike] using h)
  | .dict _, h => absurd h (by simp [alike])
theorem alike_plains : ∀ ds : List PyData, alikeAll ds ds = true → PyData.plainAll ds = true
  | [], _ => rfl
  | d :: ds, h => by
    have a := alike_all_cons h
    simp only [PyData.plainAll, Bool.and_eq_true]
    exact ⟨alike_plain d a.1, alike_plains ds a.2⟩
end
theorem alikes_plain {xs : List PyData} (h : alikes xs = true) : ∀ d ∈ xs, d.plain = true := fun d hd => alike_plain d ((alikes_at h hd).2.2 d hd)
section
variable {X : Cx} {pins : List (Addr × Obj)} {σ : L2.St}
theorem srtD_le (ds : List PyData) : ds.mergeSort (dataLe false id) = srtD ds := (srtD_ms ds).symm
/-- list.sort() on a new list of the items, within sorted(..) -/
theorem sort_tail {β : Type} {k : Value → Sem β} {R : β → Shared → Prop} {Z H : Hp} {s : Shared} {Q : VK} {E : Value → Shared → Prop} {A : Around} (hA : A.units + 64 < cLine) (I : L2.Inv X pins σ H s) (i : Same Z H) {us : List Value} {vs : List V} {ds : List PyData} (rv : Vals vs us) (rr : RepL X.K Z vs ds)
    (al : alikes ds = true) (hz : ds.length ≤ sizeLine) (q : ∀ Z' H' v, Ext Z H Z' H' → RVr X.K H Z' H' (ow (.list (srtD ds))) v → Q v H')
    (hk : ∀ v s', EP X pins σ Q v s' → wpAny (model X.prog X.w) A (k v) R E s') :
    wpAny (model X.prog X.w) A (PySem.newList us >>= fun l => holding [l] (call (.builtin "list.sort") [l]) >>= fun _ => k l) R E s := by
  have hl : us.length = ds.length := rv.length.symm.trans rr.length
  refine wpAny_bind (wpAny_newList ?_ (by rw [hl]; exact hz))
  have hoL : (s.heap.push (seqObj "list" us.toArray 0)).get? s.heap.objs.size = some (seqObj "list" us.toArray 0) := Heap.get?_push_size _ rfl
  show wpAny _ _ _ _ _ { s with heap := s.heap.push (seqObj "list" us.toArray 0) }
  have e := eachRU rv rr
  have er := each_ru I i e (alikes_plain al)
  have kp : ∀ b o, s.heap.get? b = some o → (sortingHeap (s.heap.push (seqObj "list" us.toArray 0)) s.heap.objs.size us).get? b = some o := fun b o q =>
    sortingHeap_old (Nat.ne_of_lt (Heap.lt_size q)) (Heap.get?_push_of_some _ q)
  have er2 : EachIs (fun v d => ∃ as, Reads (sortingHeap (s.heap.push (seqObj "list" us.toArray 0)) s.heap.objs.size us) v d as) us ds := er.mono fun _ _ ⟨as, r⟩ => ⟨as, PyProof.Rows.Reads.keeps kp r⟩
  have S := sortsAny (prog := X.prog) (w := X.w) (A := A.in1) (s := { s with heap := sortingHeap (s.heap.push (seqObj "list" us.toArray 0)) s.heap.objs.size us }) er2 (alikes_all al) (fun d hd => (alikes_at al hd).1) fun d hd => by
    have := (alikes_at al hd).2.1
    have h1 : A.in1.units ≤ A.units + 1 := by
      first | exact Nat.le_refl _ | (simp [Around.in1, Around.units]; omega) | simp [Around.in1]
    omega
  refine wpAny_bind (wpAny_holding (wpAny_call_entry slot_list_sort ⟨_, hoL, rfl⟩ entry_list_sort (list_sort_vals (s := { s with heap := s.heap.push (seqObj "list" us.toArray 0) }) hoL S (by rw [hl]; exact hz) ⟨_, rfl, ?_⟩) (args_list_sort _)))
  obtain ⟨ep, he⟩ := sortedHeap_at (vs := us) (out := (sortVals (dataKind (sortingHeap (s.heap.push (seqObj "list" us.toArray 0)) s.heap.objs.size us) ds) false us us).toArray) hoL
  have hal : AllAlike (ds.map id) := by rw [List.map_id]; exact alikes_all al
  have out := sortVals_data (R := RU X.K Z) (enc := id) (h' := sortingHeap (s.heap.push (seqObj "list" us.toArray 0)) s.heap.objs.size us) false e er2 hal
  rw [List.map_id, srtD_le] at out
  obtain ⟨vs', o1, o2⟩ := ofRU out
  obtain ⟨n1, n2⟩ := newList (K := X.K) i I.fresh o2
  refine hk _ _ ⟨.ref s.heap.objs.size, _, I.laid (t' := s.toks) (o := .lst vs') (fun b u z => ?_) (Nat.le_refl _) ?_, rfl, q _ _ _ n1 n2⟩
  · rw [sortedHeap_old (Nat.ne_of_lt (Heap.lt_size z)) (by rw [size_push']; exact Nat.lt_succ_of_lt (Heap.lt_size z))]
    exact Heap.get?_push_of_some _ z
  · refine ⟨?_, _, ep, o1, he⟩
    rw [o2.length, (srtD_perm ds).length_eq]
    exact hz
end
end Tdl
/-! TdSort3: what is collected; sorted(..) by values. -/
namespace Tdl
open PySem PySem.W L2 PyProof.Rows
section
variable {X : Cx} {pins : List (Addr × Obj)} {σ : L2.St}
/-- sorted(u), u gathered as these -/
theorem sorted_by {Z H : Hp} {s : Shared} {Q : VK} {E : Value → Shared → Prop} {u : Value} {ds : List PyData} (hu : X.A.units + 128 < cLine)
    (col : ∀ (A : Around) (E' : Value → Shared → Prop) (R : List Value → Shared → Prop), A.handled = X.A.handled → (∀ Z' H' s1 us vs ds', Ext Z H Z' H' → L2.Inv X pins σ H' s1 → Vals vs us → RepL X.K Z' vs ds' → ds'.Perm ds → R us s1) → wpAny (model X.prog X.w) A (collect u) R E' s)
    (al : alikes ds = true) (hz : ds.length ≤ sizeLine) (q : ∀ Z' H' v, Ext Z H Z' H' → RVr X.K H Z' H' (ow (.list (srtD ds))) v → Q v H') :
    wpAny (model X.prog X.w) X.A (call (.builtin "sorted") [u]) (EP X pins σ Q) E s := by
  refine Calls.call_function_entry kind_sorted plain_sorted entry_sorted (args_sorted1 _) ?_
  unfold Builtin.«sorted»
  refine wpAny_bind (m := checkCount "sorted" 1 1 _) (wpAny_pure ?_)
  refine wpAny_bind (col _ _ _ (by simp) fun Z' H' s1 us vs ds' x I1 rv rr pm => ?_)
  have al' : alikes ds' = true := alikes_sub al fun y hy => pm.mem_iff.mp hy
  have hA : X.A.in1.units + 64 < cLine := by
    have h1 : X.A.in1.units ≤ X.A.units + 1 := by
      first | exact Nat.le_refl _ | (simp [Around.in1, Around.units]; omega) | simp [Around.in1]
    omega
  refine sort_tail (Q := Q) (A := X.A.in1) hA I1 x.in_ rv rr al' (by rw [pm.length_eq]; exact hz) (fun Z2 H2 v x2 r => ?_) fun v s' hv => wpAny_pure ⟨_, rfl, hv⟩
  rw [srtD_congr al pm] at r
  exact q Z2 H2 v (x.trans x2) (r.back x.h)
theorem kV_reps {K : Frag} {Z : Hp} : ∀ {kvs : List (L2.Key × V)} {es : List (PyData × PyData)}, RepK K Z kvs es → RepL K Z (kvs.map fun kv => kV kv.1) (es.map (·.1))
  | _, _, .nil => .nil
  | _, _, .cons (k := k) h t => .cons (by cases k <;> first | exact .int _ | exact .str _) (kV_reps t)
theorem kT_reps {K : Frag} {Z H : Hp} : ∀ {kvs : List (List L2.Key × V)} {es : List (PyData × PyData)} {bs : List Addr}, RepT K Z kvs es → IsKeys H kvs bs → RepL K (tupZ Z H) (bs.map V.ref) (es.map (·.1))
  | _, _, _, .nil, .nil => .nil
  | _, _, _, .cons (k := k) h t, .cons hb tb => .cons (.tup (tupZ_at hb) (by
      have go : ∀ ks : List L2.Key, RepL K (tupZ Z H) (ks.map kV) (ks.map kD) := fun ks => by
        induction ks with
        | nil => exact .nil
        | cons k ks ih => exact .cons (by cases k <;> first | exact .int _ | exact .str _) ih
      exact go k)) (kT_reps t tb)
/-- what sorted(..) and list(..) gather -/
def rSrt (K : Frag) : List V → Hp → VK → Prop := fun xs H Q => ∃ Z v d r, xs = [v] ∧ Same Z H ∧ Red K Z H v d ∧ bltop .sorted [d] = .ok r ∧ ∀ Z' H' v, Ext Z H Z' H' → RVr K H Z' H' r v → Q v H'
theorem cr_srt (hc : X.calm = true) (hu : X.A.units + 128 < cLine) : CallR X (.builtin "sorted") (rSrt X.K) := by
  intro pins s σ H xs us Q I r h
  obtain ⟨Z, v, d, rr, rfl, i, hd, eq, q⟩ := h
  rw [show us = [us.headD .none] from by obtain ⟨u, rfl, _⟩ := r.one; rfl]
  obtain ⟨u, rfl, ru⟩ := r.one
  dsimp only [List.headD]
  unfold bltop at eq
  split at eq <;> first | (exfalso; exact absurd ‹Bl.sorted = _› (by decide)) | skip
  all_goals first | (cases eq; done) | skip
  · rename_i xs _ e
    cases e
    obtain ⟨g1, g2⟩ := gd_ok eq
    cases g2
    obtain ⟨a, vs, rfl, ha, ra⟩ := hd.list i
    cases ru
    obtain ⟨its, rv, pl, hz⟩ := I.list ha
    obtain ⟨o, ho, hcl, n, hdt⟩ := pl.isList
    refine sorted_by (Z := Z) hu (fun A E' R hA k => ?_) g1 (by rw [← ra.length]; exact hz) q
    refine wpAny_collect_seq a (.inl rfl) ho hcl hdt (fun h' hk => ?_) (by rw [List.size_toArray, ← rv.length]; exact hz)
    exact k Z H _ _ vs xs (Ext.refl i) (I.kept (t' := s.toks) hk) (by simpa using rv) ra (List.Perm.refl _)
  · rename_i xs _ e
    cases e
    obtain ⟨g1, g2⟩ := gd_ok eq
    cases g2
    obtain ⟨a, vs, rfl, ha, ra⟩ := hd.tuple
    cases ru
    obtain ⟨its, rv, ⟨o, ho, hcl, n, hdt⟩, hz⟩ := I.tuple (.of (i _ _ ha))
    refine sorted_by (Z := Z) hu (fun A E' R hA k => ?_) g1 (by rw [← ra.length]; exact hz) q
    refine wpAny_collect_seq a (.inr rfl) ho hcl hdt (fun h' hk => ?_) (by rw [List.size_toArray, ← rv.length]; exact hz)
    exact k Z H _ _ vs xs (Ext.refl i) (I.kept (t' := s.toks) hk) (by simpa using rv) ra (List.Perm.refl _)
  · rename_i b es _ e
    cases e
    obtain ⟨g1, g2⟩ := gd_ok eq
    cases g2
    obtain ⟨a, rfl, ⟨kvs, es', e0, ha, ra⟩ | ⟨kvs, es', e0, ha, ra⟩⟩ := hd.dict i
    · simp only [List.cons.injEq, Prod.mk.injEq, PyData.bool.injEq, true_and] at e0
      obtain ⟨rfl, rfl⟩ := e0
      cases ru
      obtain ⟨z, lo, vs, rel, dd⟩ := dk_rd I.hok ha
      obtain ⟨ep, hat⟩ := dd.dictAt
      have ek : (kvs.map fun kv => kV kv.1) = vs.map fun p => kV p.1 := by
        have e := congrArg (List.map kV) rel.keys
        rw [List.map_map, List.map_map] at e
        exact e
      have hl : kvs.length = es.length := ra.length
      refine sorted_by (Z := Z) hu (fun A E' R hA k => ?_) g1 (by rw [List.length_map, ← hl]; exact z) q
      refine PySem.W.kdu_collect (PySem.W.kdl_dict (knd := mixKind X.prog X.w) (kvs := vs) (ep := ep) lo) (by rw [hA]; exact I.ok.hd hc) hat (by rw [← rel.length]; exact z) fun h' tk acc hk hacc => ?_
      refine k Z H _ _ (kvs.map fun kv => kV kv.1) _ (Ext.refl i) (I.kept hk) ?_ (kV_reps ra) (List.Perm.refl _)
      rw [ek]
      exact keys_at (by rw [Array.length_toList]; exact hacc.1) fun j v e => hacc.2 j v (by rw [← Array.getElem?_toList]; exact e)
    · simp only [List.cons.injEq, Prod.mk.injEq, PyData.bool.injEq, true_and] at e0
      obtain ⟨rfl, rfl⟩ := e0
      cases ru
      obtain ⟨z, hs, ks, pr, o, es1, ep, ho, hx, hdt, he, hn⟩ := (show ObjOk X.prog X.w H s.heap a (.dT kvs) from ha.ok I.hok)
      have l1 : es1.size = ks.length := size_of_entries he
      have l2 : kvs.length = ks.length := Paired.length pr
      refine sorted_by (Z := Z) hu (fun A E' R hA k => ?_) g1 (by rw [List.length_map, ← ra.length]; exact z) q
      refine PySem.W.kdu_collect (kdl_raw hs hx hdt) (by rw [hA]; exact I.ok.hd hc) ho (by omega) fun h' tk acc hk it => ?_
      refine k (tupZ Z H) H _ _ ((ks.map fun x => x.2.1).map V.ref) _ (tupZ_ext i) (I.kept hk) ?_ (kT_reps ra (isKeys_of pr)) (List.Perm.refl _)
      have ea : acc.toList = ks.map fun x => Value.ref x.2.1 := by
        have hl : acc.toList.length = ks.length := by rw [Array.length_toList, it.1]; exact l1
        refine List.ext_getElem? fun j => ?_
        rw [List.getElem?_map]
        cases hj : acc.toList[j]? with
        | none =>
          have h1 := List.getElem?_eq_none_iff.mp hj
          rw [List.getElem?_eq_none (by omega)]
          rfl
        | some v =>
          obtain ⟨en, hen, hv⟩ := it.2 j v (by rw [← Array.getElem?_toList]; exact hj)
          have qe := entry_at he j
          rw [hen] at qe
          cases hb : ks[j]? with
          | none => rw [hb] at qe; cases qe
          | some b =>
            rw [hb] at qe
            rw [hv, Option.some.inj qe]
            rfl
      rw [ea, show (ks.map fun x => Value.ref x.2.1) = (ks.map fun x => x.2.1).map Value.ref from by rw [List.map_map]; rfl]
      exact vals_refs _
end
end Tdl
/-! TdSet5: sorted(set(xs)), len(set(xs)). -/
namespace Tdl
open PySem PySem.W L2 PySem.Spec PyProof.Rows
theorem onceD_mem : ∀ (xs : List PyData), (∀ x ∈ xs, hdk x = true) → ∀ x, x ∈ onceD xs ↔ x ∈ xs
  | [], _, x => Iff.rfl
  | y :: r, h, x => by
    have ih := onceD_mem r (fun z hz => h z (List.mem_cons_of_mem _ hz)) x
    unfold onceD
    cases q : r.any fun z => PyData.eqv z y with
    | true =>
      rw [if_pos rfl, ih, List.mem_cons]
      obtain ⟨z, hz, e⟩ := List.any_eq_true.mp q
      have e2 := (eqv_dec (h z (List.mem_cons_of_mem _ hz)) (h y List.mem_cons_self)).mp e
      exact ⟨.inr, fun c => c.elim (fun c => by rw [c, ← e2]; exact hz) id⟩
    | false => rw [if_neg Bool.false_ne_true, List.mem_cons, ih, List.mem_cons]
theorem onceD_nodup : ∀ (xs : List PyData), (∀ x ∈ xs, hdk x = true) → (onceD xs).Nodup
  | [], _ => List.nodup_nil
  | y :: r, h => by
    have h' : ∀ z ∈ r, hdk z = true := fun z hz => h z (List.mem_cons_of_mem _ hz)
    have ih := onceD_nodup r h'
    unfold onceD
    cases q : r.any fun z => PyData.eqv z y with
    | true => rw [if_pos rfl]; exact ih
    | false =>
      rw [if_neg Bool.false_ne_true]
      refine List.nodup_cons.mpr ⟨fun c => ?_, ih⟩
      have c2 := (onceD_mem r h' y).mp c
      have : (r.any fun z => PyData.eqv z y) = true := List.any_eq_true.mpr ⟨y, c2, eqv_self y (h y List.mem_cons_self)⟩
      rw [q] at this
      cases this
theorem hdks_mem : ∀ {xs : List PyData}, hdks xs = true → ∀ x ∈ xs, hdk x = true
  | [], _, x, hx => by cases hx
  | y :: r, h, x, hx => by
    simp only [hdks, Bool.and_eq_true] at h
    rcases List.mem_cons.mp hx with e | hx
    · rw [e]; exact h.1
    · exact hdks_mem h.2 x hx
/-- alike data: all texts, or all tuples -/
theorem okSet_of {xs : List PyData} (h : okSet xs = true) : xs.length < 64 ∧ alikes xs = true ∧ hdks xs = true ∧ ∀ x ∈ xs, x.depth ≤ 6 := by
  simp only [okSet, Bool.and_eq_true] at h
  exact ⟨of_decide_eq_true h.1.1, h.1.2, h.2.1, fun x hx => of_decide_eq_true (List.all_eq_true.mp h.2.2 x hx)⟩
section
variable {X : Cx} {pins : List (Addr × Obj)} {σ : L2.St}
/-- the rows of a list's or a tuple's items -/
theorem rows_of {Z H : Hp} {s : Shared} (I : L2.Inv X pins σ H s) (i : Same Z H) : ∀ {us : List Value} {vs : List V} {ds : List PyData}, Vals vs us → RepL X.K Z vs ds → hdks ds = true → (∀ x ∈ ds, x.depth ≤ 6) →
    ∃ ks : List Row, us = ks.map (·.1) ∧ ds = ks.map (·.2) ∧ (∀ p ∈ ks, IsH s.heap p.1 p.2) ∧ ∀ p ∈ ks, ∃ v, RelV v p.1 ∧ Rep X.K Z v p.2
  | _, _, _, .nil, .nil, _, _ => ⟨[], rfl, rfl, fun p hp => (by cases hp), fun p hp => (by cases hp)⟩
  | u :: _, _, d :: _, .cons r1 r2, .cons h t, hh, hd => by
    simp only [hdks, Bool.and_eq_true] at hh
    obtain ⟨ks, e1, e2, e3, e4⟩ := rows_of I i r2 t hh.2 fun x hx => hd x (List.mem_cons_of_mem _ hx)
    have hI := Red.reads I i (.im h) (hdk_plain _ hh.1) r1
    refine ⟨(u, d) :: ks, by rw [e1]; rfl, by rw [e2]; rfl, fun p hp => ?_, fun p hp => ?_⟩
    · rcases List.mem_cons.mp hp with e | hp
      · rw [e]
        exact ⟨⟨hh.1, hd _ List.mem_cons_self⟩, hI⟩
      · exact e3 p hp
    · rcases List.mem_cons.mp hp with e | hp
      · rw [e]
        exact ⟨_, r1, h⟩
      · exact e4 p hp
theorem kind_of {ks : List Row} {h : Heap} (hal : alikes (ks.map (·.2)) = true) (hk : ∀ p ∈ ks, IsH h p.1 p.2) : ∃ txt : Bool, ∀ p ∈ ks, KindOk txt p := by
  cases ks with
  | nil => exact ⟨true, fun p hp => (by cases hp)⟩
  | cons p0 r =>
    have h0 := hk p0 List.mem_cons_self
    have al : ∀ p ∈ p0 :: r, alike p0.2 p.2 = true := fun p hp => (alikes_at hal (List.mem_map.mpr ⟨p0, List.mem_cons_self, rfl⟩)).2.2 _ (List.mem_map.mpr ⟨p, hp, rfl⟩)
    obtain ⟨v0, d0⟩ := p0
    cases d0 with
    | str x0 =>
      refine ⟨true, fun p hp => ⟨fun _ => ?_, fun z => (by cases z)⟩⟩
      have a := al p hp
      obtain ⟨_, as, rd⟩ := hk p hp
      obtain ⟨v, d⟩ := p
      cases rd with
      | str x t => exact ⟨x, t, rfl⟩
      | _ => exact absurd a (by simp [alike])
    | tuple x0 =>
      refine ⟨false, fun p hp => ⟨fun z => (by cases z), fun _ => ?_⟩⟩
      have a := al p hp
      obtain ⟨_, as, rd⟩ := hk p hp
      obtain ⟨v, d⟩ := p
      cases rd with
      | tuple h1 h2 h3 h4 => exact ⟨_, rfl⟩
      | _ => exact absurd a (by simp [alike])
    | _ => exact absurd h0.1.1 (by simp [hdk])
/-- what got into the set: each once -/
theorem got_once {ks L : List Row} (g : GotX ks ks.length L) (nd : (L.map (·.2)).Nodup) (hk : ∀ p ∈ ks, hdk p.2 = true) : (L.map (·.2)).Perm (onceD (ks.map (·.2))) := by
  have hk' : ∀ x ∈ ks.map (·.2), hdk x = true := fun x hx => by
    obtain ⟨p, hp, rfl⟩ := List.mem_map.mp hx
    exact hk p hp
  refine (List.perm_ext_iff_of_nodup nd (onceD_nodup _ hk')).mpr fun x => ?_
  rw [onceD_mem _ hk' x]
  constructor
  · intro hx
    obtain ⟨p, hp, rfl⟩ := List.mem_map.mp hx
    have := g.sub p hp
    rw [List.take_length] at this
    exact List.mem_map.mpr ⟨p, this, rfl⟩
  · intro hx
    obtain ⟨p, hp, rfl⟩ := List.mem_map.mp hx
    exact g.all p (by rw [List.take_length]; exact hp)
/-- set(xs), the set itself known by its object alone -/
theorem set_of {Z H : Hp} {s : Shared} {x : V} {u : Value} {xs : List PyData} {Q : Value → Shared → Prop} {E : Value → Shared → Prop} (hc : X.calm = true) (hu : X.A.units + 128 < cLine) (I : L2.Inv X pins σ H s) (i : Same Z H) (rx : RelV x u) (hd : Red X.K Z H x (.list xs) ∨ Red X.K Z H x (.tuple xs)) (ok : okSet xs = true)
    (h : ∀ (b : Addr) (s' : Shared) (txt : Bool) (L : List Row) es ep t, L2.Inv X pins σ H s' → SX X.w s'.heap b txt L es ep t → (L.map (·.2)).Perm (onceD xs) → (∀ p ∈ L, ∃ v, RelV v p.1 ∧ Rep X.K Z v p.2) → Q (.ref b) s') :
    wpAny (model X.prog X.w) X.A (call (.type "set") [u]) Q E s := by
  obtain ⟨h64, hal, hh, hdp⟩ := okSet_of ok
  have go : ∀ (a : Addr) (T : String) (vs : List V) (its : List Value), (T = "list" ∨ T = "tuple") → (∃ o n, s.heap.get? a = some o ∧ o.cls = .type T ∧ o.data = .seq its.toArray n) → Vals vs its → RepL X.K Z vs xs → wpAny (model X.prog X.w) X.A (call (.type "set") [.ref a]) Q E s := by
    intro a T vs its hT ⟨o, n, h1, h2, h3⟩ rv rr
    obtain ⟨ks, e1, e2, e3, e4⟩ := rows_of I i rv rr hh hdp
    subst e2
    obtain ⟨txt, kd⟩ := kind_of hal e3
    rw [List.length_map] at h64
    refine set_call (txt := txt) hT h1 h2 h3 ks (I.ok.hd hc) (by rw [← e1]) (fun p hp => ⟨e3 p hp, kd p hp⟩) h64 (by omega) fun h' tk L es ep t R g kp => ?_
    refine h _ _ txt L es ep t (I.kept kp) R (got_once g R.nd fun p hp => (e3 p hp).1.1) fun p hp => e4 p ?_
    have := g.sub p hp
    rwa [List.take_length] at this
  rcases hd with hd | hd
  · obtain ⟨a, vs, rfl, ha, ra⟩ := hd.list i
    cases rx
    obtain ⟨its, rv, pl, hz⟩ := I.list ha
    obtain ⟨o, ho, hcl, n, hdt⟩ := pl.isList
    exact go a "list" vs its (.inl rfl) ⟨o, n, ho, hcl, hdt⟩ rv ra
  · obtain ⟨a, vs, rfl, ha, ra⟩ := hd.tuple
    cases rx
    obtain ⟨its, rv, ⟨o, ho, hcl, n, hdt⟩, hz⟩ := I.tuple (.of (i _ _ ha))
    exact go a "tuple" vs its (.inr rfl) ⟨o, n, ho, hcl, hdt⟩ rv ra
theorem eachR {K : Frag} {Z : Hp} : ∀ {L : List Row}, (∀ p ∈ L, ∃ v, RelV v p.1 ∧ Rep K Z v p.2) → ∃ vs, Vals vs (L.map (·.1)) ∧ RepL K Z vs (L.map (·.2))
  | [], _ => ⟨[], .nil, .nil⟩
  | p :: L, h => by
    obtain ⟨v, h1, h2⟩ := h p List.mem_cons_self
    obtain ⟨vs, q1, q2⟩ := eachR fun q hq => h q (List.mem_cons_of_mem _ hq)
    exact ⟨v :: vs, .cons h1 q1, .cons h2 q2⟩
/-- sorted(set(a)) -/
def tSset (K : Frag) (ta : TE) : TE := fun σ H Q => ta σ H fun x H1 => ∃ Z d r, Same Z H1 ∧ Red K Z H1 x d ∧ bltop .sset [d] = .ok r ∧ ∀ Z' H' v, Ext Z H1 Z' H' → RVr K H1 Z' H' r v → Q v H'
def tLset (K : Frag) (ta : TE) : TE := fun σ H Q => ta σ H fun x H1 => ∃ Z d r, Same Z H1 ∧ Red K Z H1 x d ∧ bltop .lset [d] = .ok r ∧ ∀ Z' H' v, Ext Z H1 Z' H' → RVr K H1 Z' H' r v → Q v H'
theorem once_ok {xs : List PyData} (ok : okSet xs = true) : alikes (onceD xs) = true ∧ (onceD xs).length < 64 := by
  obtain ⟨h64, hal, hh, hdp⟩ := okSet_of ok
  refine ⟨alikes_sub hal fun y hy => (onceD_mem xs (hdks_mem hh) y).mp hy, Nat.lt_of_le_of_lt ?_ h64⟩
  have go : ∀ l : List PyData, (onceD l).length ≤ l.length := fun l => by
    induction l with
    | nil => exact Nat.le_refl _
    | cons y r ih =>
      unfold onceD
      split
      · exact Nat.le_succ_of_le ih
      · exact Nat.succ_le_succ ih
  exact go xs
theorem pe_sset {a : Expr} {ta : TE} {p p2 q pos : Pos} (hc : X.calm = true) (hu : X.A.units + 128 < cLine) (hg : Gl X "sorted") (hm : X.mg "sorted" = none) (hg2 : Gl X "set") (hm2 : X.mg "set" = none) (ha : PE X a ta)
    (na : starEach [a] X.env = (false, eval a X.env) :: starEach [] X.env) : PE X (.Call (.Name "sorted" p) [.Call (.Name "set" p2) [a] [] q] [] pos) (tSset X.K ta) := by
  refine ⟨fun pins s σ H Q I h => ?_⟩
  refine Call_ (ld_blt I hg hm PyProof.Rows.boot_sorted ?_)
  refine PyProof.Rows.callWith_builtin1 (PyProof.Rows.args_cons ?_ rfl) rfl rfl
  refine Call_ (ld_blt I hg2 hm2 PyProof.Rows.boot_set ?_)
  refine PyProof.Rows.callWith_type1 (PyProof.Rows.args_cons (thn (ha.run pins s σ H _ I h) fun v s1 ⟨x, H1, I1, r1, q1⟩ => PyProof.Rows.args_nil ?_) na) na rfl
  obtain ⟨Z, d, r, i, hd, eq, q⟩ := q1
  have main : ∀ xs : List PyData, okSet xs = true → r = ow (.list (srtD (onceD xs))) → ∀ (b : Addr) (s' : Shared) (txt : Bool) (L : List Row) es ep t, L2.Inv X pins σ H1 s' → SX X.w s'.heap b txt L es ep t → (L.map (·.2)).Perm (onceD xs) → (∀ p ∈ L, ∃ v, RelV v p.1 ∧ Rep X.K Z v p.2) →
      wpAny (model X.prog X.w) X.A (call (.builtin "sorted") [.ref b]) (EP X pins σ Q) X.xe s' := fun xs ok er b s' txt L es ep t I2 R pm el => by
    obtain ⟨al, l64⟩ := once_ok ok
    obtain ⟨o, ho, hex, hdt⟩ := R.ob
    refine sorted_by (Z := Z) (H := H1) hu (fun A E' R' hA k => ?_) al (by rw [sizeLine_eq]; omega) (by rw [← er]; exact q)
    refine collect_set (by rw [hA]; exact I2.ok.hd hc) ⟨o, ho, hex.1, hdt⟩ R.fit (by have := sz_of R.rows; have := R.few; unfold scanBound; omega) R.ris R.led fun s3 us k1 hz g1 o1 pu => ?_
    rw [R.rows] at pu
    obtain ⟨M, m1, m2⟩ := perm_pull (f := fun p : Row => p.1) (l := us) (L := L) (by
      have : (rws X.w L).map (·.2) = L.map (·.1) := by
        unfold rws
        rw [List.map_map]
        rfl
      rw [← this]; exact pu)
    obtain ⟨vs, v1, v2⟩ := eachR (K := X.K) (Z := Z) (L := M) fun p hp => el p (m2.mem_iff.mp hp)
    rw [m1] at v1
    refine k Z H1 s3 us vs _ (Ext.refl i) ?_ v1 v2 ((m2.map (·.2)).trans pm)
    have e : s3 = { s' with heap := s3.heap, gens := s3.gens, drawn := s3.drawn, toks := s3.toks } := by
      cases s3
      cases s'
      cases o1
      rfl
    rw [e]
    exact I2.call (ch := []) (Un.kept k1) (I2.hok.kept k1) (by rw [g1]; exact I2.bare) (fun _ z => nomatch z)
  unfold bltop at eq
  split at eq <;> first | (exfalso; exact absurd ‹Bl.sset = _› (by decide)) | skip
  all_goals first | (cases eq; done) | skip
  · rename_i xs _ e
    cases e
    obtain ⟨g1, g2⟩ := gd_ok eq
    cases g2
    exact set_of hc hu I1 i r1 (.inl hd) g1 fun b s' txt L es ep t I2 R pm el => PyProof.Rows.args_nil (main _ g1 rfl b s' txt L es ep t I2 R pm el)
  · rename_i xs _ e
    cases e
    obtain ⟨g1, g2⟩ := gd_ok eq
    cases g2
    exact set_of hc hu I1 i r1 (.inr hd) g1 fun b s' txt L es ep t I2 R pm el => PyProof.Rows.args_nil (main _ g1 rfl b s' txt L es ep t I2 R pm el)
theorem pe_lset {a : Expr} {ta : TE} {p p2 q pos : Pos} (hc : X.calm = true) (hu : X.A.units + 128 < cLine) (hg : Gl X "len") (hm : X.mg "len" = none) (hg2 : Gl X "set") (hm2 : X.mg "set" = none) (ha : PE X a ta)
    (na : starEach [a] X.env = (false, eval a X.env) :: starEach [] X.env) : PE X (.Call (.Name "len" p) [.Call (.Name "set" p2) [a] [] q] [] pos) (tLset X.K ta) := by
  refine ⟨fun pins s σ H Q I h => ?_⟩
  refine Call_ (ld_blt I hg hm PySem.boot_len ?_)
  refine PyProof.Rows.callWith_builtin1 (PyProof.Rows.args_cons ?_ rfl) rfl rfl
  refine Call_ (ld_blt I hg2 hm2 PyProof.Rows.boot_set ?_)
  refine PyProof.Rows.callWith_type1 (PyProof.Rows.args_cons (thn (ha.run pins s σ H _ I h) fun v s1 ⟨x, H1, I1, r1, q1⟩ => PyProof.Rows.args_nil ?_) na) na rfl
  obtain ⟨Z, d, r, i, hd, eq, q⟩ := q1
  have main : ∀ xs : List PyData, okSet xs = true → r = im (.int (onceD xs).length) → ∀ (b : Addr) (s' : Shared) (txt : Bool) (L : List Row) es ep t, L2.Inv X pins σ H1 s' → SX X.w s'.heap b txt L es ep t → (L.map (·.2)).Perm (onceD xs) → (∀ p ∈ L, ∃ v, RelV v p.1 ∧ Rep X.K Z v p.2) →
      wpAny (model X.prog X.w) X.A (call (.builtin "len") [.ref b]) (EP X pins σ Q) X.xe s' := fun xs ok er b s' txt L es ep t I2 R pm el => by
    obtain ⟨o, ho, hex, hdt⟩ := R.ob
    have hn : es.size = (onceD xs).length := by
      rw [sz_of R.rows, ← pm.length_eq, List.length_map]
    have h64 := (once_ok ok).2
    refine call_len_set ho hex hdt R.fit (by omega) ⟨.int (onceD xs).length, H1, I2.tok _, ⟨_, by rw [hn]⟩, ?_⟩
    rw [er] at q
    exact q Z H1 _ (Ext.refl i) (.int _)
  unfold bltop at eq
  split at eq <;> first | (exfalso; exact absurd ‹Bl.lset = _› (by decide)) | skip
  all_goals first | (cases eq; done) | skip
  · rename_i xs _ e
    cases e
    obtain ⟨g1, g2⟩ := gd_ok eq
    cases g2
    exact set_of hc hu I1 i r1 (.inl hd) g1 fun b s' txt L es ep t I2 R pm el => PyProof.Rows.args_nil (main _ g1 rfl b s' txt L es ep t I2 R pm el)
  · rename_i xs _ e
    cases e
    obtain ⟨g1, g2⟩ := gd_ok eq
    cases g2
    exact set_of hc hu I1 i r1 (.inr hd) g1 fun b s' txt L es ep t I2 R pm el => PyProof.Rows.args_nil (main _ g1 rfl b s' txt L es ep t I2 R pm el)
end
end Tdl
/-! TdBlt: builtin functions by values. -/
namespace Tdl
open PySem PySem.W L2 PyProof.Rows
inductive RedL (K : Frag) (Z H : Hp) : List V → List PyData → Prop
  | nil : RedL K Z H [] []
  | cons {v : V} {vs : List V} {d : PyData} {ds : List PyData} : Red K Z H v d → RedL K Z H vs ds → RedL K Z H (v :: vs) (d :: ds)
theorem RedL.up {K : Frag} {Z H Z1 H1 : Hp} (x : Ext Z H Z1 H1) : ∀ {vs : List V} {ds : List PyData}, RedL K Z H vs ds → RedL K Z1 H1 vs ds
  | _, _, .nil => .nil
  | _, _, .cons h t => .cons (h.up x) (RedL.up x t)
theorem RedL.one {K : Frag} {Z H : Hp} {vs : List V} {d : PyData} (h : RedL K Z H vs [d]) : ∃ v, vs = [v] ∧ Red K Z H v d := by
  cases h with
  | cons h t =>
    cases t
    exact ⟨_, rfl, h⟩
theorem RedL.two {K : Frag} {Z H : Hp} {vs : List V} {d e : PyData} (h : RedL K Z H vs [d, e]) : ∃ v u, vs = [v, u] ∧ Red K Z H v d ∧ Red K Z H u e := by
  cases h with
  | cons h t =>
    obtain ⟨u, rfl, h2⟩ := t.one
    exact ⟨_, _, rfl, h, h2⟩
def rBlt (K : Frag) (b : Bl) : List V → Hp → VK → Prop := fun vs H Q => ∃ Z ds r, Same Z H ∧ RedL K Z H vs ds ∧ bltop b ds = .ok r ∧ ∀ Z' H' v, Ext Z H Z' H' → RVr K H Z' H' r v → Q v H'
section
variable {K : Frag} {Z H : Hp}
theorem allB_rep : ∀ {xs : List PyData} {vs : List V} {bs : List Bool}, allB xs = some bs → RepL K Z vs xs → vs = bs.map V.bl
  | [], _, _, e, h => by
    cases e
    cases h
    rfl
  | x :: xs, _, bs, e, h => by
    cases h with
    | cons h1 h2 =>
      cases x with
      | bool b =>
        unfold allB at e
        obtain ⟨cs, e1, rfl⟩ := Option.map_eq_some_iff.mp e
        cases h1
        rw [allB_rep e1 h2]
        rfl
      | _ => cases e
theorem allI_rep : ∀ {xs : List PyData} {vs : List V} {bs : List Int}, allI xs = some bs → RepL K Z vs xs → vs = bs.map V.int
  | [], _, _, e, h => by
    cases e
    cases h
    rfl
  | x :: xs, _, bs, e, h => by
    cases h with
    | cons h1 h2 =>
      cases x with
      | int b =>
        unfold allI at e
        obtain ⟨cs, e1, rfl⟩ := Option.map_eq_some_iff.mp e
        cases h1
        rw [allI_rep e1 h2]
        rfl
      | _ => cases e
theorem allS_rep : ∀ {xs : List PyData} {vs : List V} {bs : List Str}, allS xs = some bs → RepL K Z vs xs → vs = bs.map V.str
  | [], _, _, e, h => by
    cases e
    cases h
    rfl
  | x :: xs, _, bs, e, h => by
    cases h with
    | cons h1 h2 =>
      cases x with
      | str b =>
        unfold allS at e
        obtain ⟨cs, e1, rfl⟩ := Option.map_eq_some_iff.mp e
        cases h1
        rw [allS_rep e1 h2]
        rfl
      | _ => cases e
end
mutual
theorem reads_det : ∀ (d e : PyData) (h : Heap) (v : Value) (as bs : List Addr), d.plain = true → e.plain = true → Reads h v d as → Reads h v e bs → d = e
  | .none, e, _, _, _, _, _, _, r, q => by
    cases r
    cases q
    rfl
  | .bool b, e, _, _, _, _, _, _, r, q => by
    cases r
    cases q
    rfl
  | .int b, e, _, _, _, _, _, _, r, q => by
    cases r
    cases q
    rfl
  | .str b, e, _, _, _, _, _, _, r, q => by
    cases r
    cases q
    rfl
  | .list xs, e, h, v, as, bs, p1, p2, r, q => by
    cases r with
    | list h1 h2 h3 h4 =>
      cases q with
      | list k1 k2 k3 k4 =>
        rw [h1] at k1
        cases k1
        rw [h3] at k3
        cases k3
        rw [reads_dets xs _ h _ _ _ p1 p2 h4 k4]
      | tuple k1 k2 k3 k4 =>
        rw [h1] at k1
        cases k1
        rw [h2] at k2
        exact absurd k2 (by decide)
      | dict k1 k2 k3 k4 => simp [PyData.plain] at p2
  | .tuple xs, e, h, v, as, bs, p1, p2, r, q => by
    cases r with
    | tuple h1 h2 h3 h4 =>
      cases q with
      | tuple k1 k2 k3 k4 =>
        rw [h1] at k1
        cases k1
        rw [h3] at k3
        cases k3
        rw [reads_dets xs _ h _ _ _ p1 p2 h4 k4]
      | list k1 k2 k3 k4 =>
        rw [h1] at k1
        cases k1
        rw [h2] at k2
        exact absurd k2 (by decide)
      | dict k1 k2 k3 k4 => simp [PyData.plain] at p2
  | .dict _, _, _, _, _, _, p1, _, _, _ => by simp [PyData.plain] at p1
theorem reads_dets : ∀ (ds es : List PyData) (h : Heap) (vs : List Value) (as bs : List Addr), PyData.plainAll ds = true → PyData.plainAll es = true → ReadsAll h vs ds as → ReadsAll h vs es bs → ds = es
  | [], _, _, _, _, _, _, _, r, q => by
    cases r
    cases q
    rfl
  | d :: ds, es, h, vs, as, bs, p1, p2, r, q => by
    simp only [PyData.plainAll, Bool.and_eq_true] at p1
    cases r with
    | cons r1 r2 =>
      cases q with
      | cons q1 q2 =>
        simp only [PyData.plainAll, Bool.and_eq_true] at p2
        rw [reads_det d _ h _ _ _ p1.1 p2.1 r1 q1, reads_dets ds _ h _ _ _ p1.2 p2.2 r2 q2]
end
theorem fold1_mem (f : PyData → PyData → Bool) : ∀ (xs : List PyData) (x : PyData), fold1 f x xs ∈ x :: xs
  | [], x => List.mem_cons_self
  | y :: r, x => by
    show fold1 f (if f y x then y else x) r ∈ _
    have := fold1_mem f r (if f y x then y else x)
    rcases List.mem_cons.mp this with e | e
    · rw [e]
      split
      · exact List.mem_cons_of_mem _ List.mem_cons_self
      · exact List.mem_cons_self
    · exact List.mem_cons_of_mem _ (List.mem_cons_of_mem _ e)
section
variable {X : Cx}
theorem depths_le : ∀ {xs : List PyData} {n : Nat}, (∀ x ∈ xs, x.depth ≤ n) → PyData.depthAll xs ≤ n
  | [], n, _ => by simp [PyData.depthAll]
  | x :: xs, n, h => by
    rw [depth_cons]
    exact Nat.max_le.mpr ⟨h x List.mem_cons_self, depths_le fun y hy => h y (List.mem_cons_of_mem _ hy)⟩
theorem alike_alls {xs : List PyData} (h : alikes xs = true) : AlikeAll xs := ⟨fun x hx y hy => (alikes_at h hx).2.2 y hy, fun x hx => (alikes_at h hx).1⟩
theorem reads_of {Z H : Hp} {pins : List (Addr × Obj)} {σ : L2.St} {s : Shared} (I : L2.Inv X pins σ H s) (i : Same Z H) {us : List Value} {vs : List V} {ds : List PyData} (rv : Vals vs us) (rr : RepL X.K Z vs ds) (al : ∀ d ∈ ds, d.plain = true) : ∃ as, ReadsAll s.heap us ds as := by
  have e := each_ru I i (eachRU rv rr) al
  obtain ⟨as, r⟩ := each_readsAll id (vs := us) (bs := ds) (h := s.heap) e
  rw [List.map_id] at r
  exact ⟨as, r⟩
/-- the chosen item of a list, known by what it reads as -/
theorem chosen {Z H : Hp} {pins : List (Addr × Obj)} {σ : L2.St} {s : Shared} (I : L2.Inv X pins σ H s) (i : Same Z H) {us : List Value} {vs : List V} {ds : List PyData} (rv : Vals vs us) (rr : RepL X.K Z vs ds) (al : ∀ d ∈ ds, d.plain = true) {j : Nat} {u : Value} {d : PyData} {bs : List Addr} (hu : us[j]? = some u) (hd : d.plain = true) (r : Reads s.heap u d bs) : ∃ v, RelV v u ∧ Rep X.K Z v d := by
  obtain ⟨v, hv, rvu⟩ : ∃ v, vs[j]? = some v ∧ RelV v u := by
    have hl := rv.length
    have hj : j < vs.length := by
      rw [hl]
      exact (List.getElem?_eq_some_iff.mp hu).1
    obtain ⟨u', e1, e2⟩ := rv.get (List.getElem?_eq_getElem hj)
    rw [hu] at e1
    cases e1
    exact ⟨_, List.getElem?_eq_getElem hj, e2⟩
  obtain ⟨d', hd', rd⟩ := rr.get' hv
  have pl := al d' (List.mem_of_getElem? hd')
  obtain ⟨cs, r2⟩ := Red.reads I i (.im rd) pl rvu
  rw [reads_det d d' s.heap u bs cs hd pl r r2]
  exact ⟨v, rvu, rd⟩
theorem cr_minD (hc : X.calm = true) (hu : X.A.units + 128 < cLine) : CallR X (.builtin "min") (rBlt X.K .min) := by
  intro pins s σ H xs us Q I r h
  obtain ⟨Z, ds, rr, i, hds, eq, q⟩ := h
  unfold bltop at eq
  split at eq <;> first | (exfalso; exact absurd ‹Bl.min = _› (by decide)) | skip
  all_goals first | (cases eq; done) | skip
  rename_i x xs1 _
  obtain ⟨g1, g2⟩ := gd_ok eq
  cases g2
  obtain ⟨v, rfl, hd⟩ := hds.one
  obtain ⟨u, rfl, ru⟩ := r.one
  obtain ⟨a, vs, rfl, ha, ra⟩ := hd.list i
  cases ru
  obtain ⟨its, rv, pl, hz⟩ := I.list ha
  obtain ⟨as, rd⟩ := reads_of I i rv ra (alikes_plain g1)
  have hdp : PyData.depthAll (x :: xs1) ≤ 40 := depths_le fun y hy => (alikes_at g1 hy).2.1
  refine min_list_data (I.ok.hd hc) pl.isList (by simpa using rd) (alike_alls g1) (by omega) fun j v h' tk bs hj r2 kp => ?_
  have I2 : L2.Inv X pins σ H { s with heap := h', toks := tk } := I.kept kp
  have hm := fold1_mem (fun y a => dataLt y a) xs1 x
  obtain ⟨w', e1, e2⟩ := chosen I2 i rv ra (alikes_plain g1) (by simpa using hj) (alikes_plain g1 _ hm) r2
  exact ⟨w', H, I2, e1, q Z H _ (Ext.refl i) e2⟩
theorem cr_maxD (hc : X.calm = true) (hu : X.A.units + 128 < cLine) : CallR X (.builtin "max") (rBlt X.K .max) := by
  intro pins s σ H xs us Q I r h
  obtain ⟨Z, ds, rr, i, hds, eq, q⟩ := h
  unfold bltop at eq
  split at eq <;> first | (exfalso; exact absurd ‹Bl.max = _› (by decide)) | skip
  all_goals first | (cases eq; done) | skip
  rename_i x xs1 _
  obtain ⟨g1, g2⟩ := gd_ok eq
  cases g2
  obtain ⟨v, rfl, hd⟩ := hds.one
  obtain ⟨u, rfl, ru⟩ := r.one
  obtain ⟨a, vs, rfl, ha, ra⟩ := hd.list i
  cases ru
  obtain ⟨its, rv, pl, hz⟩ := I.list ha
  obtain ⟨as, rd⟩ := reads_of I i rv ra (alikes_plain g1)
  have hdp : PyData.depthAll (x :: xs1) ≤ 40 := depths_le fun y hy => (alikes_at g1 hy).2.1
  refine max_list_data (I.ok.hd hc) pl.isList (by simpa using rd) (alike_alls g1) (by omega) fun j v h' tk bs hj r2 kp => ?_
  have I2 : L2.Inv X pins σ H { s with heap := h', toks := tk } := I.kept kp
  have hm := fold1_mem (fun y a => dataLt a y) xs1 x
  obtain ⟨w', e1, e2⟩ := chosen I2 i rv ra (alikes_plain g1) (by simpa using hj) (alikes_plain g1 _ hm) r2
  exact ⟨w', H, I2, e1, q Z H _ (Ext.refl i) e2⟩
theorem call_lenT {X : Cx} : CallR X (.builtin "len") (fun xs H Q => ∃ p kvs, xs = [.ref p] ∧ Rd H p (.dT kvs) ∧ Q (.int ((kvs.length : Nat) : Int)) H) := by
  intro pins s σ H xs us Q I r h
  obtain ⟨p, kvs, rfl, hp, q⟩ := h
  obtain ⟨u, rfl, rx⟩ := r.one
  cases rx
  obtain ⟨z, hd, ys, rel, dd⟩ := dt_rd I.hok hp
  have hl : kvs.length = ys.length := Paired.length rel
  refine call_len_dictH hd dd (by rw [sizeLine_eq] at z; omega) ⟨.int ((kvs.length : Nat) : Int), H, I.tok _, ⟨_, by rw [hl]⟩, q⟩
theorem cr_lenD : CallR X (.builtin "len") (rBlt X.K .len) := by
  intro pins s σ H xs us Q I r h
  obtain ⟨Z, ds, rr, i, hds, eq, q⟩ := h
  unfold bltop at eq
  split at eq <;> first | (exfalso; exact absurd ‹Bl.len = _› (by decide)) | skip
  all_goals first | (cases eq; done) | skip
  · cases eq
    obtain ⟨v, rfl, hd⟩ := hds.one
    obtain ⟨a, vs, rfl, ha, ra⟩ := hd.list i
    exact call_len_seq pins s σ H _ us Q I r ⟨a, vs, rfl, .inl ha, by rw [ra.length]; exact q Z H _ (Ext.refl i) (.int _)⟩
  · cases eq
    obtain ⟨v, rfl, hd⟩ := hds.one
    obtain ⟨a, vs, rfl, ha, ra⟩ := hd.tuple
    exact call_len_seq pins s σ H _ us Q I r ⟨a, vs, rfl, .inr (.of (i _ _ ha)), by rw [ra.length]; exact q Z H _ (Ext.refl i) (.int _)⟩
  · obtain ⟨g1, g2⟩ := gd_ok eq
    cases g2
    obtain ⟨v, rfl, hd⟩ := hds.one
    cases hd.str
    exact call_len_str pins s σ H _ us Q I r ⟨_, rfl, by rw [← lim_eq]; exact of_decide_eq_true g1, q Z H _ (Ext.refl i) (.int _)⟩
  · cases eq
    obtain ⟨v, rfl, hd⟩ := hds.one
    obtain ⟨a, rfl, ⟨kvs, es', e0, ha, ra⟩ | ⟨kvs, es', e0, ha, ra⟩⟩ := hd.dict i
    · simp only [List.cons.injEq, Prod.mk.injEq, PyData.bool.injEq, true_and] at e0
      obtain ⟨rfl, rfl⟩ := e0
      obtain ⟨u, rfl, ru⟩ := r.one
      cases ru
      exact d_len I ha fun t s' I' => ⟨.int kvs.length, H, I', ⟨t, rfl⟩, by rw [ra.length]; exact q Z H _ (Ext.refl i) (.int _)⟩
    · simp only [List.cons.injEq, Prod.mk.injEq, PyData.bool.injEq, true_and] at e0
      obtain ⟨rfl, rfl⟩ := e0
      exact call_lenT pins s σ H _ us Q I r ⟨a, kvs, rfl, ha, by rw [ra.length]; exact q Z H _ (Ext.refl i) (.int _)⟩
theorem cr_listD : CallR X (.type "list") (rBlt X.K .list) := by
  intro pins s σ H xs us Q I r h
  obtain ⟨Z, ds, rr, i, hds, eq, q⟩ := h
  unfold bltop at eq
  split at eq <;> first | (exfalso; exact absurd ‹Bl.list = _› (by decide)) | skip
  all_goals first | (cases eq; done) | skip
  · cases eq
    obtain ⟨v, rfl, hd⟩ := hds.one
    obtain ⟨a, vs, rfl, ha, ra⟩ := hd.list i
    refine call_list_of pins s σ H _ us Q I r ⟨a, vs, rfl, .inl ha, fun l hl => ?_⟩
    obtain ⟨n1, n2⟩ := newList i hl ra
    exact q _ _ _ n1 n2
  · cases eq
    obtain ⟨v, rfl, hd⟩ := hds.one
    obtain ⟨a, vs, rfl, ha, ra⟩ := hd.tuple
    refine call_list_of pins s σ H _ us Q I r ⟨a, vs, rfl, .inr (.of (i _ _ ha)), fun l hl => ?_⟩
    obtain ⟨n1, n2⟩ := newList i hl ra
    exact q _ _ _ n1 n2
theorem signs_rep {K : Frag} {Z : Hp} (cs : List Nat) : RepL K Z (cs.map fun c => V.str ⟨#[c]⟩) (cs.map fun c => PyData.str ⟨#[c]⟩) := by
  induction cs with
  | nil => exact .nil
  | cons c cs ih => exact .cons (.str _) ih
theorem signs_vals {x : Str} {acc : Array Value} (h : ItemsOf (SignAt x) acc x.cps.size) : Vals (x.cps.toList.map fun c => V.str ⟨#[c]⟩) acc.toList := by
  have go : ∀ (cs : List Nat) (us : List Value), us.length = cs.length → (∀ (j : Nat) (u : Value), us[j]? = some u → ∃ c t, cs[j]? = some c ∧ u = .str ⟨#[c]⟩ t) → Vals (cs.map fun c => V.str ⟨#[c]⟩) us := by
    intro cs
    induction cs with
    | nil =>
      intro us hl _
      rw [List.eq_nil_of_length_eq_zero hl]
      exact .nil
    | cons c cs ih =>
      intro us hl hj
      cases us with
      | nil => simp at hl
      | cons u us =>
        obtain ⟨c', t, e1, e2⟩ := hj 0 u rfl
        cases e1
        refine .cons ⟨t, e2⟩ (ih us (by simpa using hl) fun j u e => ?_)
        obtain ⟨c', t, e1, e2⟩ := hj (j + 1) u (by simpa using e)
        exact ⟨c', t, by simpa using e1, e2⟩
  refine go x.cps.toList acc.toList (by rw [Array.length_toList, h.1, Array.length_toList]) fun j u e => ?_
  have := h.2 j u (by rw [← Array.getElem?_toList]; exact e)
  obtain ⟨c, t, e1, e2⟩ := this
  exact ⟨c, t, by rw [Array.getElem?_toList]; exact e1, e2⟩
theorem cr_tupleD (hc : X.calm = true) : CallR X (.type "tuple") (rBlt X.K .tuple) := by
  intro pins s σ H xs us Q I r h
  obtain ⟨Z, ds, rr, i, hds, eq, q⟩ := h
  unfold bltop at eq
  split at eq <;> first | (exfalso; exact absurd ‹Bl.tuple = _› (by decide)) | skip
  all_goals first | (cases eq; done) | skip
  · cases eq
    obtain ⟨v, rfl, hd⟩ := hds.one
    obtain ⟨a, vs, rfl, ha, ra⟩ := hd.list i
    refine call_tuple_of pins s σ H _ us Q I r ⟨a, vs, rfl, .inl ⟨ha, fun l hl => ?_⟩⟩
    obtain ⟨n1, n2⟩ := newTup i hl ra
    exact q _ _ _ n1 n2
  · cases eq
    obtain ⟨v, rfl, hd⟩ := hds.one
    obtain ⟨a, vs, rfl, ha, ra⟩ := hd.tuple
    exact call_tuple_of pins s σ H _ us Q I r ⟨a, vs, rfl, .inr ⟨.of (i _ _ ha), q Z H _ (Ext.refl i) (.tup ha ra)⟩⟩
  · rename_i x _
    obtain ⟨g1, g2⟩ := gd_ok eq
    cases g2
    obtain ⟨v, rfl, hd⟩ := hds.one
    cases hd.str
    obtain ⟨u, rfl, ⟨t, rfl⟩⟩ := r.one
    have hz : x.cps.size ≤ sizeLine := by rw [← lim_eq]; exact of_decide_eq_true g1
    refine PySem.call_tuple_str (I.ok.hd hc) x t (fun h' tk acc kp it => ?_) hz
    have I2 : L2.Inv X pins σ H { s with heap := h', toks := tk } := I.kept kp
    have rv := signs_vals it
    obtain ⟨n1, n2⟩ := newTup i I2.fresh (signs_rep (K := X.K) (Z := Z) x.cps.toList)
    refine ⟨.ref _, _, I2.laid (t' := tk) (o := .tup (x.cps.toList.map fun c => V.str ⟨#[c]⟩)) (fun b ob z => Heap.get?_push_of_some _ z) (Nat.le_refl _) ?_, rfl, q _ _ _ n1 n2⟩
    refine ⟨by rw [List.length_map, Array.length_toList]; exact hz, acc.toList, rv, ?_⟩
    rw [Array.toArray_toList]
    exact IsTup.new _ _
theorem cr_allD (hc : X.calm = true) : CallR X (.builtin "all") (rBlt X.K .all) := by
  intro pins s σ H xs us Q I r h
  obtain ⟨Z, ds, rr, i, hds, eq, q⟩ := h
  unfold bltop at eq
  split at eq <;> first | (exfalso; exact absurd ‹Bl.all = _› (by decide)) | skip
  all_goals first | (cases eq; done) | skip
  split at eq
  · rename_i bs e
    cases eq
    obtain ⟨v, rfl, hd⟩ := hds.one
    obtain ⟨a, vs, rfl, ha, ra⟩ := hd.list i
    rw [allB_rep e ra] at ha
    exact cr_all hc pins s σ H _ us Q I r ⟨a, bs, rfl, ha, q Z H _ (Ext.refl i) (.bl _)⟩
  · cases eq
theorem cr_anyD (hc : X.calm = true) : CallR X (.builtin "any") (rBlt X.K .any) := by
  intro pins s σ H xs us Q I r h
  obtain ⟨Z, ds, rr, i, hds, eq, q⟩ := h
  unfold bltop at eq
  split at eq <;> first | (exfalso; exact absurd ‹Bl.any = _› (by decide)) | skip
  all_goals first | (cases eq; done) | skip
  split at eq
  · rename_i bs e
    cases eq
    obtain ⟨v, rfl, hd⟩ := hds.one
    obtain ⟨a, vs, rfl, ha, ra⟩ := hd.list i
    rw [allB_rep e ra] at ha
    exact cr_any hc pins s σ H _ us Q I r ⟨a, bs, rfl, ha, q Z H _ (Ext.refl i) (.bl _)⟩
  · cases eq
theorem cr_sumD (hc : X.calm = true) : CallR X (.builtin "sum") (rBlt X.K .sum) := by
  intro pins s σ H xs us Q I r h
  obtain ⟨Z, ds, rr, i, hds, eq, q⟩ := h
  unfold bltop at eq
  split at eq <;> first | (exfalso; exact absurd ‹Bl.sum = _› (by decide)) | skip
  all_goals first | (cases eq; done) | skip
  split at eq
  · rename_i bs e
    cases eq
    obtain ⟨v, rfl, hd⟩ := hds.one
    obtain ⟨a, vs, rfl, ha, ra⟩ := hd.list i
    rw [allI_rep e ra] at ha
    exact cr_sum hc pins s σ H _ us Q I r ⟨a, bs, rfl, ha, q Z H _ (Ext.refl i) (.int _)⟩
  · cases eq
theorem cr_min2D (hc : X.calm = true) : CallR X (.builtin "min") (rBlt X.K .min2) := by
  intro pins s σ H xs us Q I r h
  obtain ⟨Z, ds, rr, i, hds, eq, q⟩ := h
  unfold bltop at eq
  split at eq <;> first | (exfalso; exact absurd ‹Bl.min2 = _› (by decide)) | skip
  all_goals first | (cases eq; done) | skip
  cases eq
  obtain ⟨v, w', rfl, h1, h2⟩ := hds.two
  cases h1.int
  cases h2.int
  exact call_min2 hc pins s σ H _ us Q I r ⟨_, _, rfl, q Z H _ (Ext.refl i) (.int _)⟩
theorem cr_max2D (hc : X.calm = true) : CallR X (.builtin "max") (rBlt X.K .max2) := by
  intro pins s σ H xs us Q I r h
  obtain ⟨Z, ds, rr, i, hds, eq, q⟩ := h
  unfold bltop at eq
  split at eq <;> first | (exfalso; exact absurd ‹Bl.max2 = _› (by decide)) | skip
  all_goals first | (cases eq; done) | skip
  cases eq
  obtain ⟨v, w', rfl, h1, h2⟩ := hds.two
  cases h1.int
  cases h2.int
  exact call_max2 hc pins s σ H _ us Q I r ⟨_, _, rfl, q Z H _ (Ext.refl i) (.int _)⟩
theorem cr_sortedB (hc : X.calm = true) (hu : X.A.units + 128 < cLine) : CallR X (.builtin "sorted") (rBlt X.K .sorted) := by
  intro pins s σ H xs us Q I r h
  obtain ⟨Z, ds, rr, i, hds, eq, q⟩ := h
  have : ∃ d, ds = [d] := by
    unfold bltop at eq
    split at eq <;> first | (exfalso; exact absurd ‹Bl.sorted = _› (by decide)) | exact ⟨_, rfl⟩ | skip
    cases eq
  obtain ⟨d, rfl⟩ := this
  obtain ⟨v, rfl, hd⟩ := hds.one
  exact cr_srt hc hu pins s σ H _ us Q I r ⟨Z, v, d, rr, rfl, i, hd, eq, q⟩
/-- the pairs of a list, taken apart -/
theorem pairs_rep {K : Frag} {Z H : Hp} (i : Same Z H) : ∀ {xs : List PyData} {vs : List V} {es : List (PyData × PyData)}, pairsOf xs = some es → RepL K Z vs xs → (es.all fun p => keyK false p.1) = true →
    ∃ (ps : List Addr) (kvs : List (L2.Key × V)), vs = ps.map V.ref ∧ Paired (fun p kv => SqT K H p [kV kv.1, kv.2]) ps kvs ∧ RepK K Z kvs es
  | [], _, _, e, h, _ => by
    cases e
    cases h
    exact ⟨[], [], rfl, .nil, .nil⟩
  | x :: xs, _, es, e, h, al => by
    cases h with
    | cons h1 h2 =>
      unfold pairsOf at e
      split at e
      · rename_i e0
        cases e0
      · rename_i k v r e0
        cases e0
        obtain ⟨es', e1, rfl⟩ := Option.map_eq_some_iff.mp e
        simp only [List.all_cons, Bool.and_eq_true] at al
        obtain ⟨ps, kvs, q1, q2, q3⟩ := pairs_rep i e1 h2 al.2
        cases h1 with
        | @tup a ws _ z1 z2 =>
          cases z2 with
          | cons y1 y2 =>
            cases y2 with
            | cons y3 y4 =>
              cases y4
              obtain ⟨kk, ek, ev⟩ := key_flat y1 al.1
              subst ek
              subst ev
              exact ⟨a :: ps, (kk, _) :: kvs, by rw [q1]; rfl, .cons (SqT.of (i _ _ z1)) q2, .cons y3 q3⟩
      · cases e
theorem dmerge_rep {K : Frag} {Z : Hp} : ∀ {more : List (L2.Key × V)} {es : List (PyData × PyData)} {kvs : List (L2.Key × V)} {ds : List (PyData × PyData)}, RepK K Z more es → RepK K Z kvs ds → RepK K Z (mergeK kvs more) (dmerge ds es)
  | _, _, _, _, .nil, h => h
  | (k, v) :: more, (_, d) :: es, kvs, ds, .cons h t, h2 => by
    show RepK K Z (mergeK (putK kvs k v) more) (dmerge (dput (kD k) d ds) es)
    exact dmerge_rep t (h2.put k h)
theorem cr_dictD (hc : X.calm = true) : CallR X (.type "dict") (rBlt X.K .dict) := by
  intro pins s σ H xs us Q I r h
  obtain ⟨Z, ds, rr, i, hds, eq, q⟩ := h
  unfold bltop at eq
  split at eq <;> first | (exfalso; exact absurd ‹Bl.dict = _› (by decide)) | skip
  all_goals first | (cases eq; done) | skip
  · split at eq
    · rename_i es e
      obtain ⟨g1, g2⟩ := gd_ok eq
      cases g2
      obtain ⟨v, rfl, hd⟩ := hds.one
      obtain ⟨a, vs, rfl, ha, ra⟩ := hd.list i
      obtain ⟨ps, kvs, q1, q2, q3⟩ := pairs_rep i e ra g1
      subst q1
      refine call_dictP hc pins s σ H _ us Q I r ⟨a, ps, kvs, rfl, ha, q2, fun p hp => ?_⟩
      exact q Z _ _ (Ext.obj i hp) ⟨p, rfl, hp, sameN i hp, .inl ⟨_, _, rfl, upd_same, dmerge_rep q3 .nil⟩⟩
    · cases eq
  · cases eq
    obtain ⟨v, rfl, hd⟩ := hds.one
    obtain ⟨a, rfl, ⟨kvs, es', e0, ha, ra⟩ | ⟨kvs, es', e0, ha, ra⟩⟩ := hd.dict i
    · simp only [List.cons.injEq, Prod.mk.injEq, PyData.bool.injEq, true_and] at e0
      obtain ⟨_, rfl⟩ := e0
      exact call_dictD pins s σ H _ us Q I r ⟨a, kvs, rfl, ha, fun p hp => q Z _ _ (Ext.obj i hp) ⟨p, rfl, hp, sameN i hp, .inl ⟨_, _, rfl, upd_same, ra⟩⟩⟩
    · simp at e0
end
end Tdl
/-! TdMth: methods, isinstance by values. -/
namespace Tdl
open PySem PySem.W L2 PyProof.Rows
def rMth (K : Frag) (m : Mt) : V → List V → Hp → VK → Prop := fun x xs H Q => ∃ Z d ds r, Same Z H ∧ Red K Z H x d ∧ RepL K Z xs ds ∧ mthop m d ds = .ok r ∧ ∀ Z' H' v, Ext Z H Z' H' → RVr K H Z' H' r v → Q v H'
theorem RepL.one {K : Frag} {Z : Hp} {vs : List V} {d : PyData} (h : RepL K Z vs [d]) : ∃ v, vs = [v] ∧ Rep K Z v d := by
  cases h with
  | cons h t =>
    cases t
    exact ⟨_, rfl, h⟩
theorem RepL.two {K : Frag} {Z : Hp} {vs : List V} {d e : PyData} (h : RepL K Z vs [d, e]) : ∃ v u, vs = [v, u] ∧ Rep K Z v d ∧ Rep K Z u e := by
  cases h with
  | cons h t =>
    obtain ⟨u, rfl, h2⟩ := t.one
    exact ⟨_, _, rfl, h, h2⟩
section
variable {X : Cx}
theorem reds_of {Z H : Hp} {pins : List (Addr × Obj)} {σ : L2.St} {s : Shared} (I : L2.Inv X pins σ H s) (i : Same Z H) {us : List Value} {vs : List V} {ds : List PyData} (rv : Vals vs us) (rr : RepL X.K Z vs ds) (al : PyData.plainAll ds = true) : ∃ as, ReadsAll s.heap us ds as :=
  reads_of I i rv rr fun d hd => plain_mem al hd
theorem mt_count (hu : X.A.units + 128 < cLine) : MtR X "list.count" (rMth X.K .count) := by
  intro pins s σ H x xs v us Q I rx rxs h
  obtain ⟨Z, d, ds, r, i, hd, hds, eq, q⟩ := h
  unfold mthop at eq
  split at eq <;> first | (exfalso; exact absurd ‹Mt.count = _› (by decide)) | skip
  all_goals first | (cases eq; done) | skip
  rename_i ys y _
  obtain ⟨g1, g2⟩ := gd_ok eq
  cases g2
  simp only [Bool.and_eq_true] at g1
  obtain ⟨w', rfl, hy⟩ := hds.one
  obtain ⟨u, rfl, ru⟩ := rxs.one
  obtain ⟨a, vs, rfl, ha, ra⟩ := hd.list i
  cases rx
  obtain ⟨its, rv, pl, hz⟩ := I.list ha
  obtain ⟨as, rd⟩ := reds_of I i rv ra g1.2.1
  obtain ⟨bs, rb⟩ := Red.reads I i (.im hy) g1.1 ru
  have g3 := of_decide_eq_true g1.2.2
  exact SeqAt.count_list_data pl.isList (by simpa using rd) rb g1.2.1 g1.1 (by omega) ⟨.int _, H, I.tok _, ⟨_, rfl⟩, q Z H _ (Ext.refl i) (.int _)⟩
theorem mt_indexD (hu : X.A.units + 128 < cLine) : MtR X "list.index" (rMth X.K .index) := by
  intro pins s σ H x xs v us Q I rx rxs h
  obtain ⟨Z, d, ds, r, i, hd, hds, eq, q⟩ := h
  unfold mthop at eq
  split at eq <;> first | (exfalso; exact absurd ‹Mt.index = _› (by decide)) | skip
  all_goals first | (cases eq; done) | skip
  rename_i ys y _
  obtain ⟨g1, g2⟩ := gd_ok eq
  simp only [Bool.and_eq_true] at g1
  obtain ⟨w', rfl, hy⟩ := hds.one
  obtain ⟨u, rfl, ru⟩ := rxs.one
  obtain ⟨a, vs, rfl, ha, ra⟩ := hd.list i
  cases rx
  obtain ⟨its, rv, pl, hz⟩ := I.list ha
  obtain ⟨as, rd⟩ := reds_of I i rv ra g1.2.1
  obtain ⟨bs, rb⟩ := Red.reads I i (.im hy) g1.1 ru
  have g3 := of_decide_eq_true g1.2.2
  split at g2
  · rename_i j hj
    cases g2
    have rd' : ReadsAll s.heap its.toArray.toList ys as := by simpa using rd
    obtain ⟨hj', hit, hno⟩   := SeqAt.hit_at (d := y) rd' g1.2.1 hj
    obtain ⟨⟨cls, dd, data, sl⟩, ho, hc, n, hdat⟩ := pl.isList
    simp only at hc hdat
    subst hc hdat
    have hsl := sizeLine_eq
    have hvl := rv.length
    have hj2 : j < its.length := by simpa using hj'
    exact call_meets PySem.F.slot_list_index ⟨_, ho, rfl⟩ PySem.F.entry_list_index (PySem.F.args_list_index_2 _ _) (SeqAt.list_indexAt a its.toArray n dd sl u _ j hj' (by omega) hit hno) ⟨ho, SeqAt.items_plain rd' rb g1.2.1 g1.1 (by omega), ⟨.int (j : Nat), H, I.tok _, ⟨_, rfl⟩, q Z H _ (Ext.refl i) (.int _)⟩⟩
  · cases g2
theorem mt_get2 (hu : X.A.units + 128 < cLine) : MtR X "dict.get" (rMth X.K .get2) := by
  intro pins s σ H x xs v us Q I rx rxs h
  obtain ⟨Z, d, ds, r, i, hd, hds, eq, q⟩ := h
  unfold mthop at eq
  split at eq <;> first | (exfalso; exact absurd ‹Mt.get2 = _› (by decide)) | skip
  all_goals first | (cases eq; done) | skip
  rename_i tk es k z _
  obtain ⟨g1, g2⟩ := gd_ok eq
  cases g2
  obtain ⟨w1, w2, rfl, hk, hz⟩ := hds.two
  obtain ⟨u1, u2, rfl, r1, r2⟩ := rxs.two
  obtain ⟨a, o, rfl, g, oo⟩ := look_dict i hd (.im hk) g1
  cases rx
  refine d_get2 (by omega) I g r1 r2 fun w' s' I' rw' => ⟨_, H, I', rw', ?_⟩
  cases o with
  | none =>
    cases hg : dget k es with
    | some y => rw [hg] at oo; exact oo.elim
    | none =>
      rw [hg] at q
      exact q Z H _ (Ext.refl i) hz
  | some y =>
    cases hg : dget k es with
    | some y' =>
      rw [hg] at oo q
      exact q Z H _ (Ext.refl i) oo
    | none => rw [hg] at oo; exact oo.elim
theorem strs_rep {K : Frag} {Z : Hp} (xs : List Str) : RepL K Z (xs.map V.str) (xs.map PyData.str) := by
  induction xs with
  | nil => exact .nil
  | cons c cs ih => exact .cons (.str _) ih
theorem mt_splitD : MtR X "str.split" (rMth X.K .split) := by
  intro pins s σ H x xs v us Q I rx rxs h
  obtain ⟨Z, d, ds, r, i, hd, hds, eq, q⟩ := h
  unfold mthop at eq
  split at eq <;> first | (exfalso; exact absurd ‹Mt.split = _› (by decide)) | skip
  all_goals first | (cases eq; done) | skip
  rename_i a b _
  obtain ⟨g1, g2⟩ := gd_ok eq
  cases g2
  obtain ⟨w1, rfl, hy⟩ := hds.one
  cases hy
  cases hd.str
  obtain ⟨c1, c2⟩ := of_decide_eq_true g1
  refine mt_split pins s σ H _ _ v us Q I rx rxs ⟨a, b, rfl, rfl, by rw [c1]; rfl, by rw [sizeLine_eq]; omega, ?_⟩
  intro p hp
  obtain ⟨n1, n2⟩ := newList i hp (strs_rep (K := X.K) (Z := Z) (Txt.split a b))
  exact q _ _ _ n1 n2
theorem mt_joinD : MtR X "str.join" (rMth X.K .join) := by
  intro pins s σ H x xs v us Q I rx rxs h
  obtain ⟨Z, d, ds, r, i, hd, hds, eq, q⟩ := h
  unfold mthop at eq
  split at eq <;> first | (exfalso; exact absurd ‹Mt.join = _› (by decide)) | skip
  all_goals first | (cases eq; done) | skip
  · rename_i a zs _
    split at eq
    · rename_i ys e
      obtain ⟨g1, g2⟩ := gd_ok eq
      cases g2
      obtain ⟨w1, rfl, hy⟩ := hds.one
      cases hd.str
      obtain ⟨p, vs, rfl, ha, ra⟩ := Red.list i (.im hy)
      rw [allS_rep e ra] at ha
      exact mt_join pins s σ H _ _ v us Q I rx rxs ⟨a, p, ys, rfl, rfl, .inl ha, of_decide_eq_true g1, q Z H _ (Ext.refl i) (.str _)⟩
    · cases eq
  · rename_i a zs _
    split at eq
    · rename_i ys e
      obtain ⟨g1, g2⟩ := gd_ok eq
      cases g2
      obtain ⟨w1, rfl, hy⟩ := hds.one
      cases hd.str
      obtain ⟨p, vs, rfl, ha, ra⟩ := Red.tuple (H := H) (.im hy)
      have e2 := allS_rep e ra
      exact mt_join pins s σ H _ _ v us Q I rx rxs ⟨a, p, ys, rfl, rfl, .inr (by rw [← e2]; exact .of (i _ _ ha)), of_decide_eq_true g1, q Z H _ (Ext.refl i) (.str _)⟩
    · cases eq
/-- the type of a value that stands for a plain datum -/
def tyD : PyData → String
  | .none => "NoneType" | .bool _ => "bool" | .int _ => "int" | .str _ => "str" | .list _ => "list" | .tuple _ => "tuple" | .dict _ => "dict"
theorem ty_of {Z H : Hp} {v : V} {d : PyData} {K : Frag} (i : Same Z H) (h : Red K Z H v d) (p : d.plain = true) : TyX K H v (.type (tyD d)) := by
  cases d with
  | none => cases h.none; exact .base .non
  | bool b => cases h.bool; exact .base (.bl _)
  | int b => cases h.int; exact .base (.int _)
  | str b => cases h.str; exact .base (.str _)
  | list ds =>
    obtain ⟨a, vs, rfl, ha, _⟩ := h.list i
    rcases ha with (ha | ⟨o, ha⟩) | ⟨o, its, n, hk, hc, _⟩
    · exact .base (.lst ha)
    · exact .base (.frz ha)
    · exact .kList hk hc
  | tuple ds =>
    obtain ⟨a, vs, rfl, ha, _⟩ := h.tuple
    exact .base (.tup (i _ _ ha))
  | dict es => simp [PyData.plain] at p
def tyN : Ty → String
  | .int => "int" | .bool => "bool" | .str => "str" | .list => "list" | .tuple => "tuple" | .tl => "tuple"
theorem kit_all (d : PyData) (t : Ty) (p : d.plain = true) (ht : t ≠ .tl) : kitB (tyD d) (tyN t) = some (isiop d t) := by
  cases d with
  | dict es => simp [PyData.plain] at p
  | _ => cases t <;> first | exact absurd rfl ht | (simp only [tyD, tyN, isiop, PyData.isInt, PyData.isBool, PyData.isStr, PyData.isList, PyData.isTuple]; decide +kernel)
def rIsiD (K : Frag) (t : Ty) : List V → Hp → VK → Prop := fun xs H Q => ∃ Z v d, xs = [v, .ty (tyN t)] ∧ Same Z H ∧ Red K Z H v d ∧ d.plain = true ∧ Q (.bl (isiop d t)) H
theorem cr_isi (t : Ty) (ht : t ≠ .tl) : CallR X (.builtin "isinstance") (rIsiD X.K t) := by
  intro pins s σ H xs us Q I r h
  obtain ⟨Z, v, d, rfl, i, hd, p, q⟩ := h
  exact call_isi pins s σ H _ us Q I r ⟨v, _, _, _, isiop d t, rfl, .ty _, ty_of i hd p, kit_ty (kit_all d t p ht), q⟩
end
end Tdl
/-! TdEnum: enumerate(t) of a tuple. -/
namespace Tdl
open PySem PySem.W L2 PySem.Spec PyProof.Rows
theorem enumT_new (l : Addr) (items : Array Value) (n : Nat) (dct : Option Addr) (sl : Array (Option Value)) :
    Meets (Builtin.«enumerate.__new__» ⟨[.type "enumerate", .ref l], []⟩) (fun _ R s => s.heap.get? l = some { cls := .type "tuple", dict := dct, data := .seq items n, slots := sl } ∧
      R (.ok (.ret (.ref (s.heap.push { cls := .type "tuple_iterator", data := .fields #[.ref l, .int 0 0] }).objs.size)))
        { s with heap := (s.heap.push { cls := .type "tuple_iterator", data := .fields #[.ref l, .int 0 0] }).push { cls := .type "enumerate", data := .fields #[.none, .bool false, .ref s.heap.objs.size, rawInt 0, .none, .none] } }) :=
  .of_wp fun prog w A R s h => by
    obtain ⟨hp, g, d, tk, os⟩ := s; obtain ⟨hl, h⟩ := h
    have hsub := sub_enumerate
    have hL : Heap.IsTuple (Shared.heap ⟨hp, g, d, tk, os⟩) l items := ⟨_, hl, rfl, n, rfl⟩
    wp_walk using wpAny_loadPart' hl
    refine wpAny_stack_any fun st => wpAny_pure ?_
    split
    · rename_i c _ _ _ _ _
      cases (c == Value.type "enumerate")
      · wp_walk using wpAny_loadPart' hl, wpAny_pyIter_tuple hL
        exact ⟨_, rfl, h⟩
      · wp_walk using wpAny_loadPart' hl, wpAny_pyIter_tuple hL
        exact ⟨_, rfl, h⟩
    · wp_walk using wpAny_loadPart' hl, wpAny_pyIter_tuple hL
      exact ⟨_, rfl, h⟩
section
variable {prog : Program} {w : World} {A : Around} {E : Value → Shared → Prop} {s : Shared}
theorem call_enumT {l : Addr} {items : Array Value} {Q : Value → Shared → Prop} (hL : s.heap.IsTuple l items)
    (h : ∀ h', IsEnum h' (s.heap.objs.size + 1) s.heap.objs.size 0 .none → h'.IsTupleIter s.heap.objs.size l 0 → (∀ b o, s.heap.get? b = some o → h'.get? b = some o) → Q (.ref (s.heap.objs.size + 1)) { s with heap := h' }) :
    wpAny (model prog w) A (call (.type "enumerate") [.ref l]) Q E s := by
  obtain ⟨⟨c, dct, dt, sl⟩, hl, hc, n, hd⟩ := hL
  replace hc : c = .type "tuple" := hc
  replace hd : dt = .seq items n := hd
  subst hc hd
  refine callType_new F.called_enumerate (by decide) (F.typeCall_enumerate_1 _) (F.newCall_enumerate_1 _) (fun obj => F.args_object_init_2 obj _) F.entry_enumerate_new (enumT_new l items n dct sl) ⟨hl, ?_⟩
  have hz : (s.heap.push { cls := .type "tuple_iterator", data := .fields #[.ref l, .int 0 0] }).objs.size = s.heap.objs.size + 1 := Heap.size_push ..
  show _ ∧ _
  rw [hz]
  have he : IsEnum ((s.heap.push { cls := .type "tuple_iterator", data := .fields #[.ref l, .int 0 0] }).push
      { cls := .type "enumerate", data := .fields #[.none, .bool false, .ref s.heap.objs.size, rawInt 0, .none, .none] }) (s.heap.objs.size + 1) s.heap.objs.size 0 .none := by
    have := Heap.get?_push_size (s.heap.push { cls := .type "tuple_iterator", data := .fields #[.ref l, .int 0 0] })
      (o := { cls := .type "enumerate", data := .fields #[.none, .bool false, .ref s.heap.objs.size, rawInt 0, .none, .none] }) rfl
    rwa [hz] at this
  exact ⟨⟨_, he, rfl⟩, h _ he ⟨_, Heap.get?_push_of_some _ (Heap.get?_push_size _ rfl), rfl, rfl⟩ fun b o x => Heap.get?_push_of_some _ (Heap.get?_push_of_some _ x)⟩
end
/-- the tuple at a, each item in a new pair -/
def ItT (K : PySem.W.Frag) (a : Addr) : It :=
  ⟨fun i H => ∃ (xs : List V) (x : V), SqT K H a xs ∧ xs[i]? = some x, fun i H v H' => ∃ T x, v = .ref T ∧ H T = none ∧ H' = upd H T (.tup [.int (i : Nat), x]) ∧ ∀ xs, SqT K H a xs → xs[i]? = some x, fun i H => ∃ xs : List V, SqT K H a xs ∧ xs.length = i⟩
theorem turn_enumT {P : Program} {w : World} {K : PySem.W.Frag} {elts : List Expr} {kk : Nat} {tpos : Pos} (a e it : Addr) :
    Turn P w K (.Tuple elts kk tpos) (ItT K a) [e, it] e (fun i h => (∃ old, IsEnum h e it ((i : Nat) : Int) old) ∧ h.IsTupleIter it a i ∧ e ≠ it) where
  mem := by simp
  obj := fun i h st b hb => by
    obtain ⟨⟨old, he⟩, ⟨o, ho, hc, hd⟩, _⟩ := st
    rcases (show b = e ∨ b = it by simpa using hb) with z | z
    · rw [z]; exact ⟨_, he, fun v q => nomatch q⟩
    · rw [z]; exact ⟨o, ho, fun v q => by rw [hd] at q; cases q⟩
  keep := fun i h h' st k => let ⟨⟨old, he⟩, hi, hne⟩ := st; ⟨⟨old, k e (by simp) _ he⟩, hi.at fun o q => k it (by simp) o q, hne⟩
  item := by
    intro X hP hw hK hc i pins s σ H E I hf st hg
    subst hP hw hK
    obtain ⟨⟨old, he⟩, hit, hne⟩ := st
    obtain ⟨xs, x, hq, hx⟩ := hg
    obtain ⟨its, rv, p, hz⟩ := I.tuple hq
    obtain ⟨u, hu, ru⟩ := rv.get hx
    have hel : e < s.heap.objs.size := Heap.lt_size he
    have hil : it < s.heap.objs.size := by obtain ⟨_, q, _⟩ := hit; exact Heap.lt_size q
    have hal : a ≠ it := by
      obtain ⟨oi, qi, ci, _⟩ := hit
      obtain ⟨oa, qa, ca, _⟩ := p
      rintro rfl
      rw [qi] at qa
      cases qa
      rw [ci] at ca
      exact absurd ca (by decide)
    have hae : e ∉ [it, a] := by
      obtain ⟨oa, qa, ca, _⟩ := p
      simp only [List.mem_cons, List.not_mem_nil, or_false, not_or]
      refine ⟨hne, ?_⟩
      rintro rfl
      have he' : s.heap.get? e = some _ := he
      rw [he'] at qa
      cases qa
      exact absurd (show Value.type "enumerate" = Value.type "tuple" from ca) (by decide)
    have D := Draws.tuple (prog := X.prog) (w := X.w) (A := X.A.in1) (by simp [I.ok.hd hc]) it a hal its.toArray
    have hlt : i < its.toArray.size := by
      rw [List.size_toArray]
      exact (List.getElem?_eq_some_iff.mp hu).1
    refine wpAny_pyNext_enum_itemD D he ⟨hit, p⟩ hlt hne hae fun x1 h' tk hP ho hit' hT hsz hk => ?_
    have ex : x1 = u := by
      have : its[i]? = some x1 := by simpa using hP
      rw [hu] at this
      exact (Option.some.inj this).symm
    subst ex
    refine ⟨_, rfl, wpAny_letOwnedTupleGo_enum (s := { s with heap := h', toks := tk + 1 }) ho fun h'' he' sb => ?_⟩
    have hT2 : h''.get? s.heap.objs.size = some { cls := .type "tuple", data := .seq #[.int i tk, x1] } := (sb.2 _ (Nat.ne_of_gt hel)).trans hT
    have new : ObjOk X.prog X.w (upd H s.heap.objs.size (.tup [.int (i : Nat), x])) h'' s.heap.objs.size (.tup [.int (i : Nat), x]) :=
      ⟨by show 2 ≤ sizeLine; decide, [.int i tk, x1], .cons ⟨_, rfl⟩ (.cons ru .nil), ⟨_, hT2, rfl, _, rfl⟩⟩
    have I1 : L2.Inv X pins σ (upd H s.heap.objs.size (.tup [.int (i : Nat), x])) { s with heap := h'', toks := tk + 1 } :=
      I.turnedNew (ch := [e, it]) (fun b ob hb q => (sb.2 b (fun z => hb (by simp [z]))).trans (hk b ob (fun z => hb (by simp [z])) (fun z => hb (by simp [z])) q)) hf (Nat.le_refl _) new
    refine ⟨.ref s.heap.objs.size, _, I1, rfl, ⟨_, x, rfl, I.hok.fresh (Nat.le_refl _), rfl, fun ys hy => by rw [I.tuple_inj hy hq]; exact hx⟩, ⟨⟨x1, ?_⟩, hit'.1.at fun o q => (sb.2 it (Ne.symm hne)).trans q, hne⟩, fun b hb => ?_⟩
    · rw [show ((i + 1 : Nat) : Int) = (i : Int) + 1 by omega]; exact he'
    · have hb' : b < s.heap.objs.size := by
        rcases (show b = e ∨ b = it by simpa using hb) with z | z
        · rw [z]; exact hel
        · rw [z]; exact hil
      rw [upd_ne (Nat.ne_of_lt hb')]
      exact (hf b hb).1
  done := by
    intro X hP hw hK hc i pins s σ H E I hf st hg
    subst hP hw hK
    obtain ⟨⟨old, he⟩, hit, hne⟩ := st
    obtain ⟨xs, hq, hx⟩ := hg
    obtain ⟨its, rv, p, hz⟩ := I.tuple hq
    obtain ⟨f0, f1, f2, f3, f4, f5⟩ := hf it (by simp)
    have hl := rv.length
    have hal : a ≠ it := by
      obtain ⟨oi, qi, ci, _⟩ := hit
      obtain ⟨oa, qa, ca, _⟩ := p
      rintro rfl
      rw [qi] at qa
      cases qa
      rw [ci] at ca
      exact absurd ca (by decide)
    have D := Draws.tuple (prog := X.prog) (w := X.w) (A := X.A.in1) (by simp [I.ok.hd hc]) it a hal its.toArray
    have hn : its.toArray.size = i := by rw [List.size_toArray]; omega
    exact wpAny_pyNext_enum_endD D he (by rw [hn]; exact ⟨hit, p⟩) fun h' eb => ⟨rfl, I.turned (t' := s.toks) (fun b o hb q => eb b o hb q) f0 f1 f3 f4 f5⟩
  self := fun A i s Q E st h => let ⟨⟨_, he⟩, _⟩ := st; wpAny_pyIter_enum he h
def iEnumA (K : PySem.W.Frag) (ta : TA) : TI := fun σ H R => ta σ H fun vs H1 => ∃ a xs, vs = [.ref a] ∧ ((SqL K H1 a xs ∧ R (Ite K a) H1) ∨ (SqT K H1 a xs ∧ R (ItT K a) H1))
theorem pi_enumA {X : Cx} {e : Expr} {ta : TA} {p pos tpos : Pos} {elts : List Expr} {kk : Nat} (hg : Gl X "enumerate") (hm : X.mg "enumerate" = none) (ha : PA X [e] ta) (hs : starEach [e] X.env = [(false, eval e X.env)] := by rfl) :
    PI X (.Tuple elts kk tpos) (.Call (.Name "enumerate" p) [e] [] pos) (iEnumA X.K ta) := by
  refine ⟨fun pins s σ H R I h => ?_⟩
  refine Call_ (ld_blt I hg hm boot_enumerate (PyProof.Rows.callWith_type1 (thn (ha.run pos pins s σ H _ I h) fun us s1 ⟨vs, H1, I1, r1, q1⟩ => ?_) hs rfl))
  obtain ⟨a, xs, ex, q1⟩ := q1
  subst ex
  obtain ⟨u, rfl, ru⟩ := vals1 r1
  cases ru
  have fo : ∀ b ∈ [s1.heap.objs.size + 1, s1.heap.objs.size], FpOk X pins H1 b := fun b hb => by
    have hle : s1.heap.objs.size ≤ b := by
      rcases (show b = s1.heap.objs.size + 1 ∨ b = s1.heap.objs.size by simpa using hb) with z | z
      · rw [z]; exact Nat.le_add_right _ _
      · rw [z]; exact Nat.le_refl _
    exact I1.fpOk hle (I1.hok.fresh hle)
  rcases q1 with ⟨hq, q⟩ | ⟨hq, q⟩
  · obtain ⟨its, rv, p', hz⟩ := I1.list hq
    refine call_enumerate_list p'.isList fun h' he hit hsz hk => wpAny_pyIter_enum he ?_
    exact ⟨s1.heap.objs.size + 1, [s1.heap.objs.size + 1, s1.heap.objs.size], _, _, H1, rfl, I1.kept (t' := s1.toks) hk, turn_enum a (s1.heap.objs.size + 1) s1.heap.objs.size, ⟨⟨.none, he⟩, hit, Nat.succ_ne_self _⟩, fo, q⟩
  · obtain ⟨its, rv, p', hz⟩ := I1.tuple hq
    refine call_enumT (show s1.heap.IsTuple a its.toArray from p') fun h' he hit hk => wpAny_pyIter_enum he ?_
    exact ⟨s1.heap.objs.size + 1, [s1.heap.objs.size + 1, s1.heap.objs.size], _, _, H1, rfl, I1.kept (t' := s1.toks) hk, turn_enumT a (s1.heap.objs.size + 1) s1.heap.objs.size, ⟨⟨.none, he⟩, hit, Nat.succ_ne_self _⟩, fo, q⟩
end Tdl
/-! TdWalk: what loops and comprehensions walk, by data. -/
namespace Tdl
open PySem PySem.W L2 PySem.Spec PyProof.Rows
/-- J walks the items xs from every state that has grown from (Z1, H1) -/
def WalkD (K : Frag) (Z1 H1 : Hp) (J : It) (xs : List PyData) : Prop :=
  ∀ Z H, Sm Z1 Z → Sm H1 H → Same Z H → ∀ i, (i < xs.length → J.go i H ∧ ∀ x H', J.yld i H x H' → ∃ Z' d, xs[i]? = some d ∧ Ext Z H Z' H' ∧ Rep K Z' x d) ∧ (i = xs.length → J.stop i H)
section
variable {K : Frag} {Z1 H1 : Hp}
theorem walk_list {a : Addr} {vs : List V} {ds : List PyData} (ha : SqL K H1 a vs) (r : RepL K Z1 vs ds) : WalkD K Z1 H1 (Itl K a) ds := by
  intro Z H s1 s2 s3 i
  have h2 := seqL_up s2 ha
  refine ⟨fun hi => ?_, fun hi => ⟨vs, h2, by rw [r.length, hi]; exact Nat.le_refl _⟩⟩
  obtain ⟨v, hv, rv⟩ := r.get (List.getElem?_eq_getElem hi)
  refine ⟨⟨vs, v, h2, hv⟩, fun x H' ⟨e, y⟩ => ?_⟩
  subst e
  have := y vs h2
  rw [hv] at this
  cases this
  exact ⟨Z, _, List.getElem?_eq_getElem hi, Ext.refl s3, rv.up s1⟩
theorem walk_tup {a : Addr} {vs : List V} {ds : List PyData} (ha : Z1 a = some (.tup vs)) (r : RepL K Z1 vs ds) : WalkD K Z1 H1 (Itt K a) ds := by
  intro Z H s1 s2 s3 i
  have h2 : SqT K H a vs := .of (s3 _ _ (s1.eq (fun z => z) ha))
  refine ⟨fun hi => ?_, fun hi => ⟨vs, h2, by rw [r.length, hi]; exact Nat.le_refl _⟩⟩
  obtain ⟨v, hv, rv⟩ := r.get (List.getElem?_eq_getElem hi)
  refine ⟨⟨vs, v, h2, hv⟩, fun x H' ⟨e, y⟩ => ?_⟩
  subst e
  have := y vs h2
  rw [hv] at this
  cases this
  exact ⟨Z, _, List.getElem?_eq_getElem hi, Ext.refl s3, rv.up s1⟩
theorem walk_str (x : Str) : WalkD K Z1 H1 (Its x) (x.cps.toList.map fun c => .str ⟨#[c]⟩) := by
  intro Z H s1 s2 s3 i
  rw [List.length_map, Array.length_toList]
  refine ⟨fun hi => ⟨hi, fun y H' ⟨e, c, hc, hy⟩ => ?_⟩, fun hi => by rw [hi]; exact Nat.le_refl _⟩
  subst e
  subst hy
  exact ⟨Z, _, by rw [List.getElem?_map, Array.getElem?_toList, hc]; rfl, Ext.refl s3, .str _⟩
theorem pair_ext {Z H : Hp} {T : Addr} {x y : V} {d e : PyData} (s3 : Same Z H) (hT : H T = none) (hx : Rep K Z x d) (hy : Rep K Z y e) : Ext Z H (upd Z T (.tup [x, y])) (upd H T (.tup [x, y])) ∧ Rep K (upd Z T (.tup [x, y])) (.ref T) (.tuple [d, e]) := by
  obtain ⟨n1, n2⟩ := newTup (K := K) s3 hT (.cons hx (.cons hy .nil))
  exact ⟨n1, n2⟩
theorem zip_at {α β : Type} : ∀ {xs : List α} {ys : List β} {i : Nat} {x : α} {y : β}, xs[i]? = some x → ys[i]? = some y → (xs.zip ys)[i]? = some (x, y)
  | [], _, _, _, _, h, _ => by simp at h
  | _ :: _, [], _, _, _, _, h => by simp at h
  | a :: xs, b :: ys, 0, x, y, h1, h2 => by
    simp only [List.getElem?_cons_zero, Option.some.injEq] at h1 h2
    subst h1
    subst h2
    rfl
  | a :: xs, b :: ys, i + 1, x, y, h1, h2 => by
    simp only [List.getElem?_cons_succ] at h1 h2
    rw [List.zip_cons_cons, List.getElem?_cons_succ]
    exact zip_at h1 h2
theorem walk_enum {a : Addr} {vs : List V} {ds : List PyData} (ha : SqL K H1 a vs) (r : RepL K Z1 vs ds) : WalkD K Z1 H1 (Ite K a) (((List.range ds.length).zip ds).map fun p => .tuple [.int p.1, p.2]) := by
  intro Z H s1 s2 s3 i
  have h2 := seqL_up s2 ha
  rw [List.length_map, List.length_zip, List.length_range, Nat.min_self]
  refine ⟨fun hi => ?_, fun hi => ⟨vs, h2, by rw [r.length, hi]; exact Nat.le_refl _⟩⟩
  obtain ⟨v, hv, rv⟩ := r.get (List.getElem?_eq_getElem hi)
  refine ⟨⟨vs, v, h2, hv⟩, fun x H' ⟨T, y, e1, hT, e2, q⟩ => ?_⟩
  have := q vs h2
  rw [hv] at this
  cases this
  subst e1
  subst e2
  obtain ⟨p1, p2⟩ := pair_ext (K := K) s3 hT (.int (i : Nat)) (rv.up s1)
  refine ⟨_, _, ?_, p1, p2⟩
  rw [List.getElem?_map, zip_at (List.getElem?_range hi) (List.getElem?_eq_getElem hi)]
  rfl
theorem walk_enumT {a : Addr} {vs : List V} {ds : List PyData} (ha : Z1 a = some (.tup vs)) (r : RepL K Z1 vs ds) : WalkD K Z1 H1 (ItT K a) (((List.range ds.length).zip ds).map fun p => .tuple [.int p.1, p.2]) := by
  intro Z H s1 s2 s3 i
  have h2 : SqT K H a vs := .of (s3 _ _ (s1.eq (fun z => z) ha))
  rw [List.length_map, List.length_zip, List.length_range, Nat.min_self]
  refine ⟨fun hi => ?_, fun hi => ⟨vs, h2, by rw [r.length, hi]⟩⟩
  obtain ⟨v, hv, rv⟩ := r.get (List.getElem?_eq_getElem hi)
  refine ⟨⟨vs, v, h2, hv⟩, fun x H' ⟨T, y, e1, hT, e2, q⟩ => ?_⟩
  have := q vs h2
  rw [hv] at this
  cases this
  subst e1
  subst e2
  obtain ⟨p1, p2⟩ := pair_ext (K := K) s3 hT (.int (i : Nat)) (rv.up s1)
  refine ⟨_, _, ?_, p1, p2⟩
  rw [List.getElem?_map, zip_at (List.getElem?_range hi) (List.getElem?_eq_getElem hi)]
  rfl
theorem walk_zip {a b : Addr} {vs ws : List V} {ds es : List PyData} (ha : SqL K H1 a vs) (hb : SqL K H1 b ws) (r : RepL K Z1 vs ds) (r2 : RepL K Z1 ws es) : WalkD K Z1 H1 (Itz K a b) ((ds.zip es).map fun p => .tuple [p.1, p.2]) := by
  intro Z H s1 s2 s3 i
  have h2 := seqL_up s2 ha
  have h3 := seqL_up s2 hb
  rw [List.length_map, List.length_zip]
  refine ⟨fun hi => ?_, fun hi => ⟨vs, ws, h2, h3, by rw [r.length, r2.length]; omega⟩⟩
  have hi1 : i < ds.length := by omega
  have hi2 : i < es.length := by omega
  obtain ⟨v, hv, rv⟩ := r.get (List.getElem?_eq_getElem hi1)
  obtain ⟨u, hu, ru⟩ := r2.get (List.getElem?_eq_getElem hi2)
  refine ⟨⟨vs, ws, v, u, h2, h3, hv, hu⟩, fun x H' ⟨T, y, z, e1, hT, e2, q1, q2⟩ => ?_⟩
  have t1 := q1 vs h2
  have t2 := q2 ws h3
  rw [hv] at t1
  rw [hu] at t2
  cases t1
  cases t2
  subst e1
  subst e2
  obtain ⟨p1, p2⟩ := pair_ext (K := K) s3 hT (rv.up s1) (ru.up s1)
  refine ⟨_, _, ?_, p1, p2⟩
  rw [List.getElem?_map, zip_at (List.getElem?_eq_getElem hi1) (List.getElem?_eq_getElem hi2)]
  rfl
theorem walk_zipT {a b : Addr} {vs ws : List V} {ds es : List PyData} (ha : Z1 a = some (.tup vs)) (hb : Z1 b = some (.tup ws)) (r : RepL K Z1 vs ds) (r2 : RepL K Z1 ws es) : WalkD K Z1 H1 (RZ.ItzT K a b) ((ds.zip es).map fun p => .tuple [p.1, p.2]) := by
  intro Z H s1 s2 s3 i
  have h2 : SqT K H a vs := .of (s3 _ _ (s1.eq (fun z => z) ha))
  have h3 : SqT K H b ws := .of (s3 _ _ (s1.eq (fun z => z) hb))
  rw [List.length_map, List.length_zip]
  refine ⟨fun hi => ?_, fun hi => ⟨vs, ws, h2, h3, by rw [r.length, r2.length]; omega⟩⟩
  have hi1 : i < ds.length := by omega
  have hi2 : i < es.length := by omega
  obtain ⟨v, hv, rv⟩ := r.get (List.getElem?_eq_getElem hi1)
  obtain ⟨u, hu, ru⟩ := r2.get (List.getElem?_eq_getElem hi2)
  refine ⟨⟨vs, ws, v, u, h2, h3, hv, hu⟩, fun x H' ⟨T, y, z, e1, hT, e2, q1, q2⟩ => ?_⟩
  have t1 := q1 vs h2
  have t2 := q2 ws h3
  rw [hv] at t1
  rw [hu] at t2
  cases t1
  cases t2
  subst e1
  subst e2
  obtain ⟨p1, p2⟩ := pair_ext (K := K) s3 hT (rv.up s1) (ru.up s1)
  refine ⟨_, _, ?_, p1, p2⟩
  rw [List.getElem?_map, zip_at (List.getElem?_eq_getElem hi1) (List.getElem?_eq_getElem hi2)]
  rfl
theorem walk_range (lo : Int) (n : Nat) : WalkD K Z1 H1 (Itr lo n) ((List.range n).map fun (i : Nat) => .int (lo + i)) := by
  intro Z H s1 s2 s3 i
  rw [List.length_map, List.length_range]
  refine ⟨fun hi => ⟨hi, fun x H' ⟨e, y⟩ => ?_⟩, fun hi => by rw [hi]; exact Nat.le_refl _⟩
  subst e
  subst y
  exact ⟨Z, _, by rw [List.getElem?_map, List.getElem?_range hi]; rfl, Ext.refl s3, .int _⟩
theorem repK_get {Z : Hp} : ∀ {kvs : List (L2.Key × V)} {es : List (PyData × PyData)} {i : Nat} {p : PyData × PyData}, RepK K Z kvs es → es[i]? = some p → ∃ k v, kvs[i]? = some (k, v) ∧ p.1 = kD k ∧ Rep K Z v p.2
  | _, _, _, _, .nil, e => by simp at e
  | _, _, 0, _, .cons h _, e => by
    simp only [List.getElem?_cons_zero, Option.some.injEq] at e
    subst e
    exact ⟨_, _, rfl, rfl, h⟩
  | _, _, i + 1, _, .cons _ t, e => by
    simp only [List.getElem?_cons_succ] at e
    obtain ⟨k, v, h1, h2⟩ := repK_get (i := i) t e
    exact ⟨k, v, by simpa using h1, h2⟩
theorem repT_get {Z : Hp} : ∀ {kvs : List (List L2.Key × V)} {es : List (PyData × PyData)} {i : Nat} {p : PyData × PyData}, RepT K Z kvs es → es[i]? = some p → ∃ k v, kvs[i]? = some (k, v) ∧ p.1 = tD k ∧ Rep K Z v p.2
  | _, _, _, _, .nil, e => by simp at e
  | _, _, 0, _, .cons h _, e => by
    simp only [List.getElem?_cons_zero, Option.some.injEq] at e
    subst e
    exact ⟨_, _, rfl, rfl, h⟩
  | _, _, i + 1, _, .cons _ t, e => by
    simp only [List.getElem?_cons_succ] at e
    obtain ⟨k, v, h1, h2⟩ := repT_get (i := i) t e
    exact ⟨k, v, by simpa using h1, h2⟩
theorem kV_rep (Z : Hp) (k : L2.Key) : Rep K Z (kV k) (kD k) := by cases k <;> first | exact .int _ | exact .str _
theorem kVs_rep (Z : Hp) : ∀ ks : List L2.Key, RepL K Z (ks.map kV) (ks.map kD)
  | [] => .nil
  | k :: ks => .cons (kV_rep Z k) (kVs_rep Z ks)
theorem walk_keys {d : Addr} {o : Obj} {kvs : List (L2.Key × V)} {es : List (PyData × PyData)} (hd : H1 d = some (.frz o (.dK kvs))) (r : RepK K Z1 kvs es) : WalkD K Z1 H1 (Itk d o kvs) (es.map (·.1)) := by
  intro Z H s1 s2 s3 i
  rw [List.length_map]
  have h2 := s2.frz hd
  refine ⟨fun hi => ⟨⟨h2, by rw [r.length]; exact hi⟩, fun x H' ⟨e, k, v, hk, ex⟩ => ?_⟩, fun hi => ⟨h2, by rw [r.length, hi]; exact Nat.le_refl _⟩⟩
  subst e
  subst ex
  obtain ⟨k', v', q1, q2, _⟩ := repK_get r (List.getElem?_eq_getElem hi)
  rw [hk] at q1
  cases q1
  exact ⟨Z, _, by rw [List.getElem?_map, List.getElem?_eq_getElem hi]; rfl, Ext.refl s3, by show Rep K Z (kV k) (es[i]).1; rw [q2]; exact kV_rep Z k⟩
theorem walk_keysT {d : Addr} {o : Obj} {kvs : List (List L2.Key × V)} {es : List (PyData × PyData)} (hd : H1 d = some (.frz o (.dT kvs))) (r : RepT K Z1 kvs es) : WalkD K Z1 H1 (Itkt d o kvs) (es.map (·.1)) := by
  intro Z H s1 s2 s3 i
  rw [List.length_map]
  have h2 := s2.frz hd
  refine ⟨fun hi => ⟨⟨h2, by rw [r.length]; exact hi⟩, fun x H' ⟨e, k, v, q, hk, ex, hq⟩ => ?_⟩, fun hi => ⟨h2, by rw [r.length, hi]; exact Nat.le_refl _⟩⟩
  subst e
  subst ex
  obtain ⟨k', v', q1, q2, _⟩ := repT_get r (List.getElem?_eq_getElem hi)
  rw [hk] at q1
  cases q1
  exact ⟨tupZ Z H', _, by rw [List.getElem?_map, List.getElem?_eq_getElem hi]; rfl, tupZ_ext s3, by show Rep K _ _ (es[i]).1; rw [q2]; exact .tup (tupZ_at hq) (kVs_rep _ k)⟩
theorem walk_items {d : Addr} {o : Obj} {kvs : List (L2.Key × V)} {es : List (PyData × PyData)} (hd : H1 d = some (.frz o (.dK kvs))) (r : RepK K Z1 kvs es) : WalkD K Z1 H1 (Iti d o kvs) (es.map fun p => .tuple [p.1, p.2]) := by
  intro Z H s1 s2 s3 i
  rw [List.length_map]
  have h2 := s2.frz hd
  refine ⟨fun hi => ⟨⟨h2, by rw [r.length]; exact hi⟩, fun x H' ⟨T, k, v, hk, ex, hT, e⟩ => ?_⟩, fun hi => ⟨h2, by rw [r.length, hi]; exact Nat.le_refl _⟩⟩
  subst e
  subst ex
  obtain ⟨k', v', q1, q2, q3⟩ := repK_get r (List.getElem?_eq_getElem hi)
  rw [hk] at q1
  cases q1
  obtain ⟨p1, p2⟩ := pair_ext (K := K) s3 hT (kV_rep Z k) (q3.up s1)
  exact ⟨_, _, by rw [List.getElem?_map, List.getElem?_eq_getElem hi]; rfl, p1, by show Rep K _ _ (.tuple [(es[i]).1, (es[i]).2]); rw [q2]; exact p2⟩
end
end Tdl
/-! TdCore1: what an expression's run promises, by the evaluator. -/
namespace Tdl
open PySem PySem.W L2 PySem.Spec PyProof.Rows

/-- a result that is fine: a value under k, or a wished exception -/
def Fine {α : Type} (xw : String → Prop) (k : α → Prop) : Res α → Prop
  | .ok a => k a
  | .exc c => xw c
  | .err => False
theorem Fine.mono {α : Type} {xw xw' : String → Prop} {k k' : α → Prop} {r : Res α} (h : Fine xw k r) (hx : ∀ c, xw c → xw' c) (hk : ∀ a, k a → k' a) : Fine xw' k' r := by
  cases r with
  | ok a => exact hk a h
  | exc c => exact hx c h
  | err => exact h
theorem Fine.bd {α β : Type} {xw : String → Prop} {k : β → Prop} {r : Res α} {f : α → Res β} (h : Fine xw k (r.bd f)) : Fine xw (fun a => Fine xw k (f a)) r := by
  cases r with
  | ok a => exact h
  | exc c => exact h
  | err => exact h
theorem Fine.unbd {α β : Type} {xw : String → Prop} {k : β → Prop} {r : Res α} {f : α → Res β} (h : Fine xw (fun a => Fine xw k (f a)) r) : Fine xw k (r.bd f) := by
  cases r with
  | ok a => exact h
  | exc c => exact h
  | err => exact h
theorem Fine.pure {α : Type} {xw : String → Prop} {k : α → Prop} {r : Res α} (h : Fine xw k r) (n : ∀ c, r ≠ .exc c) : ∃ a, r = .ok a ∧ k a := by
  cases r with
  | ok a => exact ⟨a, rfl, h⟩
  | exc c => exact absurd rfl (n c)
  | err => exact h.elim
theorem Fine.gd {α : Type} {xw : String → Prop} {k : α → Prop} {c : Bool} {r : Res α} (h : Fine xw k (gd c r)) : c = true ∧ Fine xw k r := by
  cases c with
  | true => exact ⟨rfl, h⟩
  | false => exact h.elim
theorem gd_nx {α : Type} {c : Bool} {r : Res α} {x : String} (h : r ≠ .exc x) : gd c r ≠ .exc x := by
  cases c with
  | true => exact h
  | false => exact fun e => nomatch e
theorem calm_nx {α : Type} {r : Res α} {x : String} : calm r ≠ .exc x := by
  cases r <;> exact fun e => nomatch e
theorem binop_nx {o m d e c} : binop o m d e ≠ .exc c := by unfold binop; (repeat (first | split | (refine gd_nx ?_) | (intro h; cases h; done) | exact fun e => nomatch e))
theorem cmpop_nx {o d e c} : cmpop o d e ≠ .exc c := by unfold cmpop; (repeat (first | split | (refine gd_nx ?_) | (intro h; cases h; done) | exact fun e => nomatch e))
theorem idxop_nx {d e c} : idxop d e ≠ .exc c := by unfold idxop; (repeat (first | split | (refine gd_nx ?_) | (intro h; cases h; done) | exact fun e => nomatch e))
theorem slcop_nx {d l h c} : slcop d l h ≠ .exc c := by unfold slcop; (repeat (first | split | (refine gd_nx ?_) | (intro h; cases h; done) | exact fun e => nomatch e))
theorem revop_nx {d c} : revop d ≠ .exc c := by unfold revop; (repeat (first | split | (refine gd_nx ?_) | (intro h; cases h; done) | exact fun e => nomatch e))
theorem bltop_nx {b ds c} : bltop b ds ≠ .exc c := by unfold bltop; (repeat (first | split | (refine gd_nx ?_) | (intro h; cases h; done) | exact fun e => nomatch e))
theorem mthop_nx {m d ds c} : mthop m d ds ≠ .exc c := by unfold mthop; (repeat (first | split | (refine gd_nx ?_) | (intro h; cases h; done) | exact fun e => nomatch e))
theorem walkop_nx {k ds c} : walkop k ds ≠ .exc c := by unfold walkop; (repeat (first | split | (refine gd_nx ?_) | (intro h; cases h; done) | exact fun e => nomatch e))
theorem bl_nx {r c} : bl r ≠ .exc c := by unfold bl; (repeat (first | split | (refine gd_nx ?_) | (intro h; cases h; done) | exact fun e => nomatch e))
theorem fr_nx {r c} : fr r ≠ .exc c := by unfold fr; (repeat (first | split | (refine gd_nx ?_) | (intro h; cases h; done) | exact fun e => nomatch e))

/-- a slot -/
def SlO (K : Frag) (Z : Hp) (σ : L2.St) (H : Hp) (i : Nat) : SV → Prop
  | .un => True
  | .ex _ => True
  | .rv ⟨d, .im⟩ => ∃ v, σ[i]? = some (some v) ∧ Rep K Z v d
  | .rv ⟨d, .ow⟩ => ∃ a, σ[i]? = some (some (.ref a)) ∧ OwnR K Z H a d ∧ Z a = none
  | .rv ⟨d, .bo⟩ => ∃ a, σ[i]? = some (some (.ref a)) ∧ OwnR K Z H a d
def Sl (K : Frag) (Z : Hp) (env : Env) (σ : L2.St) (H : Hp) : Prop := env.length = σ.length ∧ ∀ i sv, env[i]? = some sv → SlO K Z σ H i sv
theorem SlO.up {K : Frag} {Z H Z1 H1 : Hp} {σ : L2.St} {i : Nat} (x : Ext Z H Z1 H1) : ∀ {sv : SV}, SlO K Z σ H i sv → SlO K Z1 σ H1 i sv
  | .un, h => h
  | .ex _, h => h
  | .rv ⟨d, .im⟩, ⟨v, e, r⟩ => ⟨v, e, r.up x.z⟩
  | .rv ⟨d, .ow⟩, ⟨a, e, r, z⟩ => ⟨a, e, r.upS x.z x.h, x.new a z r.nt⟩
  | .rv ⟨d, .bo⟩, ⟨a, e, r⟩ => ⟨a, e, r.upS x.z x.h⟩
theorem Sl.up {K : Frag} {Z H Z1 H1 : Hp} {σ : L2.St} {env : Env} (x : Ext Z H Z1 H1) (h : Sl K Z env σ H) : Sl K Z1 env σ H1 := ⟨h.1, fun i sv e => (h.2 i sv e).up x⟩
/-- an exception of class c, wished at the slots σ -/
def XWs (mg : Str → Option Value) (W : WX) (σ : L2.St) (Z H : Hp) (c : String) : Prop := ∀ C Z' H', mg (Str.ofString c) = some (.ref C) → Ext Z H Z' H' → W (.ref C) none σ H'
theorem XWs.up {mg : Str → Option Value} {W : WX} {σ : L2.St} {Z H Z1 H1 : Hp} {c : String} (x : Ext Z H Z1 H1) (h : XWs mg W σ Z H c) : XWs mg W σ Z1 H1 c := fun C Z' H' e y => h C Z' H' e (x.trans y)
def kR (K : Frag) (Z H : Hp) (Q : VK) (r : RV) : Prop := ∀ Z' H' v, Ext Z H Z' H' → RVr K H Z' H' r v → Q v H'
theorem kR.up {K : Frag} {Z H Z1 H1 : Hp} {Q : VK} {r : RV} (x : Ext Z H Z1 H1) (h : kR K Z H Q r) : kR K Z1 H1 Q r := fun Z' H' v y rv => h Z' H' v (x.trans y) (rv.back x.h)
theorem kR.im {K : Frag} {Z H Z1 H1 : Hp} {Q : VK} {d : PyData} {v : V} (h : kR K Z H Q (im d)) (x : Ext Z H Z1 H1) (r : Rep K Z1 v d) : Q v H1 := h Z1 H1 v x r
section
variable (Φ : Fns) (K : Frag) (mg : Str → Option Value) (W : WX)
/-- an expression, by the evaluator -/
def TEv (x : Ex) : TE := fun σ H Q => ∃ Z env, Sl K Z env σ H ∧ Same Z H ∧ Fine (XWs mg W σ Z H) (kR K Z H Q) (ev Φ x env)
/-- a test -/
def TTv (x : Ex) : TT := fun σ H Q => ∃ Z env, Sl K Z env σ H ∧ Same Z H ∧ Fine (XWs mg W σ Z H) (fun c => ∀ Z' H', Ext Z H Z' H' → Q c H') ((ev Φ x env).bd bl)
/-- items given away -/
def TAs (es : List Ex) : TA := fun σ H Q => ∃ Z env, Sl K Z env σ H ∧ Same Z H ∧ Fine (XWs mg W σ Z H) (fun ds => ∀ Z' H' vs, Ext Z H Z' H' → RepL K Z' vs ds → Q vs H') (evs Φ es env)
/-- items looked at -/
def TAl (es : List Ex) : TA := fun σ H Q => ∃ Z env, Sl K Z env σ H ∧ Same Z H ∧ Fine (XWs mg W σ Z H) (fun ds => ∀ Z' H' vs, Ext Z H Z' H' → RedL K Z' H' vs ds → Q vs H') (evl Φ es env)
end
section
variable {Φ : Fns} {X : Cx} {W : WX} {x y : Ex} {e f : Expr} {xs : List Ex} {es : List Expr}
abbrev PEv (Φ : Fns) (X : Cx) (W : WX) (e : Expr) (x : Ex) : Prop := PE X e (TEv Φ X.K X.mg W x)
abbrev PTv (Φ : Fns) (X : Cx) (W : WX) (e : Expr) (x : Ex) : Prop := PT X e (TTv Φ X.K X.mg W x)
abbrev PAs (Φ : Fns) (X : Cx) (W : WX) (es : List Expr) (xs : List Ex) : Prop := PA X es (TAs Φ X.K X.mg W xs)
abbrev PAl (Φ : Fns) (X : Cx) (W : WX) (es : List Expr) (xs : List Ex) : Prop := PA X es (TAl Φ X.K X.mg W xs)
theorem PE.imp {e : Expr} {t t' : TE} (h : PE X e t) (i : ∀ σ H Q, t' σ H Q → t σ H Q) : PE X e t' := ⟨fun pins s σ H Q I hw => h.run pins s σ H Q I (i σ H Q hw)⟩
theorem PT.imp {e : Expr} {t t' : TT} (h : PT X e t) (i : ∀ σ H Q, t' σ H Q → t σ H Q) : PT X e t' := ⟨fun pins s σ H Q I hw => h.run pins s σ H Q I (i σ H Q hw)⟩
variable {pins : List (Addr × Obj)} {s : Shared} {σ : L2.St} {H Z : Hp} {env : Env}
theorem PEv.go (hp : PEv Φ X W e x) (I : L2.Inv X pins σ H s) (sl : Sl X.K Z env σ H) (i : Same Z H) {k : RV → Prop} (hf : Fine (XWs X.mg W σ Z H) k (ev Φ x env)) {Qr : Value → Shared → Prop}
    (hk : ∀ r, k r → ∀ v u s1 Z1 H1, L2.Inv X pins σ H1 s1 → RelV v u → Ext Z H Z1 H1 → RVr X.K H Z1 H1 r v → Qr u s1) : wpAny (model X.prog X.w) X.A (eval e X.env) Qr X.xe s := by
  refine thn (hp.run pins s σ H (fun v H1 => ∃ Z1 r, Ext Z H Z1 H1 ∧ RVr X.K H Z1 H1 r v ∧ k r) I ⟨Z, env, sl, i, hf.mono (fun _ h => h) fun r hr Z' H' v x rv => ⟨Z', r, x, rv, hr⟩⟩) fun u s1 ⟨v, H1, I1, rv, Z1, r, x1, rr, kr⟩ => ?_
  exact hk r kr v u s1 Z1 H1 I1 rv x1 rr
theorem PTv.go (hp : PTv Φ X W e x) (I : L2.Inv X pins σ H s) (sl : Sl X.K Z env σ H) (i : Same Z H) {k : Bool → Prop} (hf : Fine (XWs X.mg W σ Z H) k ((ev Φ x env).bd bl)) {Qr : Bool → Shared → Prop}
    (hk : ∀ c, k c → ∀ s1 Z1 H1, L2.Inv X pins σ H1 s1 → Ext Z H Z1 H1 → Qr c s1) : wpAny (model X.prog X.w) X.A (isTrue e X.env (eval e X.env)) Qr X.xe s := by
  refine thn (hp.run pins s σ H (fun c H1 => ∃ Z1, Ext Z H Z1 H1 ∧ k c) I ⟨Z, env, sl, i, hf.mono (fun _ h => h) fun c hc Z' H' x => ⟨Z', x, hc⟩⟩) fun c s1 ⟨H1, I1, Z1, x1, kc⟩ => ?_
  exact hk c kc s1 Z1 H1 I1 x1
theorem pev_of (h : ∀ pins s σ H Q Z env, L2.Inv X pins σ H s → Sl X.K Z env σ H → Same Z H → Fine (XWs X.mg W σ Z H) (kR X.K Z H Q) (ev Φ x env) → wpAny (model X.prog X.w) X.A (eval e X.env) (EP X pins σ Q) X.xe s) : PEv Φ X W e x :=
  ⟨fun pins s σ H Q I ⟨Z, env, sl, i, hf⟩ => h pins s σ H Q Z env I sl i hf⟩
theorem ptv_of (h : ∀ pins s σ H Q Z env, L2.Inv X pins σ H s → Sl X.K Z env σ H → Same Z H → Fine (XWs X.mg W σ Z H) (fun c => ∀ Z' H', Ext Z H Z' H' → Q c H') ((ev Φ x env).bd bl) → wpAny (model X.prog X.w) X.A (isTrue e X.env (eval e X.env)) (TP X pins σ Q) X.xe s) : PTv Φ X W e x :=
  ⟨fun pins s σ H Q I ⟨Z, env, sl, i, hf⟩ => h pins s σ H Q Z env I sl i hf⟩

/-! ### the small ones -/
theorem pv_var {i : Nat} {n : Str} {pos : Pos} (hN : X.N[i]? = some n) (hv : Vis X.env.scope n) (h1 : (n == ("__debug__" : Str)) = false) (h2 : (n == ("__classdict__" : Str)) = false) : PEv Φ X W (.Name n pos) (.var i) := by
  refine PE.imp (pe_var hN hv h1 h2) fun σ H Q ⟨Z, env, sl, i', hf⟩ => ?_
  unfold ev look at hf
  split at hf
  · rename_i d he
    obtain ⟨v, e, r⟩ := sl.2 _ _ he
    exact ⟨v, e, hf Z H v (Ext.refl i') r⟩
  · rename_i d he
    obtain ⟨a, e, r, _⟩ := sl.2 _ _ he
    exact ⟨_, e, hf Z H _ (Ext.refl i') ⟨a, rfl, r⟩⟩
  · rename_i d he
    obtain ⟨a, e, r⟩ := sl.2 _ _ he
    exact ⟨_, e, hf Z H _ (Ext.refl i') ⟨a, rfl, r⟩⟩
  · exact hf.elim
def cstB (d : PyData) : Const → Bool
  | .none => match d with | .none => true | _ => false
  | .bool b => match d with | .bool c => b == c | _ => false
  | .int b => match d with | .int c => b == c | _ => false
  | .str b => match d with | .str c => b == c | _ => false
  | _ => false
theorem pv_cst {d : PyData} {c : Const} {k : Nat} {pos : Pos} (h : cstB d c = true) : PEv Φ X W (.Constant c k pos) (.cst d) := by
  cases c with
  | none =>
    cases d <;> first | (cases h; done) | skip
    exact PE.imp pe_non fun σ H Q ⟨Z, env, sl, i, hf⟩ => by unfold ev at hf; exact hf Z H _ (Ext.refl i) .non
  | bool b =>
    cases d <;> first | (cases h; done) | skip
    rename_i c
    obtain rfl : b = c := by simpa [cstB] using h
    exact PE.imp pe_bl fun σ H Q ⟨Z, env, sl, i, hf⟩ => by unfold ev at hf; exact hf Z H _ (Ext.refl i) (.bl _)
  | int b =>
    cases d <;> first | (cases h; done) | skip
    rename_i c
    obtain rfl : b = c := by simpa [cstB] using h
    exact PE.imp pe_int fun σ H Q ⟨Z, env, sl, i, hf⟩ => by unfold ev at hf; exact hf Z H _ (Ext.refl i) (.int _)
  | str b =>
    cases d <;> first | (cases h; done) | skip
    rename_i c
    obtain rfl : b = c := by simpa [cstB] using h
    exact PE.imp pe_str fun σ H Q ⟨Z, env, sl, i, hf⟩ => by unfold ev at hf; exact hf Z H _ (Ext.refl i) (.str _)
  | _ => cases d <;> cases h
/-- a constant of the module -/
theorem pv_glb {g : String} {d : PyData} {n : Str} {u : Value} {v : V} {pos : Pos} (hg : Gl X n) (hm : X.mg n = some u) (r : RelV v u) (rr : ∀ Z, Rep X.K Z v d) (h1 : (n == ("__debug__" : Str)) = false) : PEv Φ X W (.Name n pos) (.glb g d) :=
  PE.imp (pe_glob hg hm r h1) fun σ H Q ⟨Z, env, sl, i, hf⟩ => by unfold ev at hf; exact hf Z H _ (Ext.refl i) (rr Z)
theorem pv_bin {o : Bo} {a b : Ex} {a' b' : Expr} {pos : Pos} (ha : PEv Φ X W a' a) (hb : PEv Φ X W b' b) : PEv Φ X W (.BinOp a' (boP o) b' pos) (.bin o a b) := by
  refine pev_of fun pins s σ H Q Z env I sl i hf => ?_
  unfold ev at hf
  refine wpAny_BinOp (ha.go I sl i hf.bd fun r1 hr1 v1 u1 s1 Z1 H1 I1 rv1 x1 rr1 => ?_)
  refine hb.go I1 (sl.up x1) x1.in_ (hr1.bd.mono (fun c h => h.up x1) fun _ h => h) fun r2 hr2 v2 u2 s2 Z2 H2 I2 rv2 x2 rr2 => ?_
  obtain ⟨r, er, hq⟩ := hr2.pure fun c => binop_nx
  exact op_bin o pins s2 σ H2 v1 v2 u1 u2 Q I2 rv1 rv2 ⟨Z2, r1, r2, r, x2.in_, (rr1.rd2).up x2, rr2.rd2, er, hq.up (x1.trans x2)⟩
theorem pv_neg {a : Ex} {a' : Expr} {pos : Pos} (ha : PEv Φ X W a' a) : PEv Φ X W (.UnaryOp .USub a' pos) (.neg a) := by
  refine pev_of fun pins s σ H Q Z env I sl i hf => ?_
  unfold ev at hf
  refine UnaryOp_ (ha.go I sl i hf.bd fun r1 hr1 v1 u1 s1 Z1 H1 I1 rv1 x1 rr1 => ?_)
  split at hr1
  · rename_i n hn
    have hd := rr1.red
    rw [hn] at hd
    cases hd.int
    exact un_neg pins s1 σ H1 _ u1 Q I1 rv1 ⟨n, rfl, kR.im hr1 x1 (.int _)⟩
  · exact hr1.elim
theorem pv_cmp {o : Co} {a b : Ex} {a' b' : Expr} {pos : Pos} (hu : X.A.units + 64 < cLine) (ha : PEv Φ X W a' a) (hb : PEv Φ X W b' b) (hm : behindInMarks (coP o) b' = false) : PEv Φ X W (.Compare a' [coP o] [b'] pos) (.cmp o a b) := by
  refine pev_of fun pins s σ H Q Z env I sl i hf => ?_
  unfold ev at hf
  refine wpAny_Compare1 (ha.go I sl i hf.bd fun r1 hr1 v1 u1 s1 Z1 H1 I1 rv1 x1 rr1 => ?_) hm
  refine hb.go I1 (sl.up x1) x1.in_ (hr1.bd.mono (fun c h => h.up x1) fun _ h => h) fun r2 hr2 v2 u2 s2 Z2 H2 I2 rv2 x2 rr2 => ?_
  obtain ⟨c, ec, hq⟩ := hr2.bd.pure fun c => cmpop_nx
  exact op_cmp hu o pins s2 σ H2 v1 v2 u1 u2 Q I2 rv1 rv2 ⟨Z2, r1.d, r2.d, c, x2.in_, rr1.red.up x2, rr2.red, ec, kR.im hq (x1.trans x2) (.bl _)⟩
theorem pt_cmp' {o : Co} {a b : Ex} {a' b' : Expr} {pos : Pos} (hu : X.A.units + 64 < cLine) (ha : PEv Φ X W a' a) (hb : PEv Φ X W b' b) (hm : behindInMarks (coP o) b' = false) : PTv Φ X W (.Compare a' [coP o] [b'] pos) (.cmp o a b) := by
  refine ptv_of fun pins s σ H Q Z env I sl i hf => ?_
  unfold ev at hf
  refine wpAny_isTrue_Compare1 (ha.go I sl i hf.bd.bd fun r1 hr1 v1 u1 s1 Z1 H1 I1 rv1 x1 rr1 => ?_) hm
  refine hb.go I1 (sl.up x1) x1.in_ (hr1.bd.mono (fun c h => h.up x1) fun _ h => h) fun r2 hr2 v2 u2 s2 Z2 H2 I2 rv2 x2 rr2 => ?_
  obtain ⟨c, ec, hq⟩ := hr2.bd.pure fun c => cmpop_nx
  refine thn (op_cmp hu o pins s2 σ H2 v1 v2 u1 u2 (fun v H' => v = .bl c ∧ H' = H2) I2 rv1 rv2 ⟨Z2, r1.d, r2.d, c, x2.in_, rr1.red.up x2, rr2.red, ec, rfl, rfl⟩) fun u3 s3 ⟨v3, H3, I3, rv3, e3, e4⟩ => ?_
  subst e3
  subst e4
  cases rv3
  exact wpAny_truthy_bool ⟨_, I3, hq Z2 _ (x1.trans x2)⟩
end
end Tdl
/-! TdCore2: more expressions. -/
namespace Tdl
open PySem PySem.W L2 PySem.Spec PyProof.Rows
section
variable {Φ : Fns} {X : Cx} {W : WX} {x y : Ex} {e f : Expr} {xs : List Ex} {es : List Expr}
variable {pins : List (Addr × Obj)} {s : Shared} {σ : L2.St} {H Z : Hp} {env : Env}
/-! ### tests -/
def plainT : Expr → Bool
  | .UnaryOp .Not _ _ => false
  | .BoolOp _ _ _ => false
  | .IfExp _ _ _ _ => false
  | .Compare _ _ _ _ => false
  | _ => true
theorem plainT_is {e : Expr} {en : PySem.Env} (h : plainT e = true) (whole : Sem Value) : isTrue e en whole = (do let v ← whole; standAt e.pos; holding [v] (truthy v)) := by
  cases e <;> first | (cases h; done) | rfl | skip
  rename_i op a p
  cases op <;> first | (cases h; done) | rfl
theorem pt_of_pe (he : PEv Φ X W e x) (h : plainT e = true) : PTv Φ X W e x := by
  refine ptv_of fun pins s σ H Q Z env I sl i hf => ?_
  refine isTrue_plain (he.go I sl i hf.bd fun r hr v u s1 Z1 H1 I1 rv x1 rr => ?_) (plainT_is h _)
  obtain ⟨c, ec, hq⟩ := hr.pure fun c => bl_nx
  have hd := rr.red
  unfold bl at ec
  split at ec
  · rename_i b hb
    cases ec
    rw [hb] at hd
    cases hd.bool
    cases rv
    exact wpAny_truthy_bool ⟨H1, I1, hq Z1 H1 x1⟩
  · cases ec
/-- a value that is a bool -/
theorem bl_of {r : RV} {c : Bool} {v : V} {Z' H' : Hp} {H0 : Hp} (h : bl r = .ok c) (rr : RVr X.K H0 Z' H' r v) : v = .bl c ∧ r.d = .bool c := by
  unfold bl at h
  split at h
  · rename_i b hb
    cases h
    have hd := rr.red
    rw [hb] at hd
    exact ⟨hd.bool, hb⟩
  · cases h
theorem pv_nt {a : Ex} {a' : Expr} {pos : Pos} (ha : PEv Φ X W a' a) : PEv Φ X W (.UnaryOp .Not a' pos) (.nt a) := by
  refine pev_of fun pins s σ H Q Z env I sl i hf => ?_
  unfold ev at hf
  refine UnaryOp_ (ha.go I sl i hf.bd fun r1 hr1 v1 u1 s1 Z1 H1 I1 rv1 x1 rr1 => ?_)
  obtain ⟨c, ec, hq⟩ := hr1.bd.pure fun c => bl_nx
  obtain ⟨rfl, _⟩ := bl_of ec rr1
  cases rv1
  exact not_of (wpAny_truthy_bool ⟨.bl (!c), H1, I1, rfl, kR.im hq x1 (.bl _)⟩)
theorem pt_nt {a : Ex} {a' : Expr} {pos : Pos} (ha : PTv Φ X W a' a) : PTv Φ X W (.UnaryOp .Not a' pos) (.nt a) := by
  refine ptv_of fun pins s σ H Q Z env I sl i hf => ?_
  unfold ev at hf
  have hf' : Fine (XWs X.mg W σ Z H) (fun c => ∀ Z' H', Ext Z H Z' H' → Q (!c) H') ((ev Φ a env).bd bl) := by
    cases h : ev Φ a env with
    | ok r =>
      rw [h] at hf
      simp only [bd_ok] at hf ⊢
      cases h2 : bl r with
      | ok c =>
        rw [h2] at hf
        exact hf
      | exc c => exact absurd h2 bl_nx
      | err => rw [h2] at hf; exact hf.elim
    | exc c =>
      rw [h] at hf
      exact hf
    | err => rw [h] at hf; exact hf.elim
  exact isTrue_not (ha.go I sl i hf' fun c hc s1 Z1 H1 I1 x1 => ⟨H1, I1, hc Z1 H1 x1⟩)
theorem pv_ite {c a b : Ex} {c' a' b' : Expr} {pos : Pos} (hc : PTv Φ X W c' c) (ha : PEv Φ X W a' a) (hb : PEv Φ X W b' b) : PEv Φ X W (.IfExp c' a' b' pos) (.ite c a b) := by
  refine pev_of fun pins s σ H Q Z env I sl i hf => ?_
  unfold ev at hf
  have hf' : Fine (XWs X.mg W σ Z H) (fun k => Fine (XWs X.mg W σ Z H) (kR X.K Z H Q) (match k with | true => ev Φ a env | false => ev Φ b env)) ((ev Φ c env).bd bl) := by
    cases h : ev Φ c env with
    | ok r =>
      rw [h] at hf
      simp only [bd_ok] at hf ⊢
      exact hf.bd
    | exc c =>
      rw [h] at hf
      exact hf
    | err => rw [h] at hf; exact hf.elim
  refine wpAny_IfExp (hc.go I sl i hf' fun k hk s1 Z1 H1 I1 x1 => ?_)
  cases k with
  | true => exact ha.go I1 (sl.up x1) x1.in_ (hk.mono (fun c h => h.up x1) fun r h => h.up x1) fun r hr v u s2 Z2 H2 I2 rv x2 rr => ⟨v, H2, I2, rv, hr Z2 H2 v x2 rr⟩
  | false => exact hb.go I1 (sl.up x1) x1.in_ (hk.mono (fun c h => h.up x1) fun r h => h.up x1) fun r hr v u s2 Z2 H2 I2 rv x2 rr => ⟨v, H2, I2, rv, hr Z2 H2 v x2 rr⟩
theorem pv_chn {o p : Co} {a b c : Ex} {a' b' c' : Expr} {pos : Pos} (hu : X.A.units + 64 < cLine) (ha : PEv Φ X W a' a) (hb : PEv Φ X W b' b) (hc : PEv Φ X W c' c) (hm : lastMarks [coP o, coP p] [b', c'] = false) :
    PEv Φ X W (.Compare a' [coP o, coP p] [b', c'] pos) (.chn o p a b c) := by
  refine pev_of fun pins s σ H Q Z env I sl i hf => ?_
  unfold ev at hf
  refine Compare_chain (ha.go I sl i hf.bd fun r1 hr1 v1 u1 s1 Z1 H1 I1 rv1 x1 rr1 => chain_link ?_) hm
  refine hb.go I1 (sl.up x1) x1.in_ (hr1.bd.mono (fun c h => h.up x1) fun _ h => h) fun r2 hr2 v2 u2 s2 Z2 H2 I2 rv2 x2 rr2 => ?_
  obtain ⟨k, ek, hq⟩ := hr2.bd.pure fun c => cmpop_nx
  refine thn (op_cmp hu o pins s2 σ H2 v1 v2 u1 u2 (fun v H' => v = .bl k ∧ H' = H2) I2 rv1 rv2 ⟨Z2, r1.d, r2.d, k, x2.in_, rr1.red.up x2, rr2.red, ek, rfl, rfl⟩) fun u3 s3 ⟨v3, H3, I3, rv3, e3, e4⟩ => ?_
  subst e3
  subst e4
  cases rv3
  refine wpAny_truthy_bool ?_
  have x12 := x1.trans x2
  cases k with
  | false => exact ite_ff ⟨.bl false, _, I3, rfl, kR.im hq x12 (.bl _)⟩
  | true =>
    refine ite_tt (chain_last (hc.go I3 (sl.up x12) x2.in_ (hq.bd.mono (fun c h => h.up x12) fun _ h => h) fun r4 hr4 v4 u4 s4 Z4 H4 I4 rv4 x4 rr4 => ?_))
    obtain ⟨l, el, hl⟩ := hr4.bd.pure fun c => cmpop_nx
    exact op_cmp hu p pins s4 σ H4 v2 v4 u2 u4 Q I4 rv2 rv4 ⟨Z4, r2.d, r4.d, l, x4.in_, rr2.red.up x4, rr4.red, el, kR.im hl (x12.trans x4) (.bl _)⟩
theorem pt_chn {o p : Co} {a b c : Ex} {a' b' c' : Expr} {pos : Pos} (hu : X.A.units + 64 < cLine) (ha : PEv Φ X W a' a) (hb : PEv Φ X W b' b) (hc : PEv Φ X W c' c) (hm : lastMarks [coP o, coP p] [b', c'] = false) :
    PTv Φ X W (.Compare a' [coP o, coP p] [b', c'] pos) (.chn o p a b c) := by
  refine ptv_of fun pins s σ H Q Z env I sl i hf => ?_
  unfold ev at hf
  refine isTrue_chain (ha.go I sl i hf.bd.bd fun r1 hr1 v1 u1 s1 Z1 H1 I1 rv1 x1 rr1 => test_link ?_) hm
  refine hb.go I1 (sl.up x1) x1.in_ (hr1.bd.mono (fun c h => h.up x1) fun _ h => h) fun r2 hr2 v2 u2 s2 Z2 H2 I2 rv2 x2 rr2 => ?_
  obtain ⟨k, ek, hq⟩ := hr2.bd.pure fun c => cmpop_nx
  refine thn (op_cmp hu o pins s2 σ H2 v1 v2 u1 u2 (fun v H' => v = .bl k ∧ H' = H2) I2 rv1 rv2 ⟨Z2, r1.d, r2.d, k, x2.in_, rr1.red.up x2, rr2.red, ek, rfl, rfl⟩) fun u3 s3 ⟨v3, H3, I3, rv3, e3, e4⟩ => ?_
  subst e3
  subst e4
  cases rv3
  refine wpAny_truthy_bool ?_
  have x12 := x1.trans x2
  cases k with
  | false => exact ite_ff ⟨_, I3, hq Z2 _ x12⟩
  | true =>
    refine ite_tt (test_last (hc.go I3 (sl.up x12) x2.in_ (hq.bd.mono (fun c h => h.up x12) fun _ h => h) fun r4 hr4 v4 u4 s4 Z4 H4 I4 rv4 x4 rr4 => ?_))
    obtain ⟨l, el, hl⟩ := hr4.bd.pure fun c => cmpop_nx
    refine thn (op_cmp hu p pins s4 σ H4 v2 v4 u2 u4 (fun v H' => v = .bl l ∧ H' = H4) I4 rv2 rv4 ⟨Z4, r2.d, r4.d, l, x4.in_, rr2.red.up x4, rr4.red, el, rfl, rfl⟩) fun u5 s5 ⟨v5, H5, I5, rv5, e5, e6⟩ => ?_
    subst e5
    subst e6
    cases rv5
    exact wpAny_truthy_bool ⟨_, I5, hl Z4 _ (x12.trans x4)⟩
/-! ### and, or -/
def bopP (k : Bool) : BoolOp := if k then .And else .Or
def TEb (Φ : Fns) (K : Frag) (mg : Str → Option Value) (W : WX) (k : Bool) (es : List Ex) : TE := fun σ H Q => ∃ Z env, Sl K Z env σ H ∧ Same Z H ∧ Fine (XWs mg W σ Z H) (kR K Z H Q) (evb Φ k es env)
def TTb (Φ : Fns) (K : Frag) (mg : Str → Option Value) (W : WX) (k : Bool) (es : List Ex) : TT := fun σ H Q => ∃ Z env, Sl K Z env σ H ∧ Same Z H ∧ Fine (XWs mg W σ Z H) (fun c => ∀ Z' H', Ext Z H Z' H' → Q c H') ((evb Φ k es env).bd bl)
def bstep (c k : Bool) (R : Res RV) : Res RV := match c, k with
  | true, true => R
  | false, false => R
  | true, false => .ok (im (.bool true))
  | false, true => .ok (im (.bool false))
theorem pb_one {k : Bool} {a : Ex} {a' : Expr} {pos : Pos} (ha : PEv Φ X W a' a) : PE X (.BoolOp (bopP k) [a'] pos) (TEb Φ X.K X.mg W k [a]) :=
  PE.imp (pe_one ha) fun σ H Q ⟨Z, env, sl, i, hf⟩ => ⟨Z, env, sl, i, by unfold evb at hf; exact hf⟩
theorem pb_cons {k : Bool} {a b : Ex} {r : List Ex} {a' b' : Expr} {r' : List Expr} {pos : Pos} (ha : PEv Φ X W a' a) (hb : PE X (.BoolOp (bopP k) (b' :: r') pos) (TEb Φ X.K X.mg W k (b :: r))) :
    PE X (.BoolOp (bopP k) (a' :: b' :: r') pos) (TEb Φ X.K X.mg W k (a :: b :: r)) := by
  refine ⟨fun pins s σ H Q I ⟨Z, env, sl, i, hf⟩ => ?_⟩
  unfold evb at hf
  have core : wpAny (model X.prog X.w) X.A (eval a' X.env) (fun u1 s1 => ∃ (c : Bool) (Z1 H1 : Hp), u1 = .bool c ∧ L2.Inv X pins σ H1 s1 ∧ Ext Z H Z1 H1 ∧
      Fine (XWs X.mg W σ Z H) (kR X.K Z H Q) (bstep c k (evb Φ k (b :: r) env))) X.xe s := by
    refine ha.go I sl i hf.bd fun r1 hr1 v1 u1 s1 Z1 H1 I1 rv1 x1 rr1 => ?_
    obtain ⟨c, ec, hq⟩ := hr1.bd.pure fun c => bl_nx
    obtain ⟨rfl, _⟩ := bl_of ec rr1
    cases rv1
    exact ⟨c, Z1, H1, rfl, I1, x1, by cases c <;> cases k <;> exact hq⟩
  cases k with
  | true =>
    refine BoolOp_and (thn core fun u1 s1 ⟨c, Z1, H1, e1, I1, x1, hq⟩ => ?_)
    subst e1
    refine wpAny_truthy_bool ?_
    cases c with
    | true => exact hb.run pins s1 σ H1 Q I1 ⟨Z1, env, sl.up x1, x1.in_, hq.mono (fun c h => h.up x1) fun r h => h.up x1⟩
    | false => exact ⟨.bl false, H1, I1, rfl, kR.im hq x1 (.bl _)⟩
  | false =>
    refine BoolOp_or (thn core fun u1 s1 ⟨c, Z1, H1, e1, I1, x1, hq⟩ => ?_)
    subst e1
    refine wpAny_truthy_bool ?_
    cases c with
    | false => exact hb.run pins s1 σ H1 Q I1 ⟨Z1, env, sl.up x1, x1.in_, hq.mono (fun c h => h.up x1) fun r h => h.up x1⟩
    | true => exact ⟨.bl true, H1, I1, rfl, kR.im hq x1 (.bl _)⟩
theorem ptb_one {k : Bool} {a : Ex} {a' : Expr} {pos : Pos} (ha : PTv Φ X W a' a) : PW X (.BoolOp (bopP k) [a'] pos) (TTb Φ X.K X.mg W k [a]) := by
  cases k with
  | true => exact ⟨fun wh pins s σ H Q I ⟨Z, env, sl, i, hf⟩ => (pw_and1 ha).run wh pins s σ H Q I ⟨Z, env, sl, i, by unfold evb at hf; exact hf⟩⟩
  | false => exact ⟨fun wh pins s σ H Q I ⟨Z, env, sl, i, hf⟩ => (pw_or1 ha).run wh pins s σ H Q I ⟨Z, env, sl, i, by unfold evb at hf; exact hf⟩⟩
theorem ptb_cons {k : Bool} {a b : Ex} {r : List Ex} {a' b' : Expr} {r' : List Expr} {pos : Pos} (ha : PTv Φ X W a' a) (hb : PW X (.BoolOp (bopP k) (b' :: r') pos) (TTb Φ X.K X.mg W k (b :: r))) :
    PW X (.BoolOp (bopP k) (a' :: b' :: r') pos) (TTb Φ X.K X.mg W k (a :: b :: r)) := by
  refine ⟨fun wh pins s σ H Q I ⟨Z, env, sl, i, hf⟩ => ?_⟩
  unfold evb at hf
  have hf' : Fine (XWs X.mg W σ Z H) (fun c => Fine (XWs X.mg W σ Z H) (fun c => ∀ Z' H', Ext Z H Z' H' → Q c H') ((bstep c k (evb Φ k (b :: r) env)).bd bl)) ((ev Φ a env).bd bl) := by
    cases h : ev Φ a env with
    | ok q =>
      rw [h] at hf
      simp only [bd_ok] at hf ⊢
      exact hf.bd.bd.mono (fun _ h => h) fun c hc => by cases c <;> cases k <;> exact Fine.unbd hc
    | exc c =>
      rw [h] at hf
      exact hf
    | err => rw [h] at hf; exact hf.elim
  cases k with
  | true =>
    refine isTrue_and (ha.go I sl i hf' fun c hc s1 Z1 H1 I1 x1 => ?_)
    cases c with
    | true => exact hb.run wh pins s1 σ H1 Q I1 ⟨Z1, env, sl.up x1, x1.in_, hc.mono (fun c h => h.up x1) fun c h Z' H' y => h Z' H' (x1.trans y)⟩
    | false => exact ⟨H1, I1, hc Z1 H1 x1⟩
  | false =>
    refine isTrue_or (ha.go I sl i hf' fun c hc s1 Z1 H1 I1 x1 => ?_)
    cases c with
    | false => exact hb.run wh pins s1 σ H1 Q I1 ⟨Z1, env, sl.up x1, x1.in_, hc.mono (fun c h => h.up x1) fun c h Z' H' y => h Z' H' (x1.trans y)⟩
    | true => exact ⟨H1, I1, hc Z1 H1 x1⟩
/-! ### items, slices -/
def plainIxB : Expr → Bool
  | .Slice _ _ _ _ => false
  | _ => true
theorem plainIx_is {b : Expr} (h : plainIxB b = true) : PlainIx b := by
  intro o i
  cases b <;> first | (cases h; done) | rfl
theorem pv_idx {a b : Ex} {a' b' : Expr} {pos : Pos} (hu : X.A.units + 64 < cLine) (ha : PEv Φ X W a' a) (hb : PEv Φ X W b' b) (hs : plainIxB b' = true) : PEv Φ X W (.Subscript a' b' pos) (.idx a b) := by
  refine pev_of fun pins s σ H Q Z env I sl i hf => ?_
  unfold ev at hf
  refine Subscript_ (ha.go I sl i hf.bd fun r1 hr1 v1 u1 s1 Z1 H1 I1 rv1 x1 rr1 => ?_)
  refine hb.go I1 (sl.up x1) x1.in_ (hr1.bd.mono (fun c h => h.up x1) fun _ h => h) fun r2 hr2 v2 u2 s2 Z2 H2 I2 rv2 x2 rr2 => ?_
  obtain ⟨z, ez, hq⟩ := hr2.bd.pure fun c => idxop_nx
  exact ix_all hu a' b' pins s2 σ H2 v1 v2 u1 u2 Q I2 rv1 rv2 ⟨Z2, r1.d, r2.d, z, x2.in_, rr1.red.up x2, rr2.red, ez, fun v rep => kR.im hq (x1.trans x2) rep⟩ (plainIx_is hs u1 u2)
theorem pv_rev {a : Ex} {a' : Expr} {k : Nat} {p1 p2 p3 pos : Pos} (ha : PEv Φ X W a' a) : PEv Φ X W (.Subscript a' (.Slice none none (some (.UnaryOp .USub (.Constant (.int 1) k p1) p2)) p3) pos) (.rev a) := by
  refine PE.imp (pe_rev ha) fun σ H Q ⟨Z, env, sl, i, hf⟩ => ⟨Z, env, sl, i, ?_⟩
  unfold ev at hf
  refine hf.bd.mono (fun _ h => h) fun r1 hr1 Z1 H1 v1 x1 rr1 => ?_
  obtain ⟨r, er, hq⟩ := hr1.pure fun c => revop_nx
  exact ⟨Z1, r1.d, r, x1.in_, rr1.red, er, hq.up x1⟩
/-- a bound of a slice -/
def TPo (Φ : Fns) (K : Frag) (mg : Str → Option Value) (W : WX) (x : Ex) : TO := fun σ H Q => ∃ Z env, Sl K Z env σ H ∧ Same Z H ∧ Fine (XWs mg W σ Z H) (fun o => ∀ Z' H', Ext Z H Z' H' → Q o H') (evp Φ x env)
theorem po_ev {a' : Expr} {a : Ex} (ha : PEv Φ X W a' a) (hn : a ≠ .nil) : PO X (some a') (TPo Φ X.K X.mg W a) := by
  refine ⟨fun pins s σ H Q I ⟨Z, env, sl, i, hf⟩ => ?_⟩
  refine (po_some ha).run pins s σ H Q I ⟨Z, env, sl, i, ?_⟩
  have e : evp Φ a env = (ev Φ a env).bd fun x => match x.d with | .int i => .ok (some i) | _ => .err := by
    cases a <;> first | exact absurd rfl hn | (unfold evp; rfl)
  rw [e] at hf
  refine hf.bd.mono (fun _ h => h) fun r hr Z1 H1 v1 x1 rr1 => ?_
  have hd := rr1.red
  split at hr
  · rename_i n en
    rw [en] at hd
    exact ⟨n, hd.int, hr Z1 H1 x1⟩
  · exact hr.elim
theorem po_nil : PO X none (TPo Φ X.K X.mg W .nil) := by
  refine ⟨fun pins s σ H Q I ⟨Z, env, sl, i, hf⟩ => ?_⟩
  unfold evp at hf
  exact po_none.run pins s σ H Q I (hf Z H (Ext.refl i))
theorem pv_slc {a lo hi : Ex} {a' : Expr} {lo' hi' : Option Expr} {p2 pos : Pos} (ha : PEv Φ X W a' a) (hl : PO X lo' (TPo Φ X.K X.mg W lo)) (hh : PO X hi' (TPo Φ X.K X.mg W hi)) : PEv Φ X W (.Subscript a' (.Slice lo' hi' none p2) pos) (.slc a lo hi) := by
  refine PE.imp (pe_slice sl_all ha hl hh) fun σ H Q ⟨Z, env, sl, i, hf⟩ => ⟨Z, env, sl, i, ?_⟩
  unfold ev at hf
  refine hf.bd.mono (fun _ h => h) fun r1 hr1 Z1 H1 v1 x1 rr1 => ⟨Z1, env, sl.up x1, x1.in_, hr1.bd.mono (fun c h => h.up x1) fun l hl Z2 H2 x2 => ⟨Z2, env, sl.up (x1.trans x2), x2.in_, hl.bd.mono (fun c h => h.up (x1.trans x2)) fun u hu Z3 H3 x3 => ?_⟩⟩
  obtain ⟨r, er, hq⟩ := hu.pure fun c => slcop_nx
  exact ⟨Z3, r1.d, r, x3.in_, rr1.red.up (x2.trans x3), er, hq.up (x1.trans (x2.trans x3))⟩
end
end Tdl
/-! TdCore3: displays, calls of built-ins, methods, isinstance. -/
namespace Tdl
open PySem PySem.W L2 PySem.Spec PyProof.Rows
def notStar : Expr → Bool
  | .Starred _ _ => false
  | _ => true
theorem star_cons {e : Expr} {es : List Expr} {en : PySem.Env} (h : notStar e = true) : starEach (e :: es) en = (false, eval e en) :: starEach es en := by
  cases e <;> first | (cases h; done) | rfl
theorem star_all : ∀ {es : List Expr} {en : PySem.Env}, es.all notStar = true → (starEach es en).all (fun x => !x.1) = true ∧ (starEach es en).any (·.1) = false
  | [], _, _ => ⟨rfl, rfl⟩
  | e :: es, en, h => by
    simp only [List.all_cons, Bool.and_eq_true] at h
    obtain ⟨h1, h2⟩ := star_all (en := en) h.2
    rw [star_cons h.1]
    exact ⟨by rw [List.all_cons, h1]; rfl, by rw [List.any_cons, h2]; rfl⟩
theorem back_all {es : List Expr} {en : PySem.Env} {pos : Pos} (h : es.all notStar = true) : (backTo pos (starEach es en)).all (fun x => !x.1) = true ∧ (backTo pos (starEach es en)).any (·.1) = false := by
  obtain ⟨h1, h2⟩ := star_all (en := en) h
  have e1 : ∀ l : List (Bool × Sem Value), (backTo pos l).all (fun x => !x.1) = l.all (fun x => !x.1) := fun l => by unfold backTo; rw [List.all_map]; rfl
  have e2 : ∀ l : List (Bool × Sem Value), (backTo pos l).any (·.1) = l.any (·.1) := fun l => by unfold backTo; rw [List.any_map]; rfl
  exact ⟨(e1 _).trans h1, (e2 _).trans h2⟩
section
variable {Φ : Fns} {X : Cx} {W : WX} {x y : Ex} {e f : Expr} {xs : List Ex} {es : List Expr}
theorem Ext.given {Z H Z1 H1 Z2 : Hp} (x : Ext Z H Z1 H1) (s : Same Z1 Z2) (i : Same Z2 H1) (n : ∀ b, Z1 b = none → NT (H b) → Z2 b = none) : Ext Z H Z2 H1 :=
  ⟨x.z.trans (.of s), x.h, x.own, i, fun b h1 h2 => n b (x.new b h1 h2) h2⟩
theorem as_nil : PAs Φ X W [] [] := ⟨fun pos pins s σ H Q I ⟨Z, env, sl, i, hf⟩ => by
  unfold evs at hf
  exact pa_nil.run pos pins s σ H Q I (hf Z H [] (Ext.refl i) .nil)⟩
theorem as_cons (ha : PEv Φ X W e x) (hr : PAs Φ X W es xs) (hs : notStar e = true) : PAs Φ X W (e :: es) (x :: xs) := by
  refine ⟨fun pos pins s σ H Q I ⟨Z, env, sl, i, hf⟩ => ?_⟩
  unfold evs at hf
  rw [star_cons hs]
  show wpAny _ _ (spliced ((false, eval e X.env) :: backTo pos (starEach es X.env))) _ _ s
  refine Calls.spliced_cons (ha.go I sl i hf.bd fun r hr1 v u s1 Z1 H1 I1 rv x1 rr => ?_)
  obtain ⟨d, ed, hq⟩ := hr1.bd.pure fun c => fr_nx
  obtain ⟨Z2, g1, g2, g3, g4⟩ := rr.give x1.in_ ed
  have x2 : Ext Z H Z2 H1 := x1.given g2 g3 g4
  refine thn (hr.run pos pins s1 σ H1 (fun vs H2 => Q (v :: vs) H2) I1 ⟨Z2, env, sl.up x2, g3, hq.bd.mono (fun c h => h.up x2) fun ds hds Z3 H3 vs x3 rs => hds Z3 H3 (v :: vs) (x2.trans x3) (.cons (g1.up x3.z) rs)⟩) fun us s2 ⟨vs, H2, I2, r2, q2⟩ => ⟨v :: vs, H2, I2, .cons rv r2, q2⟩
theorem al_nil : PAl Φ X W [] [] := ⟨fun pos pins s σ H Q I ⟨Z, env, sl, i, hf⟩ => by
  unfold evl at hf
  exact pa_nil.run pos pins s σ H Q I (hf Z H [] (Ext.refl i) .nil)⟩
theorem al_cons (ha : PEv Φ X W e x) (hr : PAl Φ X W es xs) (hs : notStar e = true) : PAl Φ X W (e :: es) (x :: xs) := by
  refine ⟨fun pos pins s σ H Q I ⟨Z, env, sl, i, hf⟩ => ?_⟩
  unfold evl at hf
  rw [star_cons hs]
  show wpAny _ _ (spliced ((false, eval e X.env) :: backTo pos (starEach es X.env))) _ _ s
  refine Calls.spliced_cons (ha.go I sl i hf.bd fun r hr1 v u s1 Z1 H1 I1 rv x1 rr => ?_)
  refine thn (hr.run pos pins s1 σ H1 (fun vs H2 => Q (v :: vs) H2) I1 ⟨Z1, env, sl.up x1, x1.in_, hr1.bd.mono (fun c h => h.up x1) fun ds hds Z3 H3 vs x3 rs => hds Z3 H3 (v :: vs) (x1.trans x3) (.cons (rr.red.up x3) rs)⟩) fun us s2 ⟨vs, H2, I2, r2, q2⟩ => ⟨v :: vs, H2, I2, .cons rv r2, q2⟩
/-- what an argument is: never changed, or lent -/
def LR (K : Frag) (Z H : Hp) (v : V) (r : RV) : Prop := match r.m with
  | .im => Rep K Z v r.d
  | .ow => False
  | .bo => ∃ a, v = .ref a ∧ OwnR K Z H a r.d
theorem LR.up {K : Frag} {Z H Z1 H1 : Hp} {v : V} {r : RV} (x : Ext Z H Z1 H1) (h : LR K Z H v r) : LR K Z1 H1 v r := by
  obtain ⟨d, m⟩ := r
  cases m with
  | im => exact Rep.up x.z h
  | ow => exact h
  | bo => obtain ⟨a, e, o⟩ := h; exact ⟨a, e, o.upS x.z x.h⟩
theorem RVr.lend {K : Frag} {Z' H H' : Hp} {r : RV} {v : V} (i : Same Z' H') (h : RVr K H Z' H' r v) : ∃ Z'', LR K Z'' H' v (Tdl.lend r) ∧ Same Z' Z'' ∧ Same Z'' H' ∧ ∀ b, Z' b = none → NT (H b) → Z'' b = none := by
  obtain ⟨d, m⟩ := r
  cases m with
  | bo => exact ⟨Z', h, Same.refl _, i, fun _ q _ => q⟩
  | im => exact ⟨Z', h, Same.refl _, i, fun _ q _ => q⟩
  | ow => exact RVr.give (d := d) i h rfl
/-- arguments -/
inductive LRs (K : Frag) (Z H : Hp) : List V → List RV → Prop
  | nil : LRs K Z H [] []
  | cons {v : V} {vs : List V} {r : RV} {rs : List RV} : LR K Z H v r → LRs K Z H vs rs → LRs K Z H (v :: vs) (r :: rs)
theorem LRs.length {K : Frag} {Z H : Hp} : ∀ {vs : List V} {rs : List RV}, LRs K Z H vs rs → vs.length = rs.length
  | _, _, .nil => rfl
  | _, _, .cons _ t => by rw [List.length_cons, List.length_cons, t.length]
theorem LRs.get {K : Frag} {Z H : Hp} : ∀ {vs : List V} {rs : List RV} {i : Nat} {r : RV}, LRs K Z H vs rs → rs[i]? = some r → ∃ v, vs[i]? = some v ∧ LR K Z H v r
  | _, _, i, _, .nil, e => by simp at e
  | _, _, 0, _, .cons h _, e => by
    simp only [List.getElem?_cons_zero, Option.some.injEq] at e
    subst e
    exact ⟨_, rfl, h⟩
  | _, _, i + 1, _, .cons _ t, e => by
    simp only [List.getElem?_cons_succ] at e ⊢
    exact t.get e
def TAr (Φ : Fns) (K : Frag) (mg : Str → Option Value) (W : WX) (es : List Ex) : TA := fun σ H Q => ∃ Z env, Sl K Z env σ H ∧ Same Z H ∧ Fine (XWs mg W σ Z H) (fun rs => ∀ Z' H' vs, Ext Z H Z' H' → LRs K Z' H' vs (rs.map Tdl.lend) → Q vs H') (evr Φ es env)
abbrev PAr (Φ : Fns) (X : Cx) (W : WX) (es : List Expr) (xs : List Ex) : Prop := PA X es (TAr Φ X.K X.mg W xs)
theorem ar_nil : PAr Φ X W [] [] := ⟨fun pos pins s σ H Q I ⟨Z, env, sl, i, hf⟩ => by
  unfold evr at hf
  exact pa_nil.run pos pins s σ H Q I (hf Z H [] (Ext.refl i) .nil)⟩
theorem ar_cons (ha : PEv Φ X W e x) (hr : PAr Φ X W es xs) (hs : notStar e = true) : PAr Φ X W (e :: es) (x :: xs) := by
  refine ⟨fun pos pins s σ H Q I ⟨Z, env, sl, i, hf⟩ => ?_⟩
  unfold evr at hf
  rw [star_cons hs]
  show wpAny _ _ (spliced ((false, eval e X.env) :: backTo pos (starEach es X.env))) _ _ s
  refine Calls.spliced_cons (ha.go I sl i hf.bd fun r hq v u s1 Z1 H1 I1 rv x1 rr => ?_)
  obtain ⟨Z2, g1, g2, g3, g4⟩ := rr.lend x1.in_
  have x2 : Ext Z H Z2 H1 := x1.given g2 g3 g4
  refine thn (hr.run pos pins s1 σ H1 (fun vs H2 => Q (v :: vs) H2) I1 ⟨Z2, env, sl.up x2, g3, hq.bd.mono (fun c h => h.up x2) fun rs hds Z3 H3 vs x3 ls => hds Z3 H3 (v :: vs) (x2.trans x3) (.cons (g1.up x3) ls)⟩) fun us s2 ⟨vs, H2, I2, r2, q2⟩ => ⟨v :: vs, H2, I2, .cons rv r2, q2⟩
theorem evs_len : ∀ {xs : List Ex} {env : Env} {ds : List PyData}, evs Φ xs env = .ok ds → ds.length = xs.length
  | [], env, ds, h => by
    unfold evs at h
    cases h
    rfl
  | x :: xs, env, ds, h => by
    unfold evs at h
    cases h1 : ev Φ x env with
    | ok r =>
      rw [h1, bd_ok] at h
      cases h2 : fr r with
      | ok d =>
        rw [h2, bd_ok] at h
        cases h3 : evs Φ xs env with
        | ok ds' =>
          rw [h3, bd_ok] at h
          cases h
          rw [List.length_cons, List.length_cons, evs_len h3]
        | exc c => rw [h3] at h; cases h
        | err => rw [h3] at h; cases h
      | exc c => rw [h2] at h; cases h
      | err => rw [h2] at h; cases h
    | exc c => rw [h1] at h; cases h
    | err => rw [h1] at h; cases h
theorem Fine.and_len {xw : String → Prop} {k : List PyData → Prop} {xs : List Ex} {env : Env} (h : Fine xw k (evs Φ xs env)) : Fine xw (fun ds => k ds ∧ ds.length = xs.length) (evs Φ xs env) := by
  cases e : evs Φ xs env with
  | ok ds => rw [e] at h; exact ⟨h, evs_len e⟩
  | exc c => rw [e] at h; exact h
  | err => rw [e] at h; exact h
theorem pv_tup {k : Nat} {pos : Pos} (h : PAs Φ X W es xs) (hl : xs.length ≤ 1000) : PEv Φ X W (.Tuple es k pos) (.tup xs) := by
  refine PE.imp (pe_tup h) fun σ H Q ⟨Z, env, sl, i, hf⟩ => ⟨Z, env, sl, i, ?_⟩
  unfold ev at hf
  refine hf.bd.and_len.mono (fun _ h => h) fun ds ⟨hd, hn⟩ Z1 H1 vs x1 rs => ⟨by rw [rs.length, hn, sizeLine_eq]; omega, fun p hp => ?_⟩
  obtain ⟨n1, n2⟩ := newTup (K := X.K) x1.in_ hp rs
  exact kR.up x1 hd _ _ _ n1 n2
theorem pv_lst {pos : Pos} (h : PAs Φ X W es xs) (hl : xs.length ≤ 1000) : PEv Φ X W (.List es pos) (.lst xs) := by
  refine PE.imp (pe_lst h) fun σ H Q ⟨Z, env, sl, i, hf⟩ => ⟨Z, env, sl, i, ?_⟩
  unfold ev at hf
  refine hf.bd.and_len.mono (fun _ h => h) fun ds ⟨hd, hn⟩ Z1 H1 vs x1 rs => ⟨by rw [rs.length, hn, sizeLine_eq]; omega, fun p hp => ?_⟩
  obtain ⟨n1, n2⟩ := newList (K := X.K) x1.in_ hp rs
  exact kR.up x1 hd _ _ _ n1 n2
theorem pv_emp {b : Bool} {pos : Pos} : PEv Φ X W (.Dict [] [] pos) (.emp b) := by
  cases b with
  | false =>
    refine PE.imp pe_dnewK fun σ H Q ⟨Z, env, sl, i, hf⟩ p hp => ?_
    unfold ev at hf
    exact hf _ _ _ (Ext.obj i hp) ⟨p, rfl, hp, sameN i hp, .inl ⟨[], [], rfl, upd_same, .nil⟩⟩
  | true =>
    refine PE.imp pe_dnewT fun σ H Q ⟨Z, env, sl, i, hf⟩ p hp => ?_
    unfold ev at hf
    exact hf _ _ _ (Ext.obj i hp) ⟨p, rfl, hp, sameN i hp, .inr ⟨[], [], rfl, upd_same, .nil⟩⟩
/-! ### built-ins -/
def bltN : Bl → String
  | .len => "len" | .list => "list" | .tuple => "tuple" | .all => "all" | .any => "any" | .sum => "sum" | .min => "min" | .max => "max" | .min2 => "min" | .max2 => "max" | .sorted => "sorted" | .dict => "dict"
  | _ => ""
/-- the ones that are called with their arguments as they stand -/
def bltS : Bl → Bool
  | .dictT => false | .sset => false | .lset => false | .lvals => false
  | _ => true
def bltF : Bl → Value
  | .list => .type "list" | .tuple => .type "tuple" | .dict => .type "dict"
  | b => .builtin (bltN b)
theorem blt_boot (b : Bl) (h : bltS b = true) : bootBuiltins (Str.ofString (bltN b)) = some (bltF b) := by
  cases b <;> first | (cases h; done) | (show bootBuiltins _ = some _; decide +kernel)
theorem blt_name (b : Bl) (h : bltS b = true) : Str.ofString (bltN b) ≠ "__name__" ∧ (Str.ofString (bltN b) == ("__debug__" : Str)) = false := by
  cases b <;> first | (cases h; done) | exact ⟨by decide +kernel, by decide +kernel⟩
theorem blt_cr (hc : X.calm = true) (hu : X.A.units + 128 < cLine) (b : Bl) (h : bltS b = true) : CallR X (bltF b) (rBlt X.K b) := by
  cases b with
  | len => exact cr_lenD
  | list => exact cr_listD
  | tuple => exact cr_tupleD hc
  | all => exact cr_allD hc
  | any => exact cr_anyD hc
  | sum => exact cr_sumD hc
  | min => exact cr_minD hc hu
  | max => exact cr_maxD hc hu
  | min2 => exact cr_min2D hc
  | max2 => exact cr_max2D hc
  | sorted => exact cr_sortedB hc hu
  | dict => exact cr_dictD hc
  | _ => cases h
theorem pv_blt {b : Bl} {p pos : Pos} (hc : X.calm = true) (hu : X.A.units + 128 < cLine) (hb : bltS b = true) (hg : Gl X (Str.ofString (bltN b))) (hm : X.mg (Str.ofString (bltN b)) = none) (ha : PAl Φ X W (e :: es) xs) (hs : (e :: es).all notStar = true) :
    PEv Φ X W (.Call (.Name (Str.ofString (bltN b)) p) (e :: es) [] pos) (.blt b xs) := by
  have hs1 : notStar e = true := by simp only [List.all_cons, Bool.and_eq_true] at hs; exact hs.1
  have hs2 : es.all notStar = true := by simp only [List.all_cons, Bool.and_eq_true] at hs; exact hs.2
  obtain ⟨n1, n2⟩ := blt_name b hb
  have main : PE X (.Call (.Name (Str.ofString (bltN b)) p) (e :: es) [] pos) (tCB (rBlt X.K b) (TAl Φ X.K X.mg W xs)) := by
    have hv := blt_boot b hb
    have hr := blt_cr hc hu b hb
    cases b <;> first
      | (cases hb; done)
      | exact pe_callB hr hg hm hv ha n1 n2 (star_cons hs1) (back_all hs2).2
      | exact pe_callTy hr hg hm hv ha n1 n2 (star_cons hs1) (back_all hs2).2
  refine PE.imp main fun σ H Q ⟨Z, env, sl, i, hf⟩ => ⟨Z, env, sl, i, ?_⟩
  unfold ev at hf
  refine hf.bd.mono (fun _ h => h) fun ds hd Z1 H1 vs x1 rs => ?_
  obtain ⟨r, er, hq⟩ := hd.pure fun c => bltop_nx
  exact ⟨Z1, ds, r, x1.in_, rs, er, hq.up x1⟩
theorem pv_sset {a : Ex} {a' : Expr} {p p2 q pos : Pos} (hc : X.calm = true) (hu : X.A.units + 128 < cLine) (hg : Gl X "sorted") (hm : X.mg "sorted" = none) (hg2 : Gl X "set") (hm2 : X.mg "set" = none) (ha : PEv Φ X W a' a) (na : notStar a' = true) :
    PEv Φ X W (.Call (.Name "sorted" p) [.Call (.Name "set" p2) [a'] [] q] [] pos) (.blt .sset [a]) := by
  refine PE.imp (pe_sset hc hu hg hm hg2 hm2 ha (star_cons na)) fun σ H Q ⟨Z, env, sl, i, hf⟩ => ⟨Z, env, sl, i, ?_⟩
  unfold ev evl evl at hf
  refine hf.bd.bd.mono (fun _ h => h) fun r1 hr1 Z1 H1 v1 x1 rr1 => ?_
  obtain ⟨r, er, hq⟩ := (show Fine _ _ (bltop .sset [r1.d]) from hr1).pure fun c => bltop_nx
  exact ⟨Z1, r1.d, r, x1.in_, rr1.red, er, hq.up x1⟩
theorem pv_lset {a : Ex} {a' : Expr} {p p2 q pos : Pos} (hc : X.calm = true) (hu : X.A.units + 128 < cLine) (hg : Gl X "len") (hm : X.mg "len" = none) (hg2 : Gl X "set") (hm2 : X.mg "set" = none) (ha : PEv Φ X W a' a) (na : notStar a' = true) :
    PEv Φ X W (.Call (.Name "len" p) [.Call (.Name "set" p2) [a'] [] q] [] pos) (.blt .lset [a]) := by
  refine PE.imp (pe_lset hc hu hg hm hg2 hm2 ha (star_cons na)) fun σ H Q ⟨Z, env, sl, i, hf⟩ => ⟨Z, env, sl, i, ?_⟩
  unfold ev evl evl at hf
  refine hf.bd.bd.mono (fun _ h => h) fun r1 hr1 Z1 H1 v1 x1 rr1 => ?_
  obtain ⟨r, er, hq⟩ := (show Fine _ _ (bltop .lset [r1.d]) from hr1).pure fun c => bltop_nx
  exact ⟨Z1, r1.d, r, x1.in_, rr1.red, er, hq.up x1⟩
/-! ### isinstance -/
theorem pv_isi {a : Ex} {a' : Expr} {t : Ty} {p p2 pos : Pos} (ht : t ≠ .tl) (hg : Gl X "isinstance") (hm : X.mg "isinstance" = none) (hg2 : Gl X (Str.ofString (tyN t))) (hm2 : X.mg (Str.ofString (tyN t)) = none) (ha : PEv Φ X W a' a) (na : notStar a' = true) :
    PEv Φ X W (.Call (.Name "isinstance" p) [a', .Name (Str.ofString (tyN t)) p2] [] pos) (.isi a t) := by
  have hty : PE X (.Name (Str.ofString (tyN t)) p2) (tC (.ty (tyN t))) := by
    cases t <;> first | exact absurd rfl ht | exact pe_bltn hg2 hm2 (u := .type _) (by show bootBuiltins _ = some _; decide +kernel) rfl (by decide +kernel) (by decide +kernel)
  have main := pe_callB (pos := pos) (p := p) (cr_isi (X := X) t ht) hg hm (by decide +kernel) (pa_cons ha (pa_cons hty pa_nil (star_cons rfl)) (star_cons na)) (by decide) (by decide) (star_cons na) (back_all (es := [.Name (Str.ofString (tyN t)) p2]) rfl).2
  refine PE.imp main fun σ H Q ⟨Z, env, sl, i, hf⟩ => ⟨Z, env, sl, i, ?_⟩
  unfold ev at hf
  refine hf.bd.mono (fun _ h => h) fun r1 hr1 Z1 H1 v1 x1 rr1 => ?_
  obtain ⟨g1, hq⟩ := hr1.gd
  exact ⟨Z1, v1, r1.d, rfl, x1.in_, rr1.red, g1, kR.im hq x1 (.bl _)⟩
end
end Tdl
/-! TdCore4: methods, calls of defs, {k: v}. -/
namespace Tdl
open PySem PySem.W L2 PySem.Spec PyProof.Rows
/-- the new list or dict is filled -/
theorem Ext.put {Z1 H1 Z H : Hp} {D : Addr} {o : HO} (x : Ext Z1 H1 Z H) (h1 : H1 D = none) (hz : Z D = none) : Ext Z1 H1 Z (upd H D o) := by
  refine ⟨x.z, fun b q e => ?_, fun b hz n => ?_, fun b q e => ?_, x.new⟩
  · by_cases c : b = D
    · subst c; rw [h1] at e; cases e
    · rw [upd_ne c]; exact x.h b q e
  · by_cases c : b = D
    · subst c; rw [h1] at n; exact n.elim
    · rw [upd_ne c]; exact x.own b hz n
  · by_cases c : b = D
    · subst c; rw [hz] at e; cases e
    · rw [upd_ne c]; exact x.in_ b q e
section
variable {Φ : Fns} {X : Cx} {W : WX} {x y : Ex} {e f : Expr} {xs : List Ex} {es : List Expr}
/-- a value given away -/
def TGv (Φ : Fns) (K : Frag) (mg : Str → Option Value) (W : WX) (x : Ex) : TE := fun σ H Q => ∃ Z env, Sl K Z env σ H ∧ Same Z H ∧ Fine (XWs mg W σ Z H) (fun d => ∀ Z' H' v, Ext Z H Z' H' → Rep K Z' v d → Q v H') ((ev Φ x env).bd fr)
abbrev PGv (Φ : Fns) (X : Cx) (W : WX) (e : Expr) (x : Ex) : Prop := PE X e (TGv Φ X.K X.mg W x)
theorem gv_of (h : PEv Φ X W e x) : PGv Φ X W e x := by
  refine ⟨fun pins s σ H Q I ⟨Z, env, sl, i, hf⟩ => ?_⟩
  refine h.go I sl i hf.bd fun r hr v u s1 Z1 H1 I1 rv x1 rr => ?_
  obtain ⟨d, ed, hq⟩ := hr.pure fun c => fr_nx
  obtain ⟨Z2, g1, g2, g3, g4⟩ := rr.give x1.in_ ed
  exact ⟨v, H1, I1, rv, hq Z2 H1 v (x1.given g2 g3 g4) g1⟩
def baseB : Expr → Bool
  | .Call (.Name _ _) [] [] _ => false
  | _ => true
theorem base_is {o : Expr} {m : Str} {en : PySem.Env} (h : baseB o = true) (whole : Sem Value) : attributeBase o m en whole = whole := by
  unfold attributeBase
  split
  · cases h
  · rfl
theorem few_of {es : List Expr} {en : PySem.Env} {cpos : Pos} (h : es.all notStar = true) (hl : es.length < 29) : ((backTo cpos (starEach es en)).all (fun x => !x.1) && (backToKw cpos (keywordEach [] en)).all (fun x => x.1.isSome)
    && decide (es.length + ([] : List Keyword).length + (if ([] : List Keyword).isEmpty then 0 else 1) < 30)) = true := by
  rw [(back_all h).1]
  have : es.length + ([] : List Keyword).length + (if ([] : List Keyword).isEmpty then 0 else 1) < 30 := by
    show es.length + 0 + 0 < 30
    omega
  rw [decide_eq_true this]
  rfl
def mthN : Mt → String
  | .count => "count" | .index => "index" | .get2 => "get" | .join => "join" | .split => "split"
def mthT : Mt → String
  | .count => "list" | .index => "list" | .get2 => "dict" | .join => "str" | .split => "str"
theorem mt_all (hu : X.A.units + 128 < cLine) (m : Mt) : MtR X (mthT m ++ "." ++ mthN m) (rMth X.K m) := by
  cases m with
  | count => exact mt_count hu
  | index => exact mt_indexD hu
  | get2 => exact mt_get2 hu
  | join => exact mt_joinD
  | split => exact mt_splitD
def mthI (m : Mt) : String := mthT m ++ "." ++ mthN m
theorem mth_slot (m : Mt) : PlainAttrs (mthT m) ∧ Slot (mthT m) (Str.ofString (mthN m)) (mthI m) ∧ typeOf (.builtin (mthI m)) = pure (.type "method_descriptor") := by
  cases m with
  | count => exact ⟨PySem.F.plainAttrs_list, PySem.F.slot_list_count, PySem.F.type_list_count⟩
  | index => exact ⟨PySem.F.plainAttrs_list, PySem.F.slot_list_index, PySem.F.type_list_index⟩
  | get2 => exact ⟨PySem.F.plainAttrs_dict, PySem.F.slot_dict_get, PySem.F.type_dict_get⟩
  | join => exact ⟨PySem.F.plainAttrs_str, PySem.F.slot_str_join, PySem.F.type_str_join⟩
  | split => exact ⟨PySem.F.plainAttrs_str, PySem.F.slot_str_split, PySem.F.type_str_split⟩
theorem red_ty {pins : List (Addr × Obj)} {s : Shared} {σ : L2.St} {H Z : Hp} {v : V} {u : Value} {d : PyData} {m : Mt} (I : L2.Inv X pins σ H s) (i : Same Z H) (h : Red X.K Z H v d) (g : mthG m d = true) (rv : RelV v u) :
    s.TypeIs u (mthT m) ∧ ∀ a, u = .ref a → ∃ ob, s.heap.get? a = some ob ∧ ob.dict = none := by
  have lst : ∀ ds, d = .list ds → s.TypeIs u "list" ∧ ∀ a, u = .ref a → ∃ ob, s.heap.get? a = some ob ∧ ob.dict = none := fun ds e => by
    subst e
    obtain ⟨a, vs, rfl, hq, _⟩ := h.list i
    exact tyV_is I rv (.inl ⟨rfl, vs, hq⟩)
  have txt : ∀ x, d = .str x → s.TypeIs u "str" ∧ ∀ a, u = .ref a → ∃ ob, s.heap.get? a = some ob ∧ ob.dict = none := fun x e => by
    subst e
    cases h.str
    exact tyV_is (T := "str") I rv rfl
  cases m <;> cases d <;> first | (cases g; done) | exact lst _ rfl | exact txt _ rfl | skip
  rename_i es
  obtain ⟨a, rfl, hd⟩ : ∃ a, v = .ref a ∧ IsD H a := by
    obtain ⟨a, e1, hd⟩ := h.dict i
    rcases hd with ⟨kvs, es', _, hd, _⟩ | ⟨kvs, es', _, hd, _⟩
    · exact ⟨a, e1, .inl ⟨kvs, hd⟩⟩
    · exact ⟨a, e1, .inr ⟨kvs, hd⟩⟩
  cases rv
  obtain ⟨t1, t2, _⟩ := isD_at I hd
  exact ⟨t1, t2⟩
theorem pv_mth {m : Mt} {o : Ex} {o' : Expr} {apos cpos : Pos} (hu : X.A.units + 128 < cLine) (ho : PEv Φ X W o' o) (ha : PAs Φ X W (e :: es) xs) (hs : (e :: es).all notStar = true) (hl : (e :: es).length < 29) (hb : baseB o' = true) (hline : (apos.endLine == cpos.line) = true) :
    PEv Φ X W (.Call (.Attribute o' (Str.ofString (mthN m)) apos) (e :: es) [] cpos) (.mth m o xs) := by
  have hs1 : notStar e = true := by simp only [List.all_cons, Bool.and_eq_true] at hs; exact hs.1
  have hs2 : es.all notStar = true := by simp only [List.all_cons, Bool.and_eq_true] at hs; exact hs.2
  obtain ⟨pa, slot, hty⟩ := mth_slot m
  refine pev_of fun pins s σ H Q Z env I sl i hf => ?_
  unfold ev at hf
  refine wpAny_Call_method_late (base_is hb _) (few_of hs hl) hline rfl (ho.go I sl i hf.bd fun r1 hr1 v1 u1 s1 Z1 H1 I1 rv1 x1 rr1 => ?_)
  obtain ⟨g, hr1⟩ := hr1.gd
  obtain ⟨h1, h2⟩ := red_ty I1 x1.in_ rr1.red g rv1
  refine ⟨mthT m, mthI m, pa, slot, hty, h1, h2, ?_⟩
  have hA := ha.run cpos pins s1 σ H1 (fun vs H2 => rMth X.K m v1 vs H2 Q) I1 ⟨Z1, env, sl.up x1, x1.in_, hr1.bd.mono (fun c h => h.up x1) fun ds hds Z2 H2 vs x2 rs => by
    obtain ⟨r, er, hq⟩ := hds.pure fun c => mthop_nx
    exact ⟨Z2, r1.d, ds, r, x2.in_, rr1.red.up x2, rs, er, hq.up (x1.trans x2)⟩⟩
  rw [star_cons hs1] at hA ⊢
  refine Calls.callWith_builtin (by show (false || (backTo cpos (starEach es X.env)).any (·.1)) = false; rw [(back_all hs2).2] <;> rfl) (Calls.evalArgs_plain ?_)
  exact thn hA fun us s2 ⟨vs, H2, I2, r2, q2⟩ => mt_all hu m pins s2 σ H2 v1 vs u1 us Q I2 rv1 r2 q2
/-! ### calls of defs -/
/-- what a def promises: φ tells -/
def spF (K : Frag) (mg : Str → Option Value) (np : Nat) (φ : List SV → Res RV) : Sp := fun vs H Q E => vs.length = np ∧ ∃ Z rs, Same Z H ∧ LRs K Z H vs rs ∧
  Fine (fun c => ∀ C Z' H', mg (Str.ofString c) = some (.ref C) → Ext Z H Z' H' → E (.ref C) none H') (kR K Z H Q) (φ (rs.map .rv))
/-- a def that may be called -/
structure CallOk (Φ : Fns) (X : Cx) (f : String) : Prop where
  ok : ∃ (k : Nat) (fa : Addr) (fd : FuncData) (ps : List Str), FnOk X.prog X.w X.K X.mg X.base (L2.CX X.prog X.w) k fa fd ps (spF X.K X.mg ps.length (Φ f)) ∧ Room k X.A ∧ X.mg (Str.ofString f) = some (.ref fa) ∧ keepIn X.K (.ref fa) = true ∧ Binds X.K fd ps [] ∧
    (Str.ofString f == ("__debug__" : Str)) = false ∧ ∀ args, Φ f args ≠ .err → args.length = ps.length
theorem Fine.ne {α : Type} {xw : String → Prop} {k : α → Prop} {r : Res α} (h : Fine xw k r) : r ≠ .err := fun e => by rw [e] at h; exact h
theorem pv_call {g : String} {p pos : Pos} (hc : CallOk Φ X g) (tk : Takes X W) (hg : Gl X (Str.ofString g)) (ha : PAr Φ X W (e :: es) xs) (hs : (e :: es).all notStar = true) : PEv Φ X W (.Call (.Name (Str.ofString g) p) (e :: es) [] pos) (.call g xs) := by
  have hs1 : notStar e = true := by simp only [List.all_cons, Bool.and_eq_true] at hs; exact hs.1
  have hs2 : es.all notStar = true := by simp only [List.all_cons, Bool.and_eq_true] at hs; exact hs.2
  obtain ⟨k, fa, fd, ps, F, hr, hm, hk, hb, hn, hl⟩ := hc.ok
  refine PE.imp (pe_callSD (E := WE W) F hr hg hm hk hb .nil (passAt tk) ha hn (star_cons hs1) (back_all hs2).2) fun σ H Q ⟨Z, env, sl, i, hf⟩ => ⟨Z, env, sl, i, ?_⟩
  unfold ev at hf
  refine hf.bd.mono (fun _ h => h) fun rs hd Z1 H1 vs x1 ls => ?_
  have hlen := hl _ hd.ne
  rw [List.length_map] at hlen
  show spF X.K X.mg ps.length (Φ g) (vs ++ []) H1 Q (WE W σ)
  rw [List.append_nil]
  exact ⟨by rw [ls.length, List.length_map, hlen], Z1, rs.map lend, x1.in_, ls, by
    rw [show (rs.map lend).map SV.rv = rs.map fun r => SV.rv (lend r) by rw [List.map_map]; rfl]
    exact hd.mono (fun c h C Z' H' e y => h C Z' H' e (x1.trans y)) fun r h => h.up x1⟩
/-! ### {k: v} -/
theorem pv_one {a b : Ex} {a' b' : Expr} {pos : Pos} (ha : PEv Φ X W a' a) (hb : PEv Φ X W b' b) : PEv Φ X W (.Dict [some a'] [b'] pos) (.one false a b) := by
  refine PE.imp (pe_disp (pps_cons (gv_of ha) (gv_of hb) pps_nil) rfl rfl (by simp) (by simp)) fun σ H Q ⟨Z, env, sl, i, hf⟩ p hp => ?_
  unfold ev at hf
  have xp : Ext Z H Z (upd H p (.dK [])) := Ext.obj i hp
  have zp : Z p = none := i.free hp
  refine ⟨Z, env, sl.up xp, xp.in_, hf.bd.mono (fun c h => h.up xp) fun kd hkd Z1 H1 v1 x1 rv1 => ?_⟩
  have z1 : Z1 p = none := x1.new p zp (by rw [upd_same]; trivial)
  have h1 : H1 p = some (.dK []) := (x1.own p zp (by rw [upd_same]; trivial)).trans upd_same
  refine ⟨Z1, env, sl.up (xp.trans x1), x1.in_, hkd.bd.mono (fun c h => h.up (xp.trans x1)) fun vd hvd Z2 H2 v2 x2 rv2 => ?_⟩
  have z2 : Z2 p = none := x2.new p z1 (by rw [h1]; trivial)
  have h2 : H2 p = some (.dK []) := (x2.own p z1 (by rw [h1]; trivial)).trans h1
  obtain ⟨gk, hvd⟩ := hvd.gd
  obtain ⟨kk, rfl, rfl⟩ := key_flat rv1 gk
  have hvd : kR X.K Z H Q (ow (dct false [(kD kk, vd)])) := hvd
  exact ⟨h2, [(kk, v2)], rfl, by simp, hvd Z2 _ _ ((xp.trans (x1.trans x2)).put hp z2) ⟨p, rfl, hp, z2, .inl ⟨_, _, rfl, upd_same, .cons rv2 .nil⟩⟩⟩
end
end Tdl
/-! TdCore5: targets, what is walked. -/
namespace Tdl
open PySem PySem.W L2 PySem.Spec PyProof.Rows
mutual
def tgS : Tg → List Nat
  | .nm i => [i]
  | .tp ts => tgSs ts
def tgSs : List Tg → List Nat
  | [] => []
  | t :: ts => tgS t ++ tgSs ts
end
theorem Sl.set {K : Frag} {Z H : Hp} {env : Env} {σ : L2.St} (sl : Sl K Z env σ H) {i : Nat} {v : V} {sv : SV} (h : ∀ σ' : L2.St, σ'[i]? = some (some v) → SlO K Z σ' H i sv) : Sl K Z (env.set i sv) (σ.set i (some v)) H := by
  refine ⟨by rw [List.length_set, List.length_set, sl.1], fun j w e => ?_⟩
  by_cases hij : i = j
  · subst hij
    by_cases hl : i < env.length
    · rw [List.getElem?_set_self hl] at e
      cases e
      exact h _ (List.getElem?_set_self (by rw [← sl.1]; exact hl))
    · rw [List.getElem?_eq_none (by rw [List.length_set]; omega)] at e
      cases e
  · rw [List.getElem?_set_ne hij] at e
    have q := sl.2 j w e
    have e2 : (σ.set i (some v))[j]? = σ[j]? := List.getElem?_set_ne hij
    cases w with
    | un => trivial
    | ex c => trivial
    | rv r =>
      obtain ⟨d, m⟩ := r
      cases m with
      | im => obtain ⟨u, h1, h2⟩ := q; exact ⟨u, e2.trans h1, h2⟩
      | ow => obtain ⟨u, h1, h2⟩ := q; exact ⟨u, e2.trans h1, h2⟩
      | bo => obtain ⟨u, h1, h2⟩ := q; exact ⟨u, e2.trans h1, h2⟩
/-- the slots that are not l stay -/
def Stay (l : List Nat) (σ σ' : L2.St) : Prop := σ'.length = σ.length ∧ ∀ i, i ∉ l → σ'[i]? = σ[i]?
theorem Stay.trans {l m : List Nat} {σ σ1 σ2 : L2.St} (h : Stay l σ σ1) (g : Stay m σ1 σ2) : Stay (l ++ m) σ σ2 :=
  ⟨g.1.trans h.1, fun i hi => by
    rw [List.mem_append, not_or] at hi
    exact (g.2 i hi.2).trans (h.2 i hi.1)⟩
theorem wipe_get {σ : L2.St} {i : Nat} : ∀ {vs : List Nat}, (wipe σ vs)[i]? = if i ∈ vs then (if i < σ.length then some none else none) else σ[i]?
  | [] => by simp [wipe]
  | v :: vs => by
    unfold wipe
    by_cases h : v = i
    · subst h
      by_cases hl : v < σ.length
      · rw [List.getElem?_set_self (by rw [wipe_length]; exact hl)]
        simp [hl]
      · rw [List.getElem?_eq_none (by rw [List.length_set, wipe_length]; omega)]
        simp [hl]
    · rw [List.getElem?_set_ne h, wipe_get]
      have : (i ∈ v :: vs) ↔ i ∈ vs := by simp [show ¬ i = v from fun e => h e.symm]
      by_cases c : i ∈ vs
      · rw [if_pos c, if_pos (this.mpr c)]
      · rw [if_neg c, if_neg (fun z => c (this.mp z))]
theorem Stay.wipe {l vs : List Nat} {σ σ' : L2.St} (h : Stay l σ σ') (hs : ∀ i ∈ l, i ∈ vs) : wipe σ' vs = wipe σ vs := by
  refine List.ext_getElem? fun i => ?_
  rw [wipe_get, wipe_get, h.1]
  by_cases c : i ∈ vs
  · rw [if_pos c, if_pos c]
  · rw [if_neg c, if_neg c]
    exact h.2 i fun z => c (hs i z)
/-- a target, by the evaluator -/
def TGt (K : Frag) (t : Tg) : TG := fun v σ H Q => ∃ Z env d env', Sl K Z env σ H ∧ Same Z H ∧ Rep K Z v d ∧ bindT t d env = .ok env' ∧ ∀ σ', Sl K Z env' σ' H → Stay (tgS t) σ σ' → Q σ' H
def TGts (K : Frag) (ts : List Tg) : TGs := fun vs σ H Q => ∃ Z env ds env', Sl K Z env σ H ∧ Same Z H ∧ RepL K Z vs ds ∧ bindTs ts ds env = .ok env' ∧ ∀ σ', Sl K Z env' σ' H → Stay (tgSs ts) σ σ' → Q σ' H
section
variable {X : Cx} {pos : Pos}
theorem pgt_nm {i : Nat} {x : Str} (hN : X.N.Nodup) (hi : X.N[i]? = some x) (hx : Loc X.env.scope x) (hf : X.fn x = true ∨ X.env.scope.names.lookup x = some .local) : PG X (.Name x pos) (TGt X.K (.nm i)) := by
  refine ⟨fun pins s σ H v u Q I r ⟨Z, env, d, env', sl, i0, rep, e, hq⟩ => (pg_name hN hi hx hf).run pins s σ H v u Q I r ?_⟩
  unfold bindT at e
  cases e
  refine hq _ (sl.set fun σ' h => ⟨v, h, rep⟩) ⟨List.length_set .., fun j hj => ?_⟩
  unfold tgS at hj
  exact List.getElem?_set_ne fun z => hj (by simp [z])
theorem pgts_nil : PGs X [] (TGts X.K []) := by
  refine ⟨fun pins s σ H vs us Q I r ⟨Z, env, ds, env', sl, i0, rep, e, hq⟩ => pgs_nil.run pins s σ H vs us Q I r ?_⟩
  cases rep with
  | nil =>
    unfold bindTs at e
    cases e
    exact ⟨rfl, hq σ sl ⟨rfl, fun _ _ => rfl⟩⟩
  | cons h t => unfold bindTs at e; cases e
theorem pgts_cons {e : Expr} {es : List Expr} {t : Tg} {ts : List Tg} (h1 : PG X e (TGt X.K t)) (h2 : PGs X es (TGts X.K ts)) (hs : (assignEach (e :: es) X.env).map (·.2) = assign e X.env :: (assignEach es X.env).map (·.2)) : PGs X (e :: es) (TGts X.K (t :: ts)) := by
  refine ⟨fun pins s σ H vs us Q I r ⟨Z, env, ds, env', sl, i0, rep, e, hq⟩ => (pgs_cons h1 h2 hs).run pins s σ H vs us Q I r ?_⟩
  cases rep with
  | nil => unfold bindTs at e; cases e
  | @cons v vr d dr h t' =>
    unfold bindTs at e
    cases e1 : bindT t d env with
    | ok env1 =>
      rw [e1, bd_ok] at e
      exact ⟨v, vr, rfl, Z, env, d, env1, sl, i0, h, e1, fun σ1 sl1 st1 => ⟨Z, env1, dr, env', sl1, i0, t', e, fun σ2 sl2 st2 => hq σ2 sl2 (by unfold tgSs; exact st1.trans st2)⟩⟩
    | exc c => rw [e1] at e; cases e
    | err => rw [e1] at e; cases e
theorem pg_or {e : Expr} {t1 t2 : TG} (h1 : PG X e t1) (h2 : PG X e t2) : PG X e (fun v σ H Q => t1 v σ H Q ∨ t2 v σ H Q) :=
  ⟨fun pins s σ H v u Q I r h => h.elim (h1.run pins s σ H v u Q I r) (h2.run pins s σ H v u Q I r)⟩
theorem bindTs_len : ∀ {ts : List Tg} {ds : List PyData} {env env' : Env}, bindTs ts ds env = .ok env' → ds.length = ts.length
  | [], [], _, _, _ => rfl
  | [], _ :: _, _, _, h => by unfold bindTs at h; cases h
  | _ :: _, [], _, _, h => by unfold bindTs at h; cases h
  | t :: ts, d :: ds, env, env', h => by
    unfold bindTs at h
    cases e1 : bindT t d env with
    | ok env1 =>
      rw [e1, bd_ok] at h
      rw [List.length_cons, List.length_cons, bindTs_len h]
    | exc c => rw [e1] at h; cases h
    | err => rw [e1] at h; cases h
theorem pgt_tp {es : List Expr} {k n : Nat} {ts : List Tg} (hc : X.calm = true) (h : PGs X es (TGts X.K ts)) (hn : (assignEach es X.env).length = ts.length) (hst : (assignEach es X.env).findIdx? (·.1) = none) : PG X (.Tuple es k pos) (TGt X.K (.tp ts)) := by
  refine ⟨fun pins s σ H v u Q I r ⟨Z, env, d, env', sl, i0, rep, e, hq⟩ => (pg_or (pg_tup hc h hn hst) (pg_unl hc h hn hst)).run pins s σ H v u Q I r ?_⟩
  cases d <;> first | (unfold bindT at e; cases e; done) | skip
  · rename_i ds
    unfold bindT at e
    cases rep with
    | lst h1 h2 => exact .inr ⟨_, _, rfl, seqL_up i0 h1, by rw [h2.length, bindTs_len e], Z, env, ds, env', sl, i0, h2, e, fun σ' a b => hq σ' a (by unfold tgS; exact b)⟩
  · rename_i ds
    unfold bindT at e
    cases rep with
    | tup h1 h2 => exact .inl ⟨_, _, rfl, .of (i0 _ _ h1), by rw [h2.length, bindTs_len e], Z, env, ds, env', sl, i0, h2, e, fun σ' a b => hq σ' a (by unfold tgS; exact b)⟩
end
end Tdl
/-! TdCore6: what is walked. -/
namespace Tdl
open PySem PySem.W L2 PySem.Spec PyProof.Rows
theorem bd_bd {α β γ : Type} (r : Res α) (f : α → Res β) (g : β → Res γ) : (r.bd f).bd g = r.bd fun a => (f a).bd g := by cases r <;> rfl
/-- a walk, by the evaluator -/
def TWk (Φ : Fns) (K : Frag) (mg : Str → Option Value) (W : WX) (k : Wk) (src : List Ex) : TI := fun σ H R => ∃ Z env, Sl K Z env σ H ∧ Same Z H ∧
  Fine (XWs mg W σ Z H) (fun xs => ∀ Z' H' J, Ext Z H Z' H' → WalkD K Z' H' J xs → R J H') ((wsrc k (evl Φ src env) (evs Φ src env)).bd (walkop k))
abbrev PWk (Φ : Fns) (X : Cx) (W : WX) (tg iter : Expr) (k : Wk) (src : List Ex) : Prop := PI X tg iter (TWk Φ X.K X.mg W k src)
section
variable {Φ : Fns} {X : Cx} {W : WX} {x y : Ex} {e f tg : Expr} {xs : List Ex} {es : List Expr} {p pos : Pos}
theorem evl_one {x : Ex} {env : Env} : evl Φ [x] env = (ev Φ x env).bd fun r => .ok [r.d] := by
  unfold evl evl
  cases ev Φ x env <;> rfl
theorem pi_of_pe {K : Frag} {tg l : Expr} {te : TE} {J : It → Prop} (hl : PE X l te) : True := trivial
theorem walk_lst {K : Frag} {Z H : Hp} {a : Addr} {vs : List V} {ds : List PyData} (ha : SqL K H a vs) (r : RepL K Z vs ds) : WalkD K Z H (Itl K a) ds := walk_list ha r
theorem wk_sq (he : PEv Φ X W e x) : PWk Φ X W tg e .sq [x] := by
  refine ⟨fun pins s σ H R I ⟨Z, env, sl, i, hf⟩ => ?_⟩
  rw [evl_one] at hf
  refine he.go I sl i hf.bd.bd fun r1 hr1 v1 u1 s1 Z1 H1 I1 rv1 x1 rr1 => ?_
  have hr1 : Fine _ _ (walkop .sq [r1.d]) := hr1
  obtain ⟨ds, eds, hq⟩ := hr1.pure fun c => walkop_nx
  have rd := rr1.red
  generalize r1.d = d at rd eds
  unfold walkop at eds
  split at eds <;> first | (cases eds; done) | skip
  all_goals first | (rename_i h1 h2; cases h1; done) | skip
  · rename_i ys _ h2
    cases h2
    cases eds
    obtain ⟨a, vs, rfl, hs, rl⟩ := rd.list x1.in_
    cases rv1
    obtain ⟨its, rv, pl, hz⟩ := I1.list hs
    refine wpAny_pyIter_list pl.isList ?_
    refine ⟨s1.heap.objs.size, [s1.heap.objs.size], _, _, H1, rfl, I1.kept (t' := s1.toks) fun b o e => Heap.get?_push_of_some _ e, turn_list a _, ⟨_, Heap.get?_push_size _ rfl, rfl, rfl⟩, fun b hb => ?_, hq Z1 H1 _ x1 (walk_list hs rl)⟩
    have e : b = s1.heap.objs.size := by simpa using hb
    subst e
    exact I1.fpOk (Nat.le_refl _) (I1.hok.fresh (Nat.le_refl _))
  · rename_i ys _ h2
    cases h2
    cases eds
    obtain ⟨a, vs, rfl, hs, rl⟩ := rd.tuple
    cases rv1
    obtain ⟨its, rv, pl, hz⟩ := I1.tuple (SqT.of (x1.in_ _ _ hs))
    refine wpAny_pyIter_tuple (show s1.heap.IsTuple a its.toArray from pl) ?_
    refine ⟨s1.heap.objs.size, [s1.heap.objs.size], _, _, H1, rfl, I1.kept (t' := s1.toks) fun b o e => Heap.get?_push_of_some _ e, turn_tuple a _, ⟨_, Heap.get?_push_size _ rfl, rfl, rfl⟩, fun b hb => ?_, hq Z1 H1 _ x1 (walk_tup hs rl)⟩
    have e : b = s1.heap.objs.size := by simpa using hb
    subst e
    exact I1.fpOk (Nat.le_refl _) (I1.hok.fresh (Nat.le_refl _))
  · rename_i z _ h2
    cases h2
    cases eds
    cases rd.str
    obtain ⟨t, rfl⟩ := rv1
    cases ha : z.cps.all (· < 128)
    · exact wpAny_pyIter_wide ha (pi_one (tk := s1.toks) I1 _ (turn_str _ z t "str_iterator" (.inr rfl)) ⟨_, Heap.get?_push_size _ rfl, rfl, rfl⟩ (hq Z1 H1 _ x1 (walk_str z)))
    · exact wpAny_pyIter_ascii ha (pi_one (tk := s1.toks) I1 _ (turn_str _ z t "str_ascii_iterator" (.inl rfl)) ⟨_, Heap.get?_push_size _ rfl, rfl, rfl⟩ (hq Z1 H1 _ x1 (walk_str z)))
theorem PI.imp {t t' : TI} (h : PI X tg e t) (i : ∀ σ H R, t' σ H R → t σ H R) : PI X tg e t' := ⟨fun pins s σ H R I hw => h.run pins s σ H R I (i σ H R hw)⟩
theorem wk_r1 (hg : Gl X "range") (hm : X.mg "range" = none) (ha : PAl Φ X W [e] xs) (hs : notStar e = true) : PWk Φ X W tg (.Call (.Name "range" p) [e] [] pos) .r1 xs := by
  refine PI.imp (pi_range1 hg hm ha (star_cons hs)) fun σ H R ⟨Z, env, sl, i, hf⟩ => ⟨Z, env, sl, i, hf.bd.mono (fun _ h => h) fun ds hd Z1 H1 vs x1 rs => ?_⟩
  obtain ⟨out, eo, hq⟩ := hd.pure fun c => walkop_nx
  unfold walkop at eo
  split at eo <;> first | (rename_i h1; exact absurd h1 (by decide)) | (rename_i h1 _; exact absurd h1 (by decide)) | (cases eo; done) | skip
  all_goals first | (exfalso; exact absurd ‹Wk.r1 = _› (by decide)) | skip
  rename_i n _
  obtain ⟨g1, g2⟩ := gd_ok eo
  cases g2
  have g1 := smI_iff.mp g1
  obtain ⟨v, rfl, rd⟩ := rs.one
  cases rd.int
  refine ⟨n, rfl, by omega, by omega, hq Z1 H1 _ x1 ?_⟩
  have := walk_range (K := X.K) (Z1 := Z1) (H1 := H1) 0 n.toNat
  simpa using this
theorem wk_r2 (hg : Gl X "range") (hm : X.mg "range" = none) (ha : PAl Φ X W [e, f] xs) (hs : notStar e = true) (hs2 : notStar f = true) : PWk Φ X W tg (.Call (.Name "range" p) [e, f] [] pos) .r2 xs := by
  refine PI.imp (pi_range2 hg hm ha (by rw [star_cons hs, star_cons hs2]; rfl) (star_cons hs2)) fun σ H R ⟨Z, env, sl, i, hf⟩ => ⟨Z, env, sl, i, hf.bd.mono (fun _ h => h) fun ds hd Z1 H1 vs x1 rs => ?_⟩
  obtain ⟨out, eo, hq⟩ := hd.pure fun c => walkop_nx
  unfold walkop at eo
  split at eo <;> first | (cases eo; done) | skip
  all_goals first | (exfalso; exact absurd ‹Wk.r2 = _› (by decide)) | skip
  rename_i a b _
  obtain ⟨g1, g2⟩ := gd_ok eo
  cases g2
  have g1 := (Bool.and_eq_true _ _).mp g1
  have g2 := smI_iff.mp g1.1
  have g3 := smI_iff.mp g1.2
  obtain ⟨v, u, rfl, rd, rd2⟩ := rs.two
  cases rd.int
  cases rd2.int
  exact ⟨a, b, rfl, by omega, hq Z1 H1 _ x1 (walk_range a _)⟩
theorem wk_en {elts : List Expr} {kk : Nat} {tpos : Pos} (hg : Gl X "enumerate") (hm : X.mg "enumerate" = none) (ha : PAl Φ X W [e] xs) (hs : notStar e = true) : PWk Φ X W (.Tuple elts kk tpos) (.Call (.Name "enumerate" p) [e] [] pos) .en xs := by
  refine PI.imp (pi_enumA hg hm ha (star_cons hs)) fun σ H R ⟨Z, env, sl, i, hf⟩ => ⟨Z, env, sl, i, hf.bd.mono (fun _ h => h) fun ds hd Z1 H1 vs x1 rs => ?_⟩
  obtain ⟨out, eo, hq⟩ := hd.pure fun c => walkop_nx
  unfold walkop at eo
  split at eo <;> first | (cases eo; done) | skip
  all_goals first | (exfalso; exact absurd ‹Wk.en = _› (by decide)) | skip
  · cases eo
    obtain ⟨v, rfl, rd⟩ := rs.one
    obtain ⟨a, vs, rfl, h1, rl⟩ := rd.list x1.in_
    exact ⟨a, vs, rfl, .inl ⟨h1, hq Z1 H1 _ x1 (walk_enum h1 rl)⟩⟩
  · cases eo
    obtain ⟨v, rfl, rd⟩ := rs.one
    obtain ⟨a, vs, rfl, h1, rl⟩ := rd.tuple
    exact ⟨a, vs, rfl, .inr ⟨.of (x1.in_ _ _ h1), hq Z1 H1 _ x1 (walk_enumT h1 rl)⟩⟩
theorem wk_zp {elts : List Expr} {kk : Nat} {tpos : Pos} (hg : Gl X "zip") (hm : X.mg "zip" = none) (ha : PAl Φ X W [e, f] xs) (hs : notStar e = true) (hs2 : notStar f = true) : PWk Φ X W (.Tuple elts kk tpos) (.Call (.Name "zip" p) [e, f] [] pos) .zp xs := by
  refine PI.imp (RZ.pi_zipA hg hm ha (star_cons hs) (back_all (es := [f]) (by simp [hs2])).2) fun σ H R ⟨Z, env, sl, i, hf⟩ => ⟨Z, env, sl, i, hf.bd.mono (fun _ h => h) fun ds hd Z1 H1 vs x1 rs => ?_⟩
  obtain ⟨out, eo, hq⟩ := hd.pure fun c => walkop_nx
  unfold walkop at eo
  split at eo <;> first | (cases eo; done) | skip
  all_goals first | (exfalso; exact absurd ‹Wk.zp = _› (by decide)) | skip
  · cases eo
    obtain ⟨v, u, rfl, rd, rd2⟩ := rs.two
    obtain ⟨a, vs, rfl, h1, rl⟩ := rd.list x1.in_
    obtain ⟨b, ws, rfl, h2, rl2⟩ := rd2.list x1.in_
    exact ⟨a, b, vs, ws, rfl, .inl ⟨h1, h2, hq Z1 H1 _ x1 (walk_zip h1 h2 rl rl2)⟩⟩
  · cases eo
    obtain ⟨v, u, rfl, rd, rd2⟩ := rs.two
    obtain ⟨a, vs, rfl, h1, rl⟩ := rd.tuple
    obtain ⟨b, ws, rfl, h2, rl2⟩ := rd2.tuple
    exact ⟨a, b, vs, ws, rfl, .inr ⟨.of (x1.in_ _ _ h1), .of (x1.in_ _ _ h2), hq Z1 H1 _ x1 (walk_zipT h1 h2 rl rl2)⟩⟩
/-! ### the same, given away -/
/-- a walk over things that are given away, by the evaluator -/
def TWg (Φ : Fns) (K : Frag) (mg : Str → Option Value) (W : WX) (k : Wk) (src : List Ex) : TI := fun σ H R => ∃ Z env, Sl K Z env σ H ∧ Same Z H ∧
  Fine (XWs mg W σ Z H) (fun xs => ∀ Z' H' J, Ext Z H Z' H' → WalkD K Z' Z' J xs → R J H') ((evs Φ src env).bd (walkop k))
abbrev PWg (Φ : Fns) (X : Cx) (W : WX) (tg iter : Expr) (k : Wk) (src : List Ex) : Prop := PI X tg iter (TWg Φ X.K X.mg W k src)
theorem evs_one {x : Ex} {env : Env} : evs Φ [x] env = ((ev Φ x env).bd fr).bd fun d => .ok [d] := by
  unfold evs evs
  cases ev Φ x env <;> rfl
theorem wg_sq (he : PEv Φ X W e x) : PWg Φ X W tg e .sq [x] := by
  refine ⟨fun pins s σ H R I ⟨Z, env, sl, i, hf⟩ => ?_⟩
  rw [evs_one] at hf
  refine thn ((gv_of he).run pins s σ H (fun v H1 => ∃ Z1 d, Ext Z H Z1 H1 ∧ Rep X.K Z1 v d ∧ Fine (XWs X.mg W σ Z H) (fun xs => ∀ Z' H' J, Ext Z H Z' H' → WalkD X.K Z' Z' J xs → R J H') (walkop .sq [d])) I ⟨Z, env, sl, i, hf.bd.bd.mono (fun _ h => h) fun d hd Z1 H1 v x1 rv => ⟨Z1, d, x1, rv, hd⟩⟩) fun u1 s1 ⟨v1, H1, I1, rv1, Z1, d, x1, rd, hr1⟩ => ?_
  obtain ⟨ds, eds, hq⟩ := hr1.pure fun c => walkop_nx
  have hq : ∀ J, WalkD X.K Z1 Z1 J ds → R J H1 := fun J w => hq Z1 H1 J x1 w
  cases d with
  | list ys =>
    unfold walkop at eds
    cases eds
    cases rd with
    | @lst a vs _ hs rl =>
      cases rv1
      obtain ⟨its, rv, pl, hz⟩ := I1.list (seqL_up x1.in_ hs)
      refine wpAny_pyIter_list pl.isList ?_
      refine ⟨s1.heap.objs.size, [s1.heap.objs.size], _, _, H1, rfl, I1.kept (t' := s1.toks) fun b o e => Heap.get?_push_of_some _ e, turn_list a _, ⟨_, Heap.get?_push_size _ rfl, rfl, rfl⟩, fun b hb => ?_, hq _ (walk_list hs rl)⟩
      have e : b = s1.heap.objs.size := by simpa using hb
      subst e
      exact I1.fpOk (Nat.le_refl _) (I1.hok.fresh (Nat.le_refl _))
  | tuple ys =>
    unfold walkop at eds
    cases eds
    cases rd with
    | @tup a vs _ hs rl =>
      cases rv1
      obtain ⟨its, rv, pl, hz⟩ := I1.tuple (SqT.of (x1.in_ _ _ hs))
      refine wpAny_pyIter_tuple (show s1.heap.IsTuple a its.toArray from pl) ?_
      refine ⟨s1.heap.objs.size, [s1.heap.objs.size], _, _, H1, rfl, I1.kept (t' := s1.toks) fun b o e => Heap.get?_push_of_some _ e, turn_tuple a _, ⟨_, Heap.get?_push_size _ rfl, rfl, rfl⟩, fun b hb => ?_, hq _ (walk_tup hs rl)⟩
      have e : b = s1.heap.objs.size := by simpa using hb
      subst e
      exact I1.fpOk (Nat.le_refl _) (I1.hok.fresh (Nat.le_refl _))
  | str z =>
    unfold walkop at eds
    cases eds
    cases rd
    obtain ⟨t, rfl⟩ := rv1
    cases ha : z.cps.all (· < 128)
    · exact wpAny_pyIter_wide ha (pi_one (tk := s1.toks) I1 _ (turn_str _ z t "str_iterator" (.inr rfl)) ⟨_, Heap.get?_push_size _ rfl, rfl, rfl⟩ (hq _ (walk_str z)))
    · exact wpAny_pyIter_ascii ha (pi_one (tk := s1.toks) I1 _ (turn_str _ z t "str_ascii_iterator" (.inl rfl)) ⟨_, Heap.get?_push_size _ rfl, rfl, rfl⟩ (hq _ (walk_str z)))
  | _ => unfold walkop at eds; cases eds
theorem RepL.red {K : Frag} {Z H : Hp} : ∀ {vs : List V} {ds : List PyData}, RepL K Z vs ds → RedL K Z H vs ds
  | _, _, .nil => .nil
  | _, _, .cons h t => .cons (.im h) t.red
theorem wg_r1 (hg : Gl X "range") (hm : X.mg "range" = none) (ha : PAs Φ X W [e] xs) (hs : notStar e = true) : PWg Φ X W tg (.Call (.Name "range" p) [e] [] pos) .r1 xs := by
  refine PI.imp (pi_range1 hg hm ha (star_cons hs)) fun σ H R ⟨Z, env, sl, i, hf⟩ => ⟨Z, env, sl, i, hf.bd.mono (fun _ h => h) fun ds hd Z1 H1 vs x1 rs => ?_⟩
  obtain ⟨out, eo, hq⟩ := hd.pure fun c => walkop_nx
  unfold walkop at eo
  split at eo <;> first | (rename_i h1; exact absurd h1 (by decide)) | (rename_i h1 _; exact absurd h1 (by decide)) | (cases eo; done) | skip
  all_goals first | (exfalso; exact absurd ‹Wk.r1 = _› (by decide)) | skip
  rename_i n _
  obtain ⟨g1, g2⟩ := gd_ok eo
  cases g2
  have g1 := smI_iff.mp g1
  obtain ⟨v, rfl, rd⟩ := rs.one
  cases rd
  refine ⟨n, rfl, by omega, by omega, hq Z1 H1 _ x1 ?_⟩
  have := walk_range (K := X.K) (Z1 := Z1) (H1 := Z1) 0 n.toNat
  simpa using this
theorem wg_r2 (hg : Gl X "range") (hm : X.mg "range" = none) (ha : PAs Φ X W [e, f] xs) (hs : notStar e = true) (hs2 : notStar f = true) : PWg Φ X W tg (.Call (.Name "range" p) [e, f] [] pos) .r2 xs := by
  refine PI.imp (pi_range2 hg hm ha (by rw [star_cons hs, star_cons hs2]; rfl) (star_cons hs2)) fun σ H R ⟨Z, env, sl, i, hf⟩ => ⟨Z, env, sl, i, hf.bd.mono (fun _ h => h) fun ds hd Z1 H1 vs x1 rs => ?_⟩
  obtain ⟨out, eo, hq⟩ := hd.pure fun c => walkop_nx
  unfold walkop at eo
  split at eo <;> first | (cases eo; done) | skip
  all_goals first | (exfalso; exact absurd ‹Wk.r2 = _› (by decide)) | skip
  rename_i a b _
  obtain ⟨g1, g2⟩ := gd_ok eo
  cases g2
  have g1 := (Bool.and_eq_true _ _).mp g1
  have g2 := smI_iff.mp g1.1
  have g3 := smI_iff.mp g1.2
  obtain ⟨v, u, rfl, rd, rd2⟩ := rs.two
  cases rd
  cases rd2
  exact ⟨a, b, rfl, by omega, hq Z1 H1 _ x1 (walk_range a _)⟩
theorem wg_en {elts : List Expr} {kk : Nat} {tpos : Pos} (hg : Gl X "enumerate") (hm : X.mg "enumerate" = none) (ha : PAs Φ X W [e] xs) (hs : notStar e = true) : PWg Φ X W (.Tuple elts kk tpos) (.Call (.Name "enumerate" p) [e] [] pos) .en xs := by
  refine PI.imp (pi_enumA hg hm ha (star_cons hs)) fun σ H R ⟨Z, env, sl, i, hf⟩ => ⟨Z, env, sl, i, hf.bd.mono (fun _ h => h) fun ds hd Z1 H1 vs x1 rs => ?_⟩
  obtain ⟨out, eo, hq⟩ := hd.pure fun c => walkop_nx
  unfold walkop at eo
  split at eo <;> first | (cases eo; done) | skip
  all_goals first | (exfalso; exact absurd ‹Wk.en = _› (by decide)) | skip
  · cases eo
    obtain ⟨v, rfl, rd⟩ := rs.one
    cases rd with
    | lst h1 rl => exact ⟨_, _, rfl, .inl ⟨seqL_up x1.in_ h1, hq Z1 H1 _ x1 (walk_enum h1 rl)⟩⟩
  · cases eo
    obtain ⟨v, rfl, rd⟩ := rs.one
    cases rd with
    | tup h1 rl => exact ⟨_, _, rfl, .inr ⟨.of (x1.in_ _ _ h1), hq Z1 H1 _ x1 (walk_enumT h1 rl)⟩⟩
theorem wg_zp {elts : List Expr} {kk : Nat} {tpos : Pos} (hg : Gl X "zip") (hm : X.mg "zip" = none) (ha : PAs Φ X W [e, f] xs) (hs : notStar e = true) (hs2 : notStar f = true) : PWg Φ X W (.Tuple elts kk tpos) (.Call (.Name "zip" p) [e, f] [] pos) .zp xs := by
  refine PI.imp (RZ.pi_zipA hg hm ha (star_cons hs) (back_all (es := [f]) (by simp [hs2])).2) fun σ H R ⟨Z, env, sl, i, hf⟩ => ⟨Z, env, sl, i, hf.bd.mono (fun _ h => h) fun ds hd Z1 H1 vs x1 rs => ?_⟩
  obtain ⟨out, eo, hq⟩ := hd.pure fun c => walkop_nx
  unfold walkop at eo
  split at eo <;> first | (cases eo; done) | skip
  all_goals first | (exfalso; exact absurd ‹Wk.zp = _› (by decide)) | skip
  · cases eo
    obtain ⟨v, u, rfl, rd, rd2⟩ := rs.two
    cases rd with
    | lst h1 rl => cases rd2 with
      | lst h2 rl2 => exact ⟨_, _, _, _, rfl, .inl ⟨seqL_up x1.in_ h1, seqL_up x1.in_ h2, hq Z1 H1 _ x1 (walk_zip h1 h2 rl rl2)⟩⟩
  · cases eo
    obtain ⟨v, u, rfl, rd, rd2⟩ := rs.two
    cases rd with
    | tup h1 rl => cases rd2 with
      | tup h2 rl2 => exact ⟨_, _, _, _, rfl, .inr ⟨.of (x1.in_ _ _ h1), .of (x1.in_ _ _ h2), hq Z1 H1 _ x1 (walk_zipT h1 h2 rl rl2)⟩⟩
/-! ### dicts, locked from now on -/
/-- v is a dict, locked -/
def LkD (K : Frag) (Z : Hp) (v : V) (d : PyData) : Prop := Rep K Z v d ∧ ∀ es, d = .dict es → ∃ a o, v = .ref a ∧ ((∃ kvs es', es = (.none, .bool false) :: es' ∧ Z a = some (.frz o (.dK kvs)) ∧ RepK K Z kvs es') ∨ ∃ kvs es', es = (.none, .bool true) :: es' ∧ Z a = some (.frz o (.dT kvs)) ∧ RepT K Z kvs es')
def TLk (Φ : Fns) (K : Frag) (mg : Str → Option Value) (W : WX) (x : Ex) : TE := fun σ H Q => ∃ Z env, Sl K Z env σ H ∧ Same Z H ∧ Fine (XWs mg W σ Z H) (fun d => ∀ Z' H' v, Ext Z H Z' H' → LkD K Z' v d → Q v H') ((ev Φ x env).bd fr)
theorem lk_of (h : PEv Φ X W e x) : PE X e (TLk Φ X.K X.mg W x) := by
  refine ⟨fun pins s σ H Q I ⟨Z, env, sl, i, hf⟩ => ?_⟩
  refine h.go I sl i hf.bd fun r hr v u s1 Z1 H1 I1 rv x1 rr => ?_
  obtain ⟨d, ed, hq⟩ := hr.pure fun c => fr_nx
  obtain ⟨Z2, g1, g2, g3, g4⟩ := rr.give x1.in_ ed
  have x2 := x1.given g2 g3 g4
  by_cases hd : ∃ es, d = .dict es
  · obtain ⟨es, rfl⟩ := hd
    cases g1 with
    | @dk a kvs es1 h1 h2 =>
      rcases h1 with h1 | ⟨o, h1⟩
      · obtain ⟨od, I2⟩ := I1.lock (g3 _ _ h1) trivial
        have x3 := Ext.lock (od := od) g3 h1 trivial
        exact ⟨_, _, I2, rv, hq _ _ _ (x2.trans x3) ⟨.dk (.inr ⟨od, upd_same⟩) (h2.up x3.z), fun es e => by cases e; exact ⟨a, od, rfl, .inl ⟨_, _, rfl, upd_same, h2.up x3.z⟩⟩⟩⟩
      · exact ⟨_, _, I1, rv, hq _ _ _ x2 ⟨.dk (.inr ⟨o, h1⟩) h2, fun es e => by cases e; exact ⟨a, o, rfl, .inl ⟨_, _, rfl, h1, h2⟩⟩⟩⟩
    | @dt a kvs es1 h1 h2 =>
      rcases h1 with h1 | ⟨o, h1⟩
      · obtain ⟨od, I2⟩ := I1.lock (g3 _ _ h1) trivial
        have x3 := Ext.lock (od := od) g3 h1 trivial
        exact ⟨_, _, I2, rv, hq _ _ _ (x2.trans x3) ⟨.dt (.inr ⟨od, upd_same⟩) (h2.up x3.z), fun es e => by cases e; exact ⟨a, od, rfl, .inr ⟨_, _, rfl, upd_same, h2.up x3.z⟩⟩⟩⟩
      · exact ⟨_, _, I1, rv, hq _ _ _ x2 ⟨.dt (.inr ⟨o, h1⟩) h2, fun es e => by cases e; exact ⟨a, o, rfl, .inr ⟨_, _, rfl, h1, h2⟩⟩⟩⟩
  · exact ⟨v, H1, I1, rv, hq _ _ _ x2 ⟨g1, fun es e => absurd ⟨es, e⟩ hd⟩⟩
theorem ks_ok {d : PyData} {xs : List PyData} (h : walkop .ks [d] = .ok xs) : ∃ tk es, d = dct tk es ∧ xs = es.map (·.1) := by
  unfold walkop at h
  split at h <;> first | (exfalso; exact absurd ‹Wk.ks = _› (by decide)) | (cases h; done) | skip
  all_goals first | (rename_i h1 h2; cases h2; cases h; exact ⟨_, _, rfl, rfl⟩) | skip
theorem its_ok {d : PyData} {xs : List PyData} (h : walkop .its [d] = .ok xs) : ∃ tk es, d = dct tk es ∧ xs = es.map fun p => .tuple [p.1, p.2] := by
  unfold walkop at h
  split at h <;> first | (exfalso; exact absurd ‹Wk.its = _› (by decide)) | (cases h; done) | skip
  all_goals first | (rename_i h1 h2; cases h2; cases h; exact ⟨_, _, rfl, rfl⟩) | skip
theorem wg_ks (he : PEv Φ X W e x) : PWg Φ X W tg e .ks [x] := by
  refine PI.imp (pi_keys (lk_of he)) fun σ H R ⟨Z, env, sl, i, hf⟩ => ⟨Z, env, sl, i, ?_⟩
  rw [evs_one, bd_bd] at hf
  refine hf.bd.mono (fun _ h => h) fun d hd Z1 H1 v x1 lk => ?_
  obtain ⟨xs, e, hq⟩ := (show Fine _ _ (walkop .ks [d]) from hd).pure fun c => walkop_nx
  obtain ⟨tk, es, rfl, rfl⟩ := ks_ok e
  obtain ⟨a, o, rfl, hl⟩ := lk.2 _ rfl
  refine ⟨a, o, rfl, ?_⟩
  rcases hl with ⟨kvs, es', e0, h1, h2⟩ | ⟨kvs, es', e0, h1, h2⟩
  · cases e0
    exact .inl ⟨kvs, x1.in_ _ _ h1, hq Z1 H1 _ x1 (walk_keys h1 h2)⟩
  · cases e0
    exact .inr ⟨kvs, x1.in_ _ _ h1, hq Z1 H1 _ x1 (walk_keysT h1 h2)⟩
theorem TWg.twk {k : Wk} {src : List Ex} (hk : ∀ α (a b : α), wsrc k a b = b) {σ : L2.St} {H : Hp} {R : It → Hp → Prop} (h : TWk Φ X.K X.mg W k src σ H R) : TWg Φ X.K X.mg W k src σ H R := by
  obtain ⟨Z, env, sl, i, hf⟩ := h
  rw [hk] at hf
  exact ⟨Z, env, sl, i, hf.mono (fun _ h => h) fun xs hx Z1 H1 J x1 wd => hx Z1 H1 J x1 fun Z2 H2 s1 s2 s3 => wd Z2 H2 s1 (s1.trans (.of s3)) s3⟩
theorem wk_ks (he : PEv Φ X W e x) : PWk Φ X W tg e .ks [x] := PI.imp (wg_ks he) fun σ H R h => TWg.twk (fun _ _ _ => rfl) h
end
end Tdl
/-! TdCore7: list comprehensions. -/
namespace Tdl
open PySem PySem.W L2 PySem.Spec PyProof.Rows
theorem Fine.calm {α : Type} {xw xw' : String → Prop} {k : α → Prop} {r : Res α} (h : Fine xw k (calm r)) : Fine xw' k r := by
  cases r with
  | ok a => exact h
  | exc c => exact h.elim
  | err => exact h.elim
theorem Fine.calmB {α β : Type} {xw xw' : String → Prop} {k : β → Prop} {r : Res α} {f : α → Res β} (hn : ∀ a c, f a ≠ .exc c) (h : Fine xw k ((Tdl.calm r).bd f)) : Fine xw' k (r.bd f) := by
  cases r with
  | ok a =>
    obtain ⟨b, e, hk⟩ := (show Fine xw k (f a) from h).pure fun c => hn a c
    show Fine xw' k (f a)
    rw [e]
    exact hk
  | exc c => exact h.elim
  | err => exact h.elim
abbrev WF : WX := fun _ _ _ _ => False
/-- a comprehension's if -/
def TTc (Φ : Fns) (K : Frag) (mg : Str → Option Value) (W : WX) (x : Ex) : TT := fun σ H Q => ∃ Z env, Sl K Z env σ H ∧ Same Z H ∧ Fine (XWs mg W σ Z H) (fun c => ∀ Z' H', Ext Z H Z' H' → Q c H') (evc Φ x env)
section
variable {Φ : Fns} {X : Cx} {W : WX} {x y : Ex} {e f tg : Expr} {xs : List Ex} {es : List Expr} {p pos : Pos}
theorem ptc_nil : PTs X [] (TTc Φ X.K X.mg W .nil) := ⟨fun pins s σ H Q I ⟨Z, env, sl, i, hf⟩ => pts_nil.run pins s σ H Q I (by
  unfold evc at hf
  exact hf Z H (Ext.refl i))⟩
theorem evc_ne {a : Ex} (hn : a ≠ .nil) (env : Env) : evc Φ a env = (ev Φ a env).bd bl := by
  cases a <;> first | exact absurd rfl hn | (unfold evc; rfl)
theorem ptc_one {a' : Expr} {a : Ex} (h : PTv Φ X W a' a) (hn : a ≠ .nil) : PTs X [a'] (TTc Φ X.K X.mg W a) := ⟨fun pins s σ H Q I ⟨Z, env, sl, i, hf⟩ => (pts_one h).run pins s σ H Q I ⟨Z, env, sl, i, by rw [evc_ne hn] at hf; exact hf⟩⟩
theorem wipe_wipe (σ : L2.St) (vs : List Nat) : wipe (wipe σ vs) vs = wipe σ vs := by
  refine List.ext_getElem? fun i => ?_
  rw [wipe_get, wipe_get, wipe_length]
  by_cases c : i ∈ vs
  · rw [if_pos c, if_pos c]
  · rw [if_neg c]
/-- one turn -/
abbrev lcF (Φ : Fns) (own : List (String × Nat)) (tg : Tg) (cond elt : Ex) (env : Env) : PyData → Res (Option PyData) := fun x => (bindT tg x (wipeS own env)).bd fun e1 => (calm (evc Φ cond e1)).bd fun c => match c with
  | true => ((calm (ev Φ elt e1)).bd fr).bd fun d => .ok (some d)
  | false => .ok none
theorem Sl.un {K : Frag} {Z H : Hp} {env : Env} {σ : L2.St} (sl : Sl K Z env σ H) (i : Nat) : Sl K Z (env.set i .un) (σ.set i none) H := by
  refine ⟨by rw [List.length_set, List.length_set, sl.1], fun j w e => ?_⟩
  by_cases hij : i = j
  · subst hij
    by_cases hl : i < env.length
    · rw [List.getElem?_set_self hl] at e
      cases e
      trivial
    · rw [List.getElem?_eq_none (by rw [List.length_set]; omega)] at e
      cases e
  · rw [List.getElem?_set_ne hij] at e
    have q := sl.2 j w e
    have e2 : (σ.set i none)[j]? = σ[j]? := List.getElem?_set_ne hij
    cases w with
    | un => trivial
    | ex c => trivial
    | rv r =>
      obtain ⟨d, m⟩ := r
      cases m with
      | im => obtain ⟨u, h1, h2⟩ := q; exact ⟨u, e2.trans h1, h2⟩
      | ow => obtain ⟨u, h1, h2⟩ := q; exact ⟨u, e2.trans h1, h2⟩
      | bo => obtain ⟨u, h1, h2⟩ := q; exact ⟨u, e2.trans h1, h2⟩
theorem Sl.wipe {K : Frag} {Z H : Hp} {env : Env} {σ : L2.St} (sl : Sl K Z env σ H) : ∀ own : List (String × Nat), Sl K Z (wipeS own env) (wipe σ (own.map (·.2))) H
  | [] => sl
  | p :: ps => (sl.wipe ps).un p.2
theorem goLc_nx {f : PyData → Res (Option PyData)} (hf : ∀ d c, f d ≠ .exc c) : ∀ {xs acc : List PyData} {c : String}, goLc f xs acc ≠ .exc c
  | [], acc, c, h => by unfold goLc at h; cases h
  | x :: xs, acc, c, h => by
    unfold goLc at h
    cases e : f x with
    | ok o =>
      rw [e, bd_ok] at h
      cases o with
      | some y => exact goLc_nx hf h
      | none => exact goLc_nx hf h
    | exc c2 => exact hf x c2 e
    | err => rw [e] at h; cases h
theorem bd_nx {α β : Type} {r : Res α} {f : α → Res β} {c : String} (h : ∀ c, r ≠ .exc c) (hf : ∀ a, f a ≠ .exc c) : r.bd f ≠ .exc c := by
  cases r with
  | ok a => exact hf a
  | exc c2 => exact absurd rfl (h c2)
  | err => exact fun e => nomatch e
mutual
theorem bindT_nx : ∀ {t : Tg} {d : PyData} {env : Env} {c : String}, bindT t d env ≠ .exc c
  | .nm i, d, env, c => by unfold bindT; exact fun e => nomatch e
  | .tp ts, d, env, c => by
    cases d with
    | tuple ds => unfold bindT; exact bindTs_nx
    | list ds => unfold bindT; exact bindTs_nx
    | _ => unfold bindT; exact fun e => nomatch e
theorem bindTs_nx : ∀ {ts : List Tg} {ds : List PyData} {env : Env} {c : String}, bindTs ts ds env ≠ .exc c
  | [], [], env, c => by unfold bindTs; exact fun e => nomatch e
  | [], _ :: _, env, c => by unfold bindTs; exact fun e => nomatch e
  | _ :: _, [], env, c => by unfold bindTs; exact fun e => nomatch e
  | t :: ts, d :: ds, env, c => by
    unfold bindTs
    exact bd_nx (fun c => bindT_nx) fun a => bindTs_nx
end
theorem lcF_nx {own : List (String × Nat)} {tg : Tg} {cond elt : Ex} {env : Env} (d : PyData) (c : String) : lcF Φ own tg cond elt env d ≠ .exc c := by
  refine bd_nx (fun c => bindT_nx) fun e1 => bd_nx (fun c => calm_nx) fun b => ?_
  cases b with
  | true => exact bd_nx (fun c => bd_nx (fun c => calm_nx) fun _ => fr_nx) fun _ => fun e => nomatch e
  | false => exact fun e => nomatch e
theorem PS.imp0 {st : Stmt} {t t' : TS} (h : PS X st t) (i : ∀ D σ H, t' D σ H → t D σ H) : PS X st t' := ⟨fun pins s σ H D I hw => h.run pins s σ H D I (i D σ H hw)⟩
/-- the loop of a list comprehension, from a walk -/
theorem lc_loop {own : List (String × Nat)} {t : Tg} {cond elt : Ex} (htg : ∀ i ∈ tgS t, i ∈ own.map (·.2)) {σ : L2.St} {H Z Z1 H1 : Hp} {Q : VK} {env : Env} {xs : List PyData} {J : It} {XW : String → Prop} (sl : Sl X.K Z env σ H) (x1 : Ext Z H Z1 H1) (wd : WalkD X.K Z1 H1 J xs)
    (hx : Fine XW (kR X.K Z H Q) (gd (decide (xs.length ≤ LIM)) ((goLc (lcF Φ own t cond elt env) xs []).bd fun out => .ok (ow (.list out))))) (D : Addr) (hD : H1 D = none) : ∃ W : Nat → Nat → Hp → Prop, (∃ m, W 0 m (upd H1 D (.lst []))) ∧ ∀ i m H, W i m H →
  (J.stop i H ∧ Q (.ref D) H) ∨ (J.go i H ∧ ∃ Nx : Hp → Prop, (∀ H', Nx H' → ∃ m', m' < m ∧ W (i + 1) m' H') ∧ ∀ x H', J.yld i H x H' → TGt X.K t x (wipe σ (own.map (·.2))) H' fun σ2 H2 => wipe σ2 (own.map (·.2)) = wipe σ (own.map (·.2)) ∧ TTc Φ X.K X.mg WF cond σ2 H2 fun b H3 =>
    if b = true then TGv Φ X.K X.mg WF elt σ2 H3 fun y H4 => ∃ acc, H4 D = some (.lst acc) ∧ acc.length < sizeLine ∧ Nx (upd H4 D (.lst (acc ++ [y]))) else Nx H3) := by
  obtain ⟨gl, hx⟩ := hx.gd
  have gl := of_decide_eq_true gl
  rw [lim_eq] at gl
  have zD : Z1 D = none := x1.in_.free hD
  refine ⟨fun j m H2 => m = xs.length - j ∧ j ≤ xs.length ∧ ∃ Z2 acc vacc, Ext Z1 H1 Z2 H2 ∧ Z2 D = none ∧ H2 D = some (.lst vacc) ∧ RepL X.K Z2 vacc acc ∧ acc.length ≤ j ∧
    Fine XW (kR X.K Z H Q) ((goLc (lcF Φ own t cond elt env) (xs.drop j) acc).bd fun out => .ok (ow (.list out))), ⟨xs.length, rfl, Nat.zero_le _, Z1, [], [], (Ext.refl x1.in_).put hD zD, zD, upd_same, .nil, Nat.le_refl _, hx⟩, ?_⟩
  rintro j m H2 ⟨rfl, hj, Z2, acc, vacc, x2, z2, h2, rl, la, hr⟩
  obtain ⟨wgo, wst⟩ := wd Z2 H2 x2.z x2.h x2.in_ j
  by_cases hlt : j < xs.length
  · obtain ⟨go, yld⟩ := wgo hlt
    have edrop : xs.drop j = xs[j] :: xs.drop (j + 1) := List.drop_eq_getElem_cons hlt
    rw [edrop] at hr
    unfold goLc at hr
    rw [bd_bd, bd_bd] at hr
    refine .inr ⟨go, fun H3 => ∃ Z2 acc vacc, Ext Z1 H1 Z2 H3 ∧ Z2 D = none ∧ H3 D = some (.lst vacc) ∧ RepL X.K Z2 vacc acc ∧ acc.length ≤ j + 1 ∧
      Fine XW (kR X.K Z H Q) ((goLc (lcF Φ own t cond elt env) (xs.drop (j + 1)) acc).bd fun out => .ok (ow (.list out))), fun H3 h => ⟨xs.length - (j + 1), by omega, rfl, hlt, h⟩, fun v H3 hy => ?_⟩
    obtain ⟨Z3, d, ed, x3, rv⟩ := yld v H3 hy
    rw [List.getElem?_eq_getElem hlt] at ed
    cases ed
    have sl3 : Sl X.K Z3 (wipeS own env) (wipe σ (own.map (·.2))) H3 := (sl.wipe own).up (x1.trans (x2.trans x3))
    obtain ⟨env', eb, hr⟩ := hr.bd.pure fun c => bindT_nx
    refine ⟨Z3, wipeS own env, xs[j], env', sl3, x3.in_, rv, eb, fun σ2 sl4 st => ⟨(st.wipe htg).trans (wipe_wipe _ _), Z3, env', sl4, x3.in_, ?_⟩⟩
    have z3 : Z3 D = none := x3.new D z2 (by rw [h2]; trivial)
    have h3 : H3 D = some (.lst vacc) := x3.h.lst h2
    simp only [bd_bd] at hr
    refine hr.bd.calm.mono (fun _ h => h) fun b hb Z4 H4 x4 => ?_
    have z4 : Z4 D = none := x4.new D z3 (by rw [h3]; trivial)
    have h4 : H4 D = some (.lst vacc) := x4.h.lst h3
    cases b with
    | false =>
      show ite (false = true) _ _
      rw [if_neg (by decide)]
      exact ⟨Z4, acc, vacc, x2.trans (x3.trans x4), z4, h4, (rl.up x3.z).up x4.z, by omega, hb⟩
    | true =>
      show ite (true = true) _ _
      rw [if_pos rfl]
      simp only [bd_bd] at hb
      rw [← bd_bd] at hb
      refine ⟨Z4, env', sl4.up x4, x4.in_, (Fine.calmB (fun a c => fr_nx) hb.bd).mono (fun _ h => h) fun y hy Z5 H5 v5 x5 rv5 => ?_⟩
      have z5 : Z5 D = none := x5.new D z4 (by rw [h4]; trivial)
      have h5 : H5 D = some (.lst vacc) := x5.h.lst h4
      refine ⟨vacc, h5, by rw [rl.length]; omega, Z5, acc ++ [y], vacc ++ [v5], (x2.trans (x3.trans (x4.trans x5))).put hD z5, z5, upd_same, (((rl.up x3.z).up x4.z).up x5.z).append (.cons rv5 .nil), by rw [List.length_append]; simp only [List.length_cons, List.length_nil]; omega, hy⟩
  · have ej : j = xs.length := by omega
    refine .inl ⟨wst ej, ?_⟩
    rw [ej, List.drop_length] at hr
    have hr : kR X.K Z H Q (ow (.list acc)) := hr
    exact hr Z2 H2 (.ref D) (x1.trans x2) ⟨D, rfl, x1.h.free hD, z2, vacc, h2, rl⟩
theorem lc_imp {own : List (String × Nat)} {ownS : List (Str × Nat)} {t : Tg} {k : Wk} {src : List Ex} {cond elt : Ex} (hown : ownS.map (·.2) = own.map (·.2)) (htg : ∀ i ∈ tgS t, i ∈ own.map (·.2)) (σ : L2.St) (H : Hp) (Q : VK) (h : TEv Φ X.K X.mg W (.lc own t k src cond elt) σ H Q) :
    tLc (TWk Φ X.K X.mg W k src) (TGt X.K t) (TTc Φ X.K X.mg WF cond) (TGv Φ X.K X.mg WF elt) (ownS.map (·.2)) σ H Q := by
  obtain ⟨Z, env, sl, i0, hf⟩ := h
  refine ⟨Z, env, sl, i0, ?_⟩
  unfold ev at hf
  rw [← bd_bd] at hf
  refine hf.bd.mono (fun _ h => h) fun xs hx Z1 H1 J x1 wd D hD => ?_
  rw [hown]
  exact lc_loop htg sl x1 wd hx D hD
theorem pv_lc {own : List (String × Nat)} {ownS : List (Str × Nat)} {t : Tg} {k : Wk} {src : List Ex} {cond elt : Ex} {tg' iter' elt' : Expr} {ifs' : List Expr} {scope : Scope} (hc : X.calm = true) (hN : X.N.Nodup) (hi : PWk Φ X W tg' iter' k src) (ok : BlkOk X.N X.env.scope scope ownS) (hown : ownS.map (·.2) = own.map (·.2))
    (htg : ∀ i ∈ tgS t, i ∈ own.map (·.2))
    (hg : ∀ (s : Shared) (H : Hp) (C : Addr) (cl : List (Str × Addr)) (fp : List Addr), PG (X.blk s H scope (compEnvC scope cl C X.env) fp) tg' (TGt X.K t))
    (ht : ∀ (s : Shared) (H : Hp) (C : Addr) (cl : List (Str × Addr)) (fp : List Addr), PTs (X.blk s H scope (compEnvC scope cl C X.env) fp) ifs' (TTc Φ X.K X.mg WF cond))
    (he : ∀ (s : Shared) (H : Hp) (C : Addr) (cl : List (Str × Addr)) (fp : List Addr), PEv Φ (X.blk s H scope (compEnvC scope cl C X.env) fp) WF elt' elt) (hs : ∀ x, foldedSetIterable iter' X.env x = pure x) :
    PEv Φ X W (.ListComp elt' [⟨tg', iter', ifs', 0⟩] scope pos) (.lc own t k src cond elt) := by
  exact PE.imp (pe_lc (te := TGv Φ X.K X.mg WF elt) hc hN hi ok hg ht (fun s H C cl fp => gv_of (he s H C cl fp)) hs) (lc_imp hown htg)
/-- name = [..] on one line -/
theorem ps_lcD {i : Nat} {y : Str} {py spos : Pos} {own : List (String × Nat)} {ownS : List (Str × Nat)} {t : Tg} {k : Wk} {src : List Ex} {cond elt : Ex} {tg' iter' elt' : Expr} {ifs' : List Expr} {scope : Scope} (hc : X.calm = true) (hN : X.N.Nodup) (hy : X.N[i]? = some y) (hyl : X.env.scope.names.lookup y = some .local) (hsw : swapsWith (.ListComp elt' [⟨tg', iter', ifs', 0⟩] scope pos) (some (.Name y py)) spos.line X.env = pure true) (hi : PWk Φ X W tg' iter' k src) (ok : BlkOk X.N X.env.scope scope ownS) (hown : ownS.map (·.2) = own.map (·.2))
    (htg : ∀ i ∈ tgS t, i ∈ own.map (·.2))
    (hg : ∀ (s : Shared) (H : Hp) (C : Addr) (cl : List (Str × Addr)) (fp : List Addr), PG (X.blk s H scope (compEnvC scope cl C X.env) fp) tg' (TGt X.K t))
    (ht : ∀ (s : Shared) (H : Hp) (C : Addr) (cl : List (Str × Addr)) (fp : List Addr), PTs (X.blk s H scope (compEnvC scope cl C X.env) fp) ifs' (TTc Φ X.K X.mg WF cond))
    (he : ∀ (s : Shared) (H : Hp) (C : Addr) (cl : List (Str × Addr)) (fp : List Addr), PEv Φ (X.blk s H scope (compEnvC scope cl C X.env) fp) WF elt' elt) (hs : ∀ x, foldedSetIterable iter' X.env x = pure x) :
    PS X (.Assign [.Name y py] (.ListComp elt' [⟨tg', iter', ifs', 0⟩] scope pos) spos) (tAsg (TEv Φ X.K X.mg W (.lc own t k src cond elt)) (gName i)) := by
  exact PS.imp0 (ps_setLc (te := TGv Φ X.K X.mg WF elt) hc hN hy hyl hsw hi ok hg ht (fun s H C cl fp => gv_of (he s H C cl fp)) hs) fun D σ H h => lc_imp hown htg σ H _ h
end
end Tdl
/-! TdCore8: dict comprehensions, two loops in one. -/
namespace Tdl
open PySem PySem.W L2 PySem.Spec PyProof.Rows
theorem dput_len (k v : PyData) (es : List (PyData × PyData)) : (dput k v es).length ≤ es.length + 1 := by
  unfold dput
  split
  · rw [List.length_map]; omega
  · rw [List.length_append]; exact Nat.le_refl _
section
variable {Φ : Fns} {X : Cx} {W : WX} {x y : Ex} {e f tg : Expr} {xs : List Ex} {es : List Expr} {p pos : Pos}
abbrev dcF (Φ : Fns) (own : List (String × Nat)) (tk : Bool) (tg : Tg) (key val : Ex) (env : Env) : PyData → List (PyData × PyData) → Res (List (PyData × PyData)) := fun x acc => (bindT tg x (wipeS own env)).bd fun e1 => ((calm (ev Φ key e1)).bd fr).bd fun kd => ((calm (ev Φ val e1)).bd fr).bd fun vd =>
  gd (keyK tk kd) (.ok (dput kd vd acc))
theorem pv_dc {own : List (String × Nat)} {ownS : List (Str × Nat)} {t : Tg} {k : Wk} {src : List Ex} {key val : Ex} {tg' iter' k' v' : Expr} {scope : Scope} (hc : X.calm = true) (hN : X.N.Nodup) (hi : PWk Φ X W tg' iter' k src) (ok : BlkOk X.N X.env.scope scope ownS) (hown : ownS.map (·.2) = own.map (·.2))
    (htg : ∀ i ∈ tgS t, i ∈ own.map (·.2))
    (hg : ∀ (s : Shared) (H : Hp) (C : Addr) (cl : List (Str × Addr)) (fp : List Addr), PG (X.blk s H scope (compEnvC scope cl C X.env) fp) tg' (TGt X.K t))
    (hk : ∀ (s : Shared) (H : Hp) (C : Addr) (cl : List (Str × Addr)) (fp : List Addr), PEv Φ (X.blk s H scope (compEnvC scope cl C X.env) fp) WF k' key)
    (he : ∀ (s : Shared) (H : Hp) (C : Addr) (cl : List (Str × Addr)) (fp : List Addr), PEv Φ (X.blk s H scope (compEnvC scope cl C X.env) fp) WF v' val) (hs : ∀ x, foldedSetIterable iter' X.env x = pure x) :
    PEv Φ X W (.DictComp k' v' [⟨tg', iter', [], 0⟩] scope pos) (.dc false own t k src key val) := by
  refine PE.imp (pe_dc (tt := tYes) (tk := TGv Φ X.K X.mg WF key) (tv := TGv Φ X.K X.mg WF val) hc hN hi ok hg (fun s H C cl fp => pts_nil) (fun s H C cl fp => gv_of (hk s H C cl fp)) (fun s H C cl fp => gv_of (he s H C cl fp)) hs) fun σ H Q ⟨Z, env, sl, i0, hf⟩ => ⟨Z, env, sl, i0, ?_⟩
  unfold ev at hf
  rw [← bd_bd] at hf
  refine hf.bd.mono (fun _ h => h) fun xs hx Z1 H1 J x1 wd D hD => ?_
  obtain ⟨gl, hx⟩ := hx.gd
  have gl := of_decide_eq_true gl
  rw [lim_eq] at gl
  rw [hown]
  have zD : Z1 D = none := x1.in_.free hD
  refine ⟨fun j m H2 => m = xs.length - j ∧ j ≤ xs.length ∧ ∃ Z2 acc vacc, Ext Z1 H1 Z2 H2 ∧ Z2 D = none ∧ H2 D = some (.dK vacc) ∧ RepK X.K Z2 vacc acc ∧ acc.length ≤ j ∧
    Fine (XWs X.mg W σ Z H) (kR X.K Z H Q) ((goDc (dcF Φ own false t key val env) (xs.drop j) acc).bd fun out => .ok (ow (dct false out))), ⟨xs.length, rfl, Nat.zero_le _, Z1, [], [], (Ext.refl x1.in_).put hD zD, zD, upd_same, .nil, Nat.le_refl _, hx⟩, ?_⟩
  rintro j m H2 ⟨rfl, hj, Z2, acc, vacc, x2, z2, h2, rl, la, hr⟩
  obtain ⟨wgo, wst⟩ := wd Z2 H2 x2.z x2.h x2.in_ j
  by_cases hlt : j < xs.length
  · obtain ⟨go, yld⟩ := wgo hlt
    have edrop : xs.drop j = xs[j] :: xs.drop (j + 1) := List.drop_eq_getElem_cons hlt
    rw [edrop] at hr
    unfold goDc at hr
    rw [bd_bd, bd_bd] at hr
    refine .inr ⟨go, fun H3 => ∃ Z2 acc vacc, Ext Z1 H1 Z2 H3 ∧ Z2 D = none ∧ H3 D = some (.dK vacc) ∧ RepK X.K Z2 vacc acc ∧ acc.length ≤ j + 1 ∧
      Fine (XWs X.mg W σ Z H) (kR X.K Z H Q) ((goDc (dcF Φ own false t key val env) (xs.drop (j + 1)) acc).bd fun out => .ok (ow (dct false out))), fun H3 h => ⟨xs.length - (j + 1), by omega, rfl, hlt, h⟩, fun v H3 hy => ?_⟩
    obtain ⟨Z3, d, ed, x3, rv⟩ := yld v H3 hy
    rw [List.getElem?_eq_getElem hlt] at ed
    cases ed
    have sl3 : Sl X.K Z3 (wipeS own env) (wipe σ (own.map (·.2))) H3 := (sl.wipe own).up (x1.trans (x2.trans x3))
    obtain ⟨env', eb, hr⟩ := hr.bd.pure fun c => bindT_nx
    refine ⟨Z3, wipeS own env, xs[j], env', sl3, x3.in_, rv, eb, fun σ2 sl4 st => ⟨(st.wipe htg).trans (wipe_wipe _ _), ?_⟩⟩
    have z3 : Z3 D = none := x3.new D z2 (by rw [h2]; trivial)
    have h3 : H3 D = some (.dK vacc) := (x3.own D z2 (by rw [h2]; trivial)).trans h2
    simp only [tYes, if_true]
    simp only [bd_bd] at hr
    rw [← bd_bd] at hr
    refine ⟨Z3, env', sl4, x3.in_, (Fine.calmB (fun a c => fr_nx) hr.bd).mono (fun _ h => h) fun kd hkd Z4 H4 v4 x4 rv4 => ?_⟩
    have z4 : Z4 D = none := x4.new D z3 (by rw [h3]; trivial)
    have h4 : H4 D = some (.dK vacc) := (x4.own D z3 (by rw [h3]; trivial)).trans h3
    rw [← bd_bd] at hkd
    refine ⟨Z4, env', sl4.up x4, x4.in_, (Fine.calmB (fun a c => fr_nx) hkd.bd).mono (fun _ h => h) fun vd hvd Z5 H5 v5 x5 rv5 => ?_⟩
    have z5 : Z5 D = none := x5.new D z4 (by rw [h4]; trivial)
    have h5 : H5 D = some (.dK vacc) := (x5.own D z4 (by rw [h4]; trivial)).trans h4
    obtain ⟨gk, hvd⟩ := hvd.bd.gd
    obtain ⟨kk, rfl, rfl⟩ := key_flat rv4 gk
    refine ⟨vacc, kk, rfl, h5, by rw [rl.length]; omega, Z5, dput (kD kk) vd acc, putK vacc kk v5, (x2.trans (x3.trans (x4.trans x5))).put hD z5, z5, upd_same, RepK.put kk rv5 (((rl.up x3.z).up x4.z).up x5.z), ?_, hvd⟩
    have := dput_len (kD kk) vd acc
    omega
  · have ej : j = xs.length := by omega
    refine .inl ⟨wst ej, ?_⟩
    rw [ej, List.drop_length] at hr
    have hr : kR X.K Z H Q (ow (dct false acc)) := hr
    exact hr Z2 H2 (.ref D) (x1.trans x2) ⟨D, rfl, x1.h.free hD, z2, .inl ⟨vacc, acc, rfl, h2, rl⟩⟩
/-! ### two loops -/
mutual
theorem bindT_stay : ∀ {t : Tg} {d : PyData} {env env' : Env}, bindT t d env = .ok env' → env'.length = env.length ∧ ∀ i, i ∉ tgS t → env'[i]? = env[i]?
  | .nm i, d, env, env', h => by
    unfold bindT at h
    cases h
    refine ⟨List.length_set .., fun j hj => ?_⟩
    unfold tgS at hj
    exact List.getElem?_set_ne fun z => hj (by simp [z])
  | .tp ts, d, env, env', h => by
    cases d with
    | tuple ds => unfold bindT at h; have := bindTs_stay h; unfold tgS; exact this
    | list ds => unfold bindT at h; have := bindTs_stay h; unfold tgS; exact this
    | _ => unfold bindT at h; cases h
theorem bindTs_stay : ∀ {ts : List Tg} {ds : List PyData} {env env' : Env}, bindTs ts ds env = .ok env' → env'.length = env.length ∧ ∀ i, i ∉ tgSs ts → env'[i]? = env[i]?
  | [], [], env, env', h => by unfold bindTs at h; cases h; exact ⟨rfl, fun _ _ => rfl⟩
  | [], _ :: _, _, _, h => by unfold bindTs at h; cases h
  | _ :: _, [], _, _, h => by unfold bindTs at h; cases h
  | t :: ts, d :: ds, env, env', h => by
    unfold bindTs at h
    cases e1 : bindT t d env with
    | ok env1 =>
      rw [e1, bd_ok] at h
      obtain ⟨a1, a2⟩ := bindT_stay e1
      obtain ⟨b1, b2⟩ := bindTs_stay h
      refine ⟨b1.trans a1, fun i hi => ?_⟩
      unfold tgSs at hi
      rw [List.mem_append, not_or] at hi
      exact (b2 i hi.2).trans (a2 i hi.1)
    | exc c => rw [e1] at h; cases h
    | err => rw [e1] at h; cases h
end
theorem wipeS_len : ∀ {own : List (String × Nat)} {env : Env}, (wipeS own env).length = env.length
  | [], _ => rfl
  | p :: ps, env => by unfold wipeS; rw [List.length_set, wipeS_len]
theorem wipeS_get : ∀ {own : List (String × Nat)} {env : Env} {i : Nat} {sv : SV}, i ∈ own.map (·.2) → (wipeS own env)[i]? = some sv → sv = .un
  | [], _, _, _, h, _ => by cases h
  | p :: ps, env, i, sv, h, e => by
    unfold wipeS at e
    by_cases c : p.2 = i
    · subst c
      by_cases hl : p.2 < env.length
      · rw [List.getElem?_set_self (by rw [wipeS_len]; exact hl)] at e
        cases e
        rfl
      · rw [List.getElem?_eq_none (by rw [List.length_set, wipeS_len]; omega)] at e
        cases e
    · rw [List.getElem?_set_ne c] at e
      simp only [List.map_cons, List.mem_cons] at h
      exact wipeS_get (h.resolve_left fun z => c z.symm) e
theorem Sl.wiped {K : Frag} {Z H : Hp} {env : Env} {σ : L2.St} (sl : Sl K Z env σ H) {vs : List Nat} (h : ∀ i ∈ vs, ∀ sv, env[i]? = some sv → sv = .un) : Sl K Z env (L2.wipe σ vs) H := by
  refine ⟨by rw [wipe_length]; exact sl.1, fun i sv e => ?_⟩
  by_cases c : i ∈ vs
  · cases h i c sv e
    trivial
  · have q := sl.2 i sv e
    have e2 : (L2.wipe σ vs)[i]? = σ[i]? := by rw [wipe_get, if_neg c]
    cases sv with
    | un => trivial
    | ex c => trivial
    | rv r =>
      obtain ⟨d, m⟩ := r
      cases m with
      | im => obtain ⟨u, h1, h2⟩ := q; exact ⟨u, e2.trans h1, h2⟩
      | ow => obtain ⟨u, h1, h2⟩ := q; exact ⟨u, e2.trans h1, h2⟩
      | bo => obtain ⟨u, h1, h2⟩ := q; exact ⟨u, e2.trans h1, h2⟩
mutual
theorem bindT_im : ∀ {t : Tg} {d : PyData} {env env' : Env}, bindT t d env = .ok env' → ∀ i sv, env'[i]? = some sv → (env[i]? = some sv ∧ i ∉ tgS t) ∨ ∃ d, sv = .rv (im d)
  | .nm i, d, env, env', h, j, sv, e => by
    unfold bindT at h
    cases h
    unfold tgS
    by_cases c : i = j
    · subst c
      by_cases hl : i < env.length
      · rw [List.getElem?_set_self hl] at e
        cases e
        exact .inr ⟨d, rfl⟩
      · rw [List.getElem?_eq_none (by rw [List.length_set]; omega)] at e
        cases e
    · rw [List.getElem?_set_ne c] at e
      exact .inl ⟨e, by simp [show ¬ j = i from fun z => c z.symm]⟩
  | .tp ts, d, env, env', h, j, sv, e => by
    cases d with
    | tuple ds => unfold bindT at h; have := bindTs_im h j sv e; unfold tgS; exact this
    | list ds => unfold bindT at h; have := bindTs_im h j sv e; unfold tgS; exact this
    | _ => unfold bindT at h; cases h
theorem bindTs_im : ∀ {ts : List Tg} {ds : List PyData} {env env' : Env}, bindTs ts ds env = .ok env' → ∀ i sv, env'[i]? = some sv → (env[i]? = some sv ∧ i ∉ tgSs ts) ∨ ∃ d, sv = .rv (im d)
  | [], [], env, env', h, j, sv, e => by unfold bindTs at h; cases h; exact .inl ⟨e, by simp [tgSs]⟩
  | [], _ :: _, _, _, h, _, _, _ => by unfold bindTs at h; cases h
  | _ :: _, [], _, _, h, _, _, _ => by unfold bindTs at h; cases h
  | t :: ts, d :: ds, env, env', h, j, sv, e => by
    unfold bindTs at h
    cases e1 : bindT t d env with
    | ok env1 =>
      rw [e1, bd_ok] at h
      rcases bindTs_im h j sv e with ⟨q1, q2⟩ | q
      · rcases bindT_im e1 j sv q1 with ⟨q3, q4⟩ | q
        · exact .inl ⟨q3, by unfold tgSs; rw [List.mem_append]; exact fun z => z.elim q4 q2⟩
        · exact .inr q
      · exact .inr q
    | exc c => rw [e1] at h; cases h
    | err => rw [e1] at h; cases h
end
theorem wipeS_keep : ∀ {own : List (String × Nat)} {env : Env} {i : Nat} {sv : SV}, (wipeS own env)[i]? = some sv → sv = .un ∨ env[i]? = some sv
  | [], _, _, _, e => .inr e
  | p :: ps, env, i, sv, e => by
    unfold wipeS at e
    by_cases c : p.2 = i
    · subst c
      by_cases hl : p.2 < env.length
      · rw [List.getElem?_set_self (by rw [wipeS_len]; exact hl)] at e
        cases e
        exact .inl rfl
      · rw [List.getElem?_eq_none (by rw [List.length_set, wipeS_len]; omega)] at e
        cases e
    · rw [List.getElem?_set_ne c] at e
      exact wipeS_keep e
/-- no slot owns D -/
def OutD (D : Addr) (env : Env) (σ : L2.St) : Prop := ∀ (i : Nat) (d : PyData) (m : Md) (a : Addr), env[i]? = some (.rv ⟨d, m⟩) → m ≠ .im → σ[i]? = some (some (.ref a)) → a ≠ D
theorem OutD.of {K : Frag} {Z H : Hp} {env : Env} {σ : L2.St} {D : Addr} (sl : Sl K Z env σ H) (hD : H D = none) : OutD D env σ := fun i d m a e hm es => by
  have q := sl.2 i _ e
  have q : ∃ a, σ[i]? = some (some (.ref a)) ∧ OwnR K Z H a d := by
    cases m with
    | im => exact absurd rfl hm
    | ow => exact let ⟨a, h1, h2, _⟩ := q; ⟨a, h1, h2⟩
    | bo => exact q
  obtain ⟨b, h1, h2⟩ := q
  rw [es] at h1
  cases h1
  rintro rfl
  exact h2.nt.ne hD
theorem OutD.wipe {D : Addr} {env : Env} {σ : L2.St} (h : OutD D env σ) (own : List (String × Nat)) : OutD D (wipeS own env) (L2.wipe σ (own.map (·.2))) := fun i d m a e hm es => by
  rcases wipeS_keep e with q | q
  · cases q
  · exact h i d m a q hm (wipe_some es).1
theorem OutD.bind {D : Addr} {env env' : Env} {σ σ' : L2.St} {t : Tg} {x : PyData} (h : OutD D env σ) (e : bindT t x env = .ok env') (st : Stay (tgS t) σ σ') : OutD D env' σ' := fun i d m a q hm es => by
  rcases bindT_im e i _ q with ⟨q1, q2⟩ | ⟨d, q1⟩
  · rw [st.2 i q2] at es
    exact h i d m a q1 hm es
  · cases q1
    exact absurd rfl hm
theorem Sl.swap {K : Frag} {Z H : Hp} {env : Env} {σ : L2.St} {D : Addr} {o : HO} (sl : Sl K Z env σ H) (h : OutD D env σ) : Sl K Z env σ (upd H D o) := by
  refine ⟨sl.1, fun i sv e => ?_⟩
  have q := sl.2 i sv e
  have own : ∀ d m, sv = .rv ⟨d, m⟩ → m ≠ .im → (∃ a, σ[i]? = some (some (.ref a)) ∧ OwnR K Z H a d) → ∃ a, σ[i]? = some (some (.ref a)) ∧ OwnR K Z (upd H D o) a d := fun d m e1 hm ⟨a, h1, h2⟩ => by
    subst e1
    exact ⟨a, h1, h2.up (Sm.refl _) (upd_ne (h i d m a e hm h1))⟩
  cases sv with
  | un => trivial
  | ex c => trivial
  | rv r =>
    obtain ⟨d, m⟩ := r
    cases m with
    | im => exact q
    | ow =>
      obtain ⟨a, h1, h2, h3⟩ := q
      exact ⟨a, h1, h2.up (Sm.refl _) (upd_ne (h i d .ow a e (by decide) h1)), h3⟩
    | bo => exact own d .bo rfl (by decide) q
abbrev lc2I (Φ : Fns) (tg1 : Tg) (elt : Ex) (e1 : Env) : PyData → Res (Option PyData) := fun x1 => (bindT tg1 x1 e1).bd fun e2 => ((calm (ev Φ elt e2)).bd fr).bd fun d => .ok (some d)
abbrev lc2F (Φ : Fns) (own : List (String × Nat)) (tg : Tg) (tg1 : Tg) (k1 : Wk) (src1 : List Ex) (elt : Ex) (env : Env) : PyData → List PyData → Res (List PyData) := fun x acc => (bindT tg x (wipeS own env)).bd fun e1 => (calm (evs Φ src1 e1)).bd fun ds1 => (walkop k1 ds1).bd fun xs1 =>
  goLc (lc2I Φ tg1 elt e1) xs1 acc
theorem lc2I_nx {tg1 : Tg} {elt : Ex} {e1 : Env} (d : PyData) (c : String) : lc2I Φ tg1 elt e1 d ≠ .exc c :=
  bd_nx (fun c => bindT_nx) fun _ => bd_nx (fun c => bd_nx (fun c => calm_nx) fun _ => fr_nx) fun _ => fun e => nomatch e
theorem goLc_len {f : PyData → Res (Option PyData)} : ∀ {xs acc out : List PyData}, goLc f xs acc = .ok out → acc.length ≤ out.length
  | [], acc, out, h => by unfold goLc at h; cases h; exact Nat.le_refl _
  | x :: xs, acc, out, h => by
    unfold goLc at h
    cases e : f x with
    | ok o =>
      rw [e, bd_ok] at h
      cases o with
      | some y => have := goLc_len h; rw [List.length_append] at this; omega
      | none => exact goLc_len h
    | exc c => rw [e] at h; cases h
    | err => rw [e] at h; cases h
theorem goLc2_len {f : PyData → List PyData → Res (List PyData)} (hf : ∀ x acc out, f x acc = .ok out → acc.length ≤ out.length) : ∀ {xs acc out : List PyData}, goLc2 f xs acc = .ok out → acc.length ≤ out.length
  | [], acc, out, h => by unfold goLc2 at h; cases h; exact Nat.le_refl _
  | x :: xs, acc, out, h => by
    unfold goLc2 at h
    cases e : f x acc with
    | ok o =>
      rw [e, bd_ok] at h
      exact Nat.le_trans (hf _ _ _ e) (goLc2_len hf h)
    | exc c => rw [e] at h; cases h
    | err => rw [e] at h; cases h
theorem lc2F_len {own : List (String × Nat)} {tg tg1 : Tg} {k1 : Wk} {src1 : List Ex} {elt : Ex} {env : Env} (x : PyData) (acc out : List PyData) (h : lc2F Φ own tg tg1 k1 src1 elt env x acc = .ok out) : acc.length ≤ out.length := by
  unfold lc2F at h
  cases e1 : bindT tg x (wipeS own env) with
  | ok a =>
    rw [e1, bd_ok] at h
    cases e2 : calm (evs Φ src1 a) with
    | ok b =>
      rw [e2, bd_ok] at h
      cases e3 : walkop k1 b with
      | ok c => rw [e3, bd_ok] at h; exact goLc_len h
      | exc c => rw [e3] at h; cases h
      | err => rw [e3] at h; cases h
    | exc c => rw [e2] at h; cases h
    | err => rw [e2] at h; cases h
  | exc c => rw [e1] at h; cases h
  | err => rw [e1] at h; cases h
theorem goLc2_nx {f : PyData → List PyData → Res (List PyData)} (hf : ∀ d acc c, f d acc ≠ .exc c) : ∀ {xs acc : List PyData} {c : String}, goLc2 f xs acc ≠ .exc c
  | [], acc, c, h => by unfold goLc2 at h; cases h
  | x :: xs, acc, c, h => by
    unfold goLc2 at h
    cases e : f x acc with
    | ok o =>
      rw [e, bd_ok] at h
      exact goLc2_nx hf h
    | exc c2 => exact hf x acc c2 e
    | err => rw [e] at h; cases h
theorem lc2F_nx {own : List (String × Nat)} {tg tg1 : Tg} {k1 : Wk} {src1 : List Ex} {elt : Ex} {env : Env} (x : PyData) (acc : List PyData) (c : String) : lc2F Φ own tg tg1 k1 src1 elt env x acc ≠ .exc c :=
  bd_nx (fun c => bindT_nx) fun _ => bd_nx (fun c => calm_nx) fun _ => bd_nx (fun c => walkop_nx) fun _ => goLc_nx lc2I_nx
/-- the end of both loops: its length is within the limit -/
theorem Fine.lim {xw : String → Prop} {k : RV → Prop} {f : PyData → List PyData → Res (List PyData)} (hf : ∀ x acc out, f x acc = .ok out → acc.length ≤ out.length) {xs acc : List PyData} (h : Fine xw k ((goLc2 f xs acc).bd fun out => Tdl.gd (decide (out.length ≤ LIM)) (.ok (ow (.list out))))) (nx : ∀ c, goLc2 f xs acc ≠ .exc c) : acc.length ≤ LIM := by
  obtain ⟨out, e, h2⟩ := h.bd.pure nx
  exact Nat.le_trans (goLc2_len hf e) (of_decide_eq_true h2.gd.1)
theorem walk_src_ne {own : List (String × Nat)} : True := trivial
theorem lc2_imp {own : List (String × Nat)} {ownS : List (Str × Nat)} {t t1 : Tg} {k k1 : Wk} {src src1 : List Ex} {elt : Ex} (hown : ownS.map (·.2) = own.map (·.2)) (htg : ∀ i ∈ tgS t, i ∈ own.map (·.2)) (htg1 : ∀ i ∈ tgS t1, i ∈ own.map (·.2) ∧ i ∉ tgS t) (σ : L2.St) (H : Hp) (Q : VK)
    (h : TEv Φ X.K X.mg W (.lc2 own t k src t1 k1 src1 elt) σ H Q) : tLc2 (TWk Φ X.K X.mg W k src) (TGt X.K t) tYes (TWg Φ X.K X.mg WF k1 src1) (TGt X.K t1) tYes (TGv Φ X.K X.mg WF elt) (ownS.map (·.2)) (tgS t1) σ H Q := by
  obtain ⟨Z, env, sl, i0, hf⟩ := h
  refine ⟨Z, env, sl, i0, ?_⟩
  unfold ev at hf
  rw [← bd_bd] at hf
  refine hf.bd.mono (fun _ h => h) fun xs hx Z1 H1 J x1 wd D hD => ?_
  rw [hown]
  have hx : Fine (XWs X.mg W σ Z H) (kR X.K Z H Q) ((goLc2 (lc2F Φ own t t1 k1 src1 elt env) xs []).bd fun out => gd (decide (out.length ≤ LIM)) (.ok (ow (.list out)))) := hx
  have zD : Z1 D = none := x1.in_.free hD
  refine ⟨fun j m H2 => m = xs.length - j ∧ j ≤ xs.length ∧ ∃ Z2 acc vacc, Ext Z1 H1 Z2 H2 ∧ Z2 D = none ∧ H2 D = some (.lst vacc) ∧ RepL X.K Z2 vacc acc ∧
    Fine (XWs X.mg W σ Z H) (kR X.K Z H Q) ((goLc2 (lc2F Φ own t t1 k1 src1 elt env) (xs.drop j) acc).bd fun out => gd (decide (out.length ≤ LIM)) (.ok (ow (.list out)))), ⟨xs.length, rfl, Nat.zero_le _, Z1, [], [], (Ext.refl x1.in_).put hD zD, zD, upd_same, .nil, hx⟩, ?_⟩
  rintro j m H2 ⟨rfl, hj, Z2, acc, vacc, x2, z2, h2, rl, hr⟩
  obtain ⟨wgo, wst⟩ := wd Z2 H2 x2.z x2.h x2.in_ j
  by_cases hlt : j < xs.length
  · obtain ⟨go, yld⟩ := wgo hlt
    have edrop : xs.drop j = xs[j] :: xs.drop (j + 1) := List.drop_eq_getElem_cons hlt
    rw [edrop] at hr
    unfold goLc2 at hr
    rw [bd_bd, bd_bd] at hr
    refine .inr ⟨go, fun H3 => ∃ Z2 acc vacc, Ext Z1 H1 Z2 H3 ∧ Z2 D = none ∧ H3 D = some (.lst vacc) ∧ RepL X.K Z2 vacc acc ∧
      Fine (XWs X.mg W σ Z H) (kR X.K Z H Q) ((goLc2 (lc2F Φ own t t1 k1 src1 elt env) (xs.drop (j + 1)) acc).bd fun out => gd (decide (out.length ≤ LIM)) (.ok (ow (.list out)))), fun H3 h => ⟨xs.length - (j + 1), by omega, rfl, hlt, h⟩, fun v H3 hy => ?_⟩
    obtain ⟨Z3, d, ed, x3, rv⟩ := yld v H3 hy
    rw [List.getElem?_eq_getElem hlt] at ed
    cases ed
    have sl3 : Sl X.K Z3 (wipeS own env) (wipe σ (own.map (·.2))) H3 := (sl.wipe own).up (x1.trans (x2.trans x3))
    obtain ⟨env', eb, hr⟩ := hr.bd.pure fun c => bindT_nx
    refine ⟨Z3, wipeS own env, xs[j], env', sl3, x3.in_, rv, eb, fun σ2 sl4 st => ⟨(st.wipe htg).trans (wipe_wipe _ _), ?_⟩⟩
    have z3 : Z3 D = none := x3.new D z2 (by rw [h2]; trivial)
    have h3 : H3 D = some (.lst vacc) := x3.h.lst h2
    simp only [tYes, if_true]
    have out2 : OutD D env' σ2 := (((OutD.of sl (x1.h.free hD)).wipe own).bind eb st)
    have un1 : ∀ i ∈ tgS t1, ∀ sv, env'[i]? = some sv → sv = .un := fun i hi sv e => by
      rw [(bindT_stay eb).2 i (htg1 i hi).2] at e
      exact wipeS_get (htg1 i hi).1 e
    rw [bd_bd, ← bd_bd] at hr
    refine ⟨Z3, env', sl4, x3.in_, ?_⟩
    have hr2 : Fine (XWs X.mg WF σ2 Z3 H3) (fun xs1 => Fine (XWs X.mg W σ Z H) (kR X.K Z H Q) ((goLc (lc2I Φ t1 elt env') xs1 acc).bd fun acc1 => (goLc2 (lc2F Φ own t t1 k1 src1 elt env) (xs.drop (j + 1)) acc1).bd fun out => gd (decide (out.length ≤ LIM)) (.ok (ow (.list out))))) ((evs Φ src1 env').bd (walkop k1)) := by
      refine Fine.calmB (xw := XWs X.mg W σ Z H) (fun a c => walkop_nx) ?_
      have := hr.bd
      rw [← bd_bd] at this
      exact this.bd.mono (fun _ h => h) fun xs1 h => h.unbd
    refine hr2.mono (fun _ h => h) fun xs1 hx1 Z4 H4 J1 x4 wd1 => ?_
    have z4 : Z4 D = none := x4.new D z3 (by rw [h3]; trivial)
    have h4 : H4 D = some (.lst vacc) := x4.h.lst h3
    refine ⟨fun l m H5 => m = xs1.length - l ∧ l ≤ xs1.length ∧ ∃ Z5 acc vacc, Ext Z1 H1 Z5 H5 ∧ Sm Z4 Z5 ∧ Sl X.K Z5 env' σ2 H5 ∧ Z5 D = none ∧ H5 D = some (.lst vacc) ∧ RepL X.K Z5 vacc acc ∧
      Fine (XWs X.mg W σ Z H) (kR X.K Z H Q) ((goLc (lc2I Φ t1 elt env') (xs1.drop l) acc).bd fun acc1 => (goLc2 (lc2F Φ own t t1 k1 src1 elt env) (xs.drop (j + 1)) acc1).bd fun out => gd (decide (out.length ≤ LIM)) (.ok (ow (.list out)))), ⟨xs1.length, rfl, Nat.zero_le _, Z4, acc, vacc, x2.trans (x3.trans x4), Sm.refl _, sl4.up x4, z4, h4, (rl.up x3.z).up x4.z, hx1⟩, ?_⟩
    rintro l m H5 ⟨rfl, hl, Z5, acc5, vacc5, x5, s5, sl5, z5, h5, rl5, hr5⟩
    obtain ⟨wgo1, wst1⟩ := wd1 Z5 H5 s5 (s5.trans (.of x5.in_)) x5.in_ l
    by_cases hlt1 : l < xs1.length
    · obtain ⟨go1, yld1⟩ := wgo1 hlt1
      have edrop1 : xs1.drop l = xs1[l] :: xs1.drop (l + 1) := List.drop_eq_getElem_cons hlt1
      rw [edrop1] at hr5
      unfold goLc at hr5
      rw [bd_bd, bd_bd] at hr5
      refine .inr ⟨go1, fun H6 => ∃ Z5 acc vacc, Ext Z1 H1 Z5 H6 ∧ Sm Z4 Z5 ∧ Sl X.K Z5 env' σ2 H6 ∧ Z5 D = none ∧ H6 D = some (.lst vacc) ∧ RepL X.K Z5 vacc acc ∧
        Fine (XWs X.mg W σ Z H) (kR X.K Z H Q) ((goLc (lc2I Φ t1 elt env') (xs1.drop (l + 1)) acc).bd fun acc1 => (goLc2 (lc2F Φ own t t1 k1 src1 elt env) (xs.drop (j + 1)) acc1).bd fun out => gd (decide (out.length ≤ LIM)) (.ok (ow (.list out)))), fun H6 h => ⟨xs1.length - (l + 1), by omega, rfl, hlt1, h⟩, fun v6 H6 hy6 => ?_⟩
      obtain ⟨Z6, d6, ed6, x6, rv6⟩ := yld1 v6 H6 hy6
      rw [List.getElem?_eq_getElem hlt1] at ed6
      cases ed6
      obtain ⟨env6, eb6, hr6⟩ := hr5.bd.pure fun c => bindT_nx
      refine ⟨Z6, env', xs1[l], env6, (sl5.up x6).wiped un1, x6.in_, rv6, eb6, fun σ7 sl7 st7 => ⟨(st7.wipe fun _ h => h).trans (wipe_wipe _ _), ?_⟩⟩
      have z6 : Z6 D = none := x6.new D z5 (by rw [h5]; trivial)
      have h6 : H6 D = some (.lst vacc5) := x6.h.lst h5
      simp only [tYes, if_true]
      rw [bd_bd] at hr6
      have hr6 := Fine.calmB (xw' := XWs X.mg WF σ7 Z6 H6) (fun a c => fr_nx) hr6.bd
      refine ⟨Z6, env6, sl7, x6.in_, hr6.mono (fun _ h => h) fun y hy Z7 H7 v7 x7 rv7 => ?_⟩
      have z7 : Z7 D = none := x7.new D z6 (by rw [h6]; trivial)
      have h7 : H7 D = some (.lst vacc5) := x7.h.lst h6
      have hlen : acc5.length < sizeLine := by
        obtain ⟨o1, e1, hy1⟩ := (show Fine (XWs X.mg W σ Z H) _ ((goLc (lc2I Φ t1 elt env') (xs1.drop (l + 1)) (acc5 ++ [y])).bd fun acc1 => (goLc2 (lc2F Φ own t t1 k1 src1 elt env) (xs.drop (j + 1)) acc1).bd fun out => gd (decide (out.length ≤ LIM)) (.ok (ow (.list out)))) from hy).bd.pure fun c => goLc_nx lc2I_nx
        have q1 := goLc_len e1
        have q2 := Fine.lim lc2F_len hy1 fun c => goLc2_nx (fun d acc c => lc2F_nx d acc c)
        rw [List.length_append] at q1
        rw [← lim_eq]
        simp only [List.length_cons, List.length_nil] at q1
        omega
      refine ⟨vacc5, h7, by rw [rl5.length]; exact hlen, Z7, acc5 ++ [y], vacc5 ++ [v7], (x5.trans (x6.trans x7)).put hD z7, (s5.trans x6.z).trans x7.z, ?_, z7, upd_same, (((rl5.up x6.z).up x7.z)).append (.cons rv7 .nil), hy⟩
      exact ((sl5.up x6).up x7).swap out2
    · have el : l = xs1.length := by omega
      refine .inl ⟨wst1 el, ?_⟩
      rw [el, List.drop_length] at hr5
      exact ⟨Z5, acc5, vacc5, x5, z5, h5, rl5, hr5⟩
  · have ej : j = xs.length := by omega
    refine .inl ⟨wst ej, ?_⟩
    rw [ej, List.drop_length] at hr
    have hr : Fine (XWs X.mg W σ Z H) (kR X.K Z H Q) (gd (decide (acc.length ≤ LIM)) (.ok (ow (.list acc)))) := hr
    have hr : kR X.K Z H Q (ow (.list acc)) := hr.gd.2
    exact hr Z2 H2 (.ref D) (x1.trans x2) ⟨D, rfl, x1.h.free hD, z2, vacc, h2, rl⟩
theorem pv_lc2 {own : List (String × Nat)} {ownS : List (Str × Nat)} {t t1 : Tg} {k k1 : Wk} {src src1 : List Ex} {elt : Ex} {tg' iter' elt' tg1' iter1' : Expr} {scope : Scope} (hc : X.calm = true) (hN : X.N.Nodup) (hi : PWk Φ X W tg' iter' k src) (ok : BlkOk X.N X.env.scope scope ownS) (hown : ownS.map (·.2) = own.map (·.2))
    (htg : ∀ i ∈ tgS t, i ∈ own.map (·.2)) (htg1 : ∀ i ∈ tgS t1, i ∈ own.map (·.2) ∧ i ∉ tgS t)
    (hg : ∀ (s : Shared) (H : Hp) (C : Addr) (cl : List (Str × Addr)) (fp : List Addr), PG (X.blk s H scope (compEnvC scope cl C X.env) fp) tg' (TGt X.K t))
    (hi1 : ∀ (s : Shared) (H : Hp) (C : Addr) (cl : List (Str × Addr)) (fp : List Addr), PWg Φ (X.blk s H scope (compEnvC scope cl C X.env) fp) WF tg1' iter1' k1 src1)
    (hg1 : ∀ (s : Shared) (H : Hp) (C : Addr) (cl : List (Str × Addr)) (fp : List Addr), PG (X.blk s H scope (compEnvC scope cl C X.env) fp) tg1' (TGt X.K t1))
    (he : ∀ (s : Shared) (H : Hp) (C : Addr) (cl : List (Str × Addr)) (fp : List Addr), PEv Φ (X.blk s H scope (compEnvC scope cl C X.env) fp) WF elt' elt) (hs : ∀ x, foldedSetIterable iter' X.env x = pure x) (hs1 : ∀ env x, foldedSetIterable iter1' env x = pure x) :
    PEv Φ X W (.ListComp elt' [⟨tg', iter', [], 0⟩, ⟨tg1', iter1', [], 0⟩] scope pos) (.lc2 own t k src t1 k1 src1 elt) := by
  exact PE.imp (pe_lc2 (tt := tYes) (tt1 := tYes) (wi1 := TWg Φ X.K X.mg WF k1 src1) (te := TGv Φ X.K X.mg WF elt) (vs1 := tgS t1) hc hN hi ok (fun i h => by rw [hown]; exact (htg1 i h).1) hg (fun s H C cl fp => pts_nil) hi1 hg1 (fun s H C cl fp => pts_nil) (fun s H C cl fp => gv_of (he s H C cl fp)) hs hs1) (lc2_imp hown htg htg1)
theorem ps_lc2D {i : Nat} {y : Str} {py spos : Pos} {own : List (String × Nat)} {ownS : List (Str × Nat)} {t t1 : Tg} {k k1 : Wk} {src src1 : List Ex} {elt : Ex} {tg' iter' elt' tg1' iter1' : Expr} {scope : Scope} (hc : X.calm = true) (hN : X.N.Nodup) (hy : X.N[i]? = some y) (hyl : X.env.scope.names.lookup y = some .local) (hsw : swapsWith (.ListComp elt' [⟨tg', iter', [], 0⟩, ⟨tg1', iter1', [], 0⟩] scope pos) (some (.Name y py)) spos.line X.env = pure true) (hi : PWk Φ X W tg' iter' k src) (ok : BlkOk X.N X.env.scope scope ownS) (hown : ownS.map (·.2) = own.map (·.2))
    (htg : ∀ i ∈ tgS t, i ∈ own.map (·.2)) (htg1 : ∀ i ∈ tgS t1, i ∈ own.map (·.2) ∧ i ∉ tgS t)
    (hg : ∀ (s : Shared) (H : Hp) (C : Addr) (cl : List (Str × Addr)) (fp : List Addr), PG (X.blk s H scope (compEnvC scope cl C X.env) fp) tg' (TGt X.K t))
    (hi1 : ∀ (s : Shared) (H : Hp) (C : Addr) (cl : List (Str × Addr)) (fp : List Addr), PWg Φ (X.blk s H scope (compEnvC scope cl C X.env) fp) WF tg1' iter1' k1 src1)
    (hg1 : ∀ (s : Shared) (H : Hp) (C : Addr) (cl : List (Str × Addr)) (fp : List Addr), PG (X.blk s H scope (compEnvC scope cl C X.env) fp) tg1' (TGt X.K t1))
    (he : ∀ (s : Shared) (H : Hp) (C : Addr) (cl : List (Str × Addr)) (fp : List Addr), PEv Φ (X.blk s H scope (compEnvC scope cl C X.env) fp) WF elt' elt) (hs : ∀ x, foldedSetIterable iter' X.env x = pure x) (hs1 : ∀ env x, foldedSetIterable iter1' env x = pure x) :
    PS X (.Assign [.Name y py] (.ListComp elt' [⟨tg', iter', [], 0⟩, ⟨tg1', iter1', [], 0⟩] scope pos) spos) (tAsg (TEv Φ X.K X.mg W (.lc2 own t k src t1 k1 src1 elt)) (gName i)) := by
  exact PS.imp0 (ps_setLc2 (tt := tYes) (tt1 := tYes) (wi1 := TWg Φ X.K X.mg WF k1 src1) (te := TGv Φ X.K X.mg WF elt) (vs1 := tgS t1) hc hN hy hyl hsw hi ok (fun i h => by rw [hown]; exact (htg1 i h).1) hg (fun s H C cl fp => pts_nil) hi1 hg1 (fun s H C cl fp => pts_nil) (fun s H C cl fp => gv_of (he s H C cl fp)) hs hs1) fun D σ H h => lc2_imp hown htg htg1 σ H _ h
end
end Tdl
/-! TdCore9: a comprehension over an own dict, that is locked while it runs. -/
namespace Tdl
open PySem PySem.W L2 PySem.Spec PyProof.Rows
section
variable {Φ : Fns} {X : Cx} {W : WX} {x y : Ex} {e f tg : Expr} {xs : List Ex} {es : List Expr} {p pos : Pos}
theorem pe_or {e : Expr} {t1 t2 : TE} (h1 : PE X e t1) (h2 : PE X e t2) : PE X e (fun σ H Q => t1 σ H Q ∨ t2 σ H Q) :=
  ⟨fun pins s σ H Q I h => h.elim (h1.run pins s σ H Q I) (h2.run pins s σ H Q I)⟩
theorem ps_or {e : Stmt} {t1 t2 : TS} (h1 : PS X e t1) (h2 : PS X e t2) : PS X e (fun D σ H => t1 D σ H ∨ t2 D σ H) :=
  ⟨fun pins s σ H D I h => h.elim (h1.run pins s σ H D I) (h2.run pins s σ H D I)⟩
/-- an own dict is locked -/
theorem Sl.lock {K : Frag} {Z H : Hp} {env : Env} {σ : L2.St} {a : Addr} {u : HO} {od : Obj} (h : H a = some u) (d : IsDc u) (sl : Sl K Z env σ H) : Sl K Z env σ (upd H a (.frz od u)) := by
  refine ⟨sl.1, fun j sv e => ?_⟩
  have q := sl.2 j sv e
  cases sv with
  | un => trivial
  | ex c => trivial
  | rv r =>
    obtain ⟨d', m⟩ := r
    cases m with
    | im => exact q
    | ow => obtain ⟨b, z1, z2, z3⟩ := q; exact ⟨b, z1, z2.upS (Sm.refl _) (smF h d), z3⟩
    | bo => obtain ⟨b, z1, z2⟩ := q; exact ⟨b, z1, z2.upS (Sm.refl _) (smF h d)⟩
theorem same_lock {Z H : Hp} {a : Addr} {o : HO} (i : Same Z H) (hz : Z a = none) : Same Z (upd H a o) := fun b x e => by
  rw [upd_ne fun z => by rw [z, hz] at e; cases e]
  exact i b x e
/-- from the locked state to the state behind the lock -/
theorem Ext.unlock {Z H Z' H' : Hp} {a : Addr} {u : HO} {od : Obj} (h : H a = some u) (d : IsDc u) (hz : Z a = none) (x : Ext Z (upd H a (.frz od u)) Z' H') : H' a = some (.frz od u) ∧ Ext Z H Z' (upd H' a u) := by
  have nt : NT (upd H a (.frz od u) a) := by rw [upd_same]; trivial
  have e := (x.own a hz nt).trans upd_same
  have z' : Z' a = none := x.new a hz nt
  refine ⟨e, x.z, fun b o q => ?_, fun b hb n => ?_, fun b o q => ?_, fun b hb n => x.new b hb ?_⟩
  · by_cases c : b = a
    · subst c
      rw [h] at q
      cases q
      exact .inl upd_same
    · rw [upd_ne c]
      exact x.h b o (by rw [upd_ne c]; exact q)
  · by_cases c : b = a
    · subst c
      rw [upd_same, h]
    · rw [upd_ne c, x.own b hb (by rw [upd_ne c]; exact n), upd_ne c]
  · rw [upd_ne fun c => by rw [c, z'] at q; cases q]
    exact x.in_ b o q
  · by_cases c : b = a
    · subst c
      exact nt
    · rw [upd_ne c]
      exact n
theorem kR.lock {K : Frag} {Z H : Hp} {a : Addr} {u : HO} {od : Obj} {Q : VK} {d' : PyData} (h : H a = some u) (d : IsDc u) (hz : Z a = none) (k : kR K Z H Q (ow d')) : kR K Z (upd H a (.frz od u)) (fun v H' => H' a = some (.frz od u) ∧ Q v (upd H' a u)) (ow d') := fun Z' H' v x rv => by
  obtain ⟨e, x2⟩ := Ext.unlock h d hz x
  refine ⟨e, k Z' _ v x2 ?_⟩
  obtain ⟨b, e1, q1, q2, q3⟩ := rv
  have hb : b ≠ a := fun c => by rw [c, upd_same] at q1; cases q1
  rw [upd_ne hb] at q1
  exact ⟨b, e1, q1, q2, q3.up (Sm.refl _) (upd_ne hb)⟩
theorem pv_lcd {i : Nat} {n : Str} {p : Pos} {own : List (String × Nat)} {ownS : List (Str × Nat)} {t : Tg} {cond elt : Ex} {tg' elt' : Expr} {ifs' : List Expr} {scope : Scope} (hc : X.calm = true) (hNd : X.N.Nodup) (hN : X.N[i]? = some n) (hv : Vis X.env.scope n) (h1 : (n == ("__debug__" : Str)) = false) (h2 : (n == ("__classdict__" : Str)) = false) (ok : BlkOk X.N X.env.scope scope ownS) (hown : ownS.map (·.2) = own.map (·.2))
    (htg : ∀ i ∈ tgS t, i ∈ own.map (·.2))
    (hg : ∀ (s : Shared) (H : Hp) (C : Addr) (cl : List (Str × Addr)) (fp : List Addr), PG (X.blk s H scope (compEnvC scope cl C X.env) fp) tg' (TGt X.K t))
    (ht : ∀ (s : Shared) (H : Hp) (C : Addr) (cl : List (Str × Addr)) (fp : List Addr), PTs (X.blk s H scope (compEnvC scope cl C X.env) fp) ifs' (TTc Φ X.K X.mg WF cond))
    (he : ∀ (s : Shared) (H : Hp) (C : Addr) (cl : List (Str × Addr)) (fp : List Addr), PEv Φ (X.blk s H scope (compEnvC scope cl C X.env) fp) WF elt' elt) :
    PEv Φ X W (.ListComp elt' [⟨tg', .Name n p, ifs', 0⟩] scope pos) (.lcd own t false i cond elt) := by
  have base := pe_lc (pos := pos) (te := TGv Φ X.K X.mg WF elt) hc hNd (pi_keys (pe_var (X := X) (pos := p) hN hv h1 h2)) ok hg ht (fun s H C cl fp => gv_of (he s H C cl fp)) (fun x => rfl)
  refine PE.imp (pe_or base (pe_lock base)) fun σ H Q ⟨Z, env, sl, i0, hf⟩ => ?_
  unfold ev at hf
  split at hf
  · rename_i tk kvs hE
    obtain ⟨g, hf⟩ := hf.gd
    simp only [Bool.not_false, Bool.true_or, Bool.and_true] at g
    obtain ⟨a, ha, hR, hz⟩ := sl.2 _ _ hE
    have hx : Fine (XWs X.mg W σ Z H) (kR X.K Z H Q) (gd (decide ((kvs.map (·.1)).length ≤ LIM)) ((goLc (lcF Φ own t cond elt env) (kvs.map (·.1)) []).bd fun out => .ok (ow (.list out)))) := by
      rw [List.length_map, g]
      exact hf
    have loc : ∀ {u : HO} {od : Obj} (hu : H a = some u) (d : IsDc u), Fine (fun _ => False) (kR X.K Z (upd H a (.frz od u)) (fun v H' => H' a = some (.frz od u) ∧ Q v (upd H' a u))) (gd (decide ((kvs.map (·.1)).length ≤ LIM)) ((goLc (lcF Φ own t cond elt env) (kvs.map (·.1)) []).bd fun out => .ok (ow (.list out)))) := fun hu d => by
      obtain ⟨g2, hx2⟩ := hx.gd
      rw [g2]
      obtain ⟨out, e, hx3⟩ := hx2.bd.pure fun c => goLc_nx fun d c => lcF_nx d c
      rw [e]
      exact kR.lock hu d hz hx3
    rcases hR with ⟨ks, es', e0, hr, rk⟩ | ⟨ks, es', e0, hr, rk⟩
    · cases e0
      rcases hr with hr | ⟨o, hr⟩
      · refine .inr ⟨a, _, hr, trivial, fun od => ⟨_, ha, a, od, rfl, .inl ⟨_, upd_same, fun D hD => ?_⟩⟩⟩
        rw [hown]
        exact lc_loop htg (sl.lock hr trivial) (Ext.refl (same_lock i0 hz)) (walk_keys upd_same rk) (loc hr trivial) D hD
      · refine .inl ⟨_, ha, a, o, rfl, .inl ⟨_, hr, fun D hD => ?_⟩⟩
        rw [hown]
        exact lc_loop htg sl (Ext.refl i0) (walk_keys hr rk) hx D hD
    · cases e0
      rcases hr with hr | ⟨o, hr⟩
      · refine .inr ⟨a, _, hr, trivial, fun od => ⟨_, ha, a, od, rfl, .inr ⟨_, upd_same, fun D hD => ?_⟩⟩⟩
        rw [hown]
        exact lc_loop htg (sl.lock hr trivial) (Ext.refl (same_lock i0 hz)) (walk_keysT upd_same rk) (loc hr trivial) D hD
      · refine .inl ⟨_, ha, a, o, rfl, .inr ⟨_, hr, fun D hD => ?_⟩⟩
        rw [hown]
        exact lc_loop htg sl (Ext.refl i0) (walk_keysT hr rk) hx D hD
  · exact hf.elim
end
end Tdl
/-! TdStm1: the state between statements. -/
namespace Tdl
open PySem PySem.W L2 PySem.Spec PyProof.Rows
/-- the slots between two statements, seen from the def's start (Z0, H0) -/
structure Stt (K : Frag) (Z0 H0 Z : Hp) (env : Env) (σ : L2.St) (H : Hp) : Prop where
  sl : Sl K Z env σ H
  ext : Ext Z0 H0 Z H
  own : ∀ (i : Nat) (d : PyData), env[i]? = some (.rv ⟨d, .ow⟩) → ∃ a, σ[i]? = some (some (.ref a)) ∧ H0 a = none ∧ Z a = none ∧ OwnM K Z H a d
  sep : ∀ (i j : Nat) (d e : PyData) (a : Addr), env[i]? = some (.rv ⟨d, .ow⟩) → env[j]? = some (.rv ⟨e, .ow⟩) → σ[i]? = some (some (.ref a)) → σ[j]? = some (some (.ref a)) → i = j
  bor : ∀ (i : Nat) (d : PyData), env[i]? = some (.rv ⟨d, .bo⟩) → ∃ a, σ[i]? = some (some (.ref a)) ∧ NT (H0 a)
section
variable {K : Frag} {Z0 H0 Z H Z1 H1 : Hp} {env env' : Env} {σ σ' : L2.St}
theorem Stt.up (x : Ext Z H Z1 H1) (s : Stt K Z0 H0 Z env σ H) : Stt K Z0 H0 Z1 env σ H1 :=
  ⟨s.sl.up x, s.ext.trans x, fun i d e => by
    obtain ⟨a, h1, h2, h3, h4⟩ := s.own i d e
    exact ⟨a, h1, h2, x.new a h3 h4.nt, h4.upS x h3⟩, s.sep, s.bor⟩
theorem get_set {α : Type} {l : List α} {i j : Nat} {x y : α} (e : (l.set i x)[j]? = some y) : (i = j ∧ x = y ∧ i < l.length) ∨ (i ≠ j ∧ l[j]? = some y) := by
  by_cases c : i = j
  · subst c
    by_cases hl : i < l.length
    · rw [List.getElem?_set_self hl] at e
      cases e
      exact .inl ⟨rfl, rfl, hl⟩
    · rw [List.getElem?_eq_none (by rw [List.length_set]; omega)] at e
      cases e
  · rw [List.getElem?_set_ne c] at e
    exact .inr ⟨c, e⟩
/-- a slot gets a thing that is never changed -/
theorem Stt.seti {i : Nat} {v : V} {d : PyData} (s : Stt K Z0 H0 Z env σ H) (r : Rep K Z v d) : Stt K Z0 H0 Z (env.set i (.rv (im d))) (σ.set i (some v)) H := by
  refine ⟨s.sl.set fun σ' h => ⟨v, h, r⟩, s.ext, fun j e h => ?_, fun j k e f a h1 h2 h3 h4 => ?_, fun j e h => ?_⟩
  · rcases get_set h with ⟨_, q, _⟩ | ⟨c, q⟩
    · cases q
    · obtain ⟨a, h1, h2⟩ := s.own j e q
      exact ⟨a, (List.getElem?_set_ne c).trans h1, h2⟩
  · rcases get_set h1 with ⟨_, q, _⟩ | ⟨c, q⟩
    · cases q
    · rcases get_set h2 with ⟨_, q2, _⟩ | ⟨c2, q2⟩
      · cases q2
      · rw [List.getElem?_set_ne c] at h3
        rw [List.getElem?_set_ne c2] at h4
        exact s.sep j k e f a q q2 h3 h4
  · rcases get_set h with ⟨_, q, _⟩ | ⟨c, q⟩
    · cases q
    · obtain ⟨a, h1, h2⟩ := s.bor j e q
      exact ⟨a, (List.getElem?_set_ne c).trans h1, h2⟩
/-- a slot gets a thing of its own -/
theorem Stt.seto {i : Nat} {a : Addr} {d : PyData} (s : Stt K Z0 H0 Z env σ H) (h0 : H0 a = none) (hz : Z a = none) (o : OwnM K Z H a d) (new : ∀ (j : Nat) (e : PyData), j ≠ i → env[j]? = some (.rv ⟨e, .ow⟩) → σ[j]? ≠ some (some (.ref a))) : Stt K Z0 H0 Z (env.set i (.rv (ow d))) (σ.set i (some (.ref a))) H := by
  refine ⟨s.sl.set fun σ' h => ⟨a, h, o.rd, hz⟩, s.ext, fun j e h => ?_, fun j k e f b h1 h2 h3 h4 => ?_, fun j e h => ?_⟩
  · rcases get_set h with ⟨e1, q, hl⟩ | ⟨c, q⟩
    · cases q
      subst e1
      exact ⟨a, List.getElem?_set_self (by rw [← s.sl.1]; exact hl), h0, hz, o⟩
    · obtain ⟨a, h1, h2⟩ := s.own j e q
      exact ⟨a, (List.getElem?_set_ne c).trans h1, h2⟩
  · rcases get_set h1 with ⟨e1, q, hl⟩ | ⟨c, q⟩
    · rcases get_set h2 with ⟨e2, q2, _⟩ | ⟨c2, q2⟩
      · exact e1.symm.trans e2
      · subst e1
        rw [List.getElem?_set_self (by rw [← s.sl.1]; exact hl)] at h3
        cases h3
        rw [List.getElem?_set_ne c2] at h4
        exact absurd h4 (new k f (Ne.symm c2) q2)
    · rcases get_set h2 with ⟨e2, q2, hl⟩ | ⟨c2, q2⟩
      · subst e2
        rw [List.getElem?_set_self (by rw [← s.sl.1]; exact hl)] at h4
        cases h4
        rw [List.getElem?_set_ne c] at h3
        exact absurd h3 (new j e (Ne.symm c) q)
      · rw [List.getElem?_set_ne c] at h3
        rw [List.getElem?_set_ne c2] at h4
        exact s.sep j k e f b q q2 h3 h4
  · rcases get_set h with ⟨_, q, _⟩ | ⟨c, q⟩
    · cases q
    · obtain ⟨b, h1, h2⟩ := s.bor j e q
      exact ⟨b, (List.getElem?_set_ne c).trans h1, h2⟩
/-- what a slot gets, from a value just made -/
theorem Stt.keep {i : Nat} {v : V} {r r' : RV} {o : Bool} (s : Stt K Z0 H0 Z env σ H) (x : Ext Z H Z1 H1) (rr : RVr K H Z1 H1 r v) (e : Tdl.keep o r = .ok r') : ∃ Z2, Ext Z H Z2 H1 ∧ Stt K Z0 H0 Z2 (env.set i (.rv r')) (σ.set i (some v)) H1 := by
  have giv : ∀ d, fr r = .ok d → ∃ Z2, Ext Z H Z2 H1 ∧ Stt K Z0 H0 Z2 (env.set i (.rv (im d))) (σ.set i (some v)) H1 := fun d hd => by
    obtain ⟨Z2, g1, g2, g3, g4⟩ := rr.give x.in_ hd
    have x2 : Ext Z H Z2 H1 := x.given g2 g3 g4
    exact ⟨Z2, x2, (s.up x2).seti g1⟩
  obtain ⟨d, m⟩ := r
  cases m with
  | bo => cases e
  | im => cases e; exact giv d rfl
  | ow =>
    cases o with
    | false => cases e; exact giv d rfl
    | true =>
      cases e
      obtain ⟨a, rfl, h1, h2, h3⟩ := rr
      refine ⟨Z1, x, (s.up x).seto (s.ext.h.free h1) h2 h3 fun j e hj he hs => ?_⟩
      obtain ⟨b, q1, q2, q3, q4⟩ := s.own j e he
      rw [hs] at q1
      cases q1
      exact q4.nt.ne h1
/-- what a def gives back -/
theorem keep_ret {v : V} {r r' : RV} (s : Ext Z0 H0 Z H) (x : Ext Z H Z1 H1) (rr : RVr K H Z1 H1 r v) (e : Tdl.keep true r = .ok r') : RVr K H0 Z1 H1 r' v := by
  obtain ⟨d, m⟩ := r
  cases m with
  | bo => cases e
  | im => cases e; exact rr
  | ow =>
    cases e
    obtain ⟨a, rfl, h1, h2, h3⟩ := rr
    exact ⟨a, rfl, s.h.free h1, h2, h3⟩
/-- targets bound -/
theorem Stt.bind {t : Tg} {x : PyData} (s : Stt K Z0 H0 Z env σ H) (sl : Sl K Z env' σ' H) (e : bindT t x env = .ok env') (st : Stay (tgS t) σ σ') : Stt K Z0 H0 Z env' σ' H := by
  have back : ∀ (i : Nat) (d : PyData), env'[i]? = some (.rv ⟨d, .ow⟩) → env[i]? = some (.rv ⟨d, .ow⟩) ∧ σ'[i]? = σ[i]? := fun i d h => by
    rcases bindT_im e i _ h with ⟨q1, q2⟩ | ⟨d, q1⟩
    · exact ⟨q1, st.2 i q2⟩
    · cases q1
  refine ⟨sl, s.ext, fun i d h => ?_, fun i j d e a h1 h2 h3 h4 => ?_, fun i d h => ?_⟩
  · obtain ⟨q1, q2⟩ := back i d h
    obtain ⟨a, h1, h2⟩ := s.own i d q1
    exact ⟨a, q2.trans h1, h2⟩
  · obtain ⟨q1, q2⟩ := back i d h1
    obtain ⟨q3, q4⟩ := back j e h2
    exact s.sep i j d e a q1 q3 (q2.symm.trans h3) (q4.symm.trans h4)
  · rcases bindT_im e i _ h with ⟨q1, q2⟩ | ⟨d, q1⟩
    · obtain ⟨a, h1, h2⟩ := s.bor i d q1
      exact ⟨a, (st.2 i q2).trans h1, h2⟩
    · cases q1
theorem OwnM.no {a : Addr} {d : PyData} (h : OwnM K Z H a d) (b : Addr) (o : HO) (c : a ≠ b) : OwnM K Z (upd H b o) a d := h.up (Sm.refl _) (upd_ne c)
/-- an own thing is changed -/
theorem Stt.mut {i : Nat} {a : Addr} {d d' : PyData} {o : HO} (s : Stt K Z0 H0 Z env σ H) (hi : env[i]? = some (.rv (ow d))) (ha : σ[i]? = some (some (.ref a))) (om : OwnM K Z (upd H a o) a d') : Stt K Z0 H0 Z (env.set i (.rv (ow d'))) σ (upd H a o) := by
  obtain ⟨a', h1, h2, h3, h4⟩ := s.own i d hi
  rw [ha] at h1
  cases h1
  have oth : ∀ (j : Nat) (e : PyData), env[j]? = some (.rv ⟨e, .ow⟩) → j ≠ i → ∀ b, σ[j]? = some (some (.ref b)) → b ≠ a := fun j e he hj b hb => by
    rintro rfl
    exact hj (s.sep j i e d b he hi hb ha)
  refine ⟨⟨by rw [List.length_set]; exact s.sl.1, fun j sv e => ?_⟩, s.ext.put h2 h3, fun j e h => ?_, fun j k e f b g1 g2 g3 g4 => ?_, fun j e h => ?_⟩
  · rcases get_set e with ⟨e1, q, hl⟩ | ⟨c, q⟩
    · subst e1
      subst q
      exact ⟨a, ha, om.rd, h3⟩
    · have z := s.sl.2 j sv q
      cases sv with
      | un => trivial
      | ex c => trivial
      | rv r =>
        obtain ⟨d, m⟩ := r
        cases m with
        | im => exact z
        | ow =>
          obtain ⟨b, z1, z2⟩ := z
          exact ⟨b, z1, z2.1.up (Sm.refl _) (upd_ne (oth j d q (Ne.symm c) b z1)), z2.2⟩
        | bo =>
          obtain ⟨b, z1, z2⟩ := z
          refine ⟨b, z1, z2.up (Sm.refl _) (upd_ne fun e => ?_)⟩
          obtain ⟨b', y1, y2⟩ := s.bor j d q
          rw [z1] at y1
          cases y1
          rw [e] at y2
          exact y2.ne h2
  · rcases get_set h with ⟨e1, q, hl⟩ | ⟨c, q⟩
    · cases q
      subst e1
      exact ⟨a, ha, h2, h3, om⟩
    · obtain ⟨b, z1, z2, z3, z4⟩ := s.own j e q
      exact ⟨b, z1, z2, z3, z4.no a o (oth j e q (Ne.symm c) b z1)⟩
  · have bk : ∀ (j : Nat) (e : PyData), (env.set i (.rv (ow d')))[j]? = some (.rv ⟨e, .ow⟩) → ∃ f, env[j]? = some (.rv ⟨f, .ow⟩) := fun j e h => by
      rcases get_set h with ⟨e1, q, hl⟩ | ⟨c, q⟩
      · subst e1
        exact ⟨d, hi⟩
      · exact ⟨e, q⟩
    obtain ⟨f1, q1⟩ := bk j e g1
    obtain ⟨f2, q2⟩ := bk k f g2
    exact s.sep j k f1 f2 b q1 q2 g3 g4
  · rcases get_set h with ⟨_, q, _⟩ | ⟨c, q⟩
    · cases q
    · exact s.bor j e q
/-- an own thing is given away where it stands -/
theorem Stt.frz (s : Stt K Z0 H0 Z env σ H) (i : Nat) : ∃ Z2, Same Z Z2 ∧ Stt K Z0 H0 Z2 (frzS env i) σ H := by
  unfold frzS
  split
  · rename_i d hi
    obtain ⟨a, ha, h2, h3, h4⟩ := s.own i d hi
    obtain ⟨o, ho⟩ := h4.there
    have zi : Same Z H := s.ext.in_
    have s1 : Same Z (L2.upd Z a o) := sameU h3
    have s2 : Same (L2.upd Z a o) H := fun b x e => by
      by_cases hb : b = a
      · subst hb
        rw [upd_same] at e
        rw [ho]
        exact e
      · rw [upd_ne hb] at e
        exact zi _ _ e
    have rp : Rep K (L2.upd Z a o) (.ref a) d := h4.rep s1 (by rw [upd_same, ho])
    have oth : ∀ (j : Nat) (e : PyData), env[j]? = some (.rv ⟨e, .ow⟩) → j ≠ i → ∀ b, σ[j]? = some (some (.ref b)) → b ≠ a := fun j e he hj b hb => by
      rintro rfl
      exact hj (s.sep j i e d b he hi hb ha)
    -- a is new since the start
    have x0 : Ext Z0 H0 (L2.upd Z a o) H := ⟨s.ext.z.trans s1, s.ext.h, s.ext.own, s2, fun b q r => by
      by_cases hb : b = a
      · subst hb
        exact absurd h2 r.ne
      · rw [upd_ne hb]
        exact s.ext.new b q r⟩
    refine ⟨L2.upd Z a o, s1, ⟨by rw [List.length_set]; exact s.sl.1, fun j sv e => ?_⟩, x0, fun j e h => ?_, fun j k e f b g1 g2 g3 g4 => ?_, fun j e h => ?_⟩
    · rcases get_set e with ⟨e1, q, hl⟩ | ⟨c, q⟩
      · subst e1
        subst q
        exact ⟨_, ha, rp⟩
      · have z := s.sl.2 j sv q
        cases sv with
        | un => trivial
        | ex c => trivial
        | rv r =>
          obtain ⟨d, m⟩ := r
          cases m with
          | im => obtain ⟨v, z1, z2⟩ := z; exact ⟨v, z1, z2.up s1⟩
          | ow =>
            obtain ⟨b, z1, z2, z3⟩ := z
            exact ⟨b, z1, z2.upS s1 (Sm.refl _), by rw [upd_ne (oth j d q (Ne.symm c) b z1)]; exact z3⟩
          | bo => obtain ⟨b, z1, z2⟩ := z; exact ⟨b, z1, z2.upS s1 (Sm.refl _)⟩
    · rcases get_set h with ⟨e1, q, hl⟩ | ⟨c, q⟩
      · cases q
      · obtain ⟨b, z1, z2, z3, z4⟩ := s.own j e q
        exact ⟨b, z1, z2, by rw [upd_ne (oth j e q (Ne.symm c) b z1)]; exact z3, z4.up s1 rfl⟩
    · rcases get_set g1 with ⟨e1, q, hl⟩ | ⟨c, q⟩
      · cases q
      · rcases get_set g2 with ⟨e1, q2, hl⟩ | ⟨c, q2⟩
        · cases q2
        · exact s.sep j k e f b q q2 g3 g4
    · rcases get_set h with ⟨_, q, _⟩ | ⟨c, q⟩
      · cases q
      · exact s.bor j e q
  · exact ⟨Z, Same.refl _, s⟩
end
end Tdl
/-! TdStm2: statements. -/
namespace Tdl
open PySem PySem.W L2 PySem.Spec PyProof.Rows
abbrev We (E : XK) : WX := fun cls d _ H => E cls d H
/-- an exception of class c is wished for, at every state that has grown from the start -/
def EX (mg : Str → Option Value) (E : XK) (Z0 H0 : Hp) (c : String) : Prop := ∀ C Z' H', mg (Str.ofString c) = some (.ref C) → Ext Z0 H0 Z' H' → E (.ref C) none H'
def kF (K : Frag) (Z0 H0 : Hp) (D : Ends) (Z : Hp) : Tdl.Flow → Prop
  | .nx env' => ∀ Z' σ' H', Sm Z Z' → Stt K Z0 H0 Z' env' σ' H' → D.nx σ' H'
  | .rt r => ∀ Z' H' v, Ext Z0 H0 Z' H' → RVr K H0 Z' H' r v → D.rt v H'
section
variable (Φ : Fns) (F : Nat) (K : Frag) (mg : Str → Option Value) (E : XK) (Z0 H0 : Hp)
def TSt (t : Stm) : TS := fun D σ H => ∃ Z env, Stt K Z0 H0 Z env σ H ∧ Fine (EX mg E Z0 H0) (kF K Z0 H0 D Z) (ex Φ F t env)
def TSs (ts : List Stm) : TS := fun D σ H => ∃ Z env, Stt K Z0 H0 Z env σ H ∧ Fine (EX mg E Z0 H0) (kF K Z0 H0 D Z) (exs Φ F ts env)
end
theorem kF.up {K : Frag} {Z0 H0 Z Z1 : Hp} {D : Ends} (s : Sm Z Z1) {f : Tdl.Flow} (h : kF K Z0 H0 D Z f) : kF K Z0 H0 D Z1 f := by
  cases f with
  | nx env' => exact fun Z' σ' H' q => h Z' σ' H' (s.trans q)
  | rt r => exact h
abbrev PSt (Φ : Fns) (F : Nat) (X : Cx) (E : XK) (Z0 H0 : Hp) (s : Stmt) (t : Stm) : Prop := PS X s (TSt Φ F X.K X.mg E Z0 H0 t)
abbrev PSu (Φ : Fns) (F : Nat) (X : Cx) (E : XK) (Z0 H0 : Hp) (s : List Stmt) (t : List Stm) : Prop := PSs X s (TSs Φ F X.K X.mg E Z0 H0 t)
section
variable {Φ : Fns} {F : Nat} {X : Cx} {E : XK} {Z0 H0 : Hp} {st : Stmt} {ss : List Stmt} {t : Stm} {ts : List Stm}
theorem PS.imp {t t' : TS} (h : PS X st t) (i : ∀ D σ H, t' D σ H → t D σ H) : PS X st t' := ⟨fun pins s σ H D I hw => h.run pins s σ H D I (i D σ H hw)⟩
theorem PSs.imp {t t' : TS} (h : PSs X ss t) (i : ∀ D σ H, t' D σ H → t D σ H) : PSs X ss t' := ⟨fun pins s σ H D I hw => h.run pins s σ H D I (i D σ H hw)⟩
theorem EX.xw {mg : Str → Option Value} {Z H : Hp} {σ : L2.St} {c : String} (x : Ext Z0 H0 Z H) (h : EX mg E Z0 H0 c) : XWs mg (We E) σ Z H c := fun C Z' H' e y => h C Z' H' e (x.trans y)
theorem su_nil : PSu Φ F X E Z0 H0 [] [] := PSs.imp pss_nil fun D σ H ⟨Z, env, s, hf⟩ => by
  unfold exs at hf
  exact hf Z σ H (Sm.refl _) s
theorem su_cons (h1 : PSt Φ F X E Z0 H0 st t) (h2 : PSu Φ F X E Z0 H0 ss ts) : PSu Φ F X E Z0 H0 (st :: ss) (t :: ts) := PSs.imp (pss_cons h1 h2) fun D σ H ⟨Z, env, s, hf⟩ => ⟨Z, env, s, by
  unfold exs at hf
  refine hf.bd.mono (fun _ h => h) fun f hf => ?_
  cases f with
  | nx env' => exact fun Z' σ' H' z s' => ⟨Z', env', s', hf.mono (fun _ h => h) fun f h => h.up z⟩
  | rt r => exact hf⟩
theorem su_doc {x : Str} {j : Nat} {p p2 : Pos} (h : PSu Φ F X E Z0 H0 ss ts) : PSu Φ F X E Z0 H0 (.Expr (.Constant (.str x) j p) p2 :: ss) ts := PSs.imp (pss_cons ps_doc h) fun D σ H h => h
theorem su_frz {i : Nat} (h : PSu Φ F X E Z0 H0 ss ts) : PSu Φ F X E Z0 H0 ss (.frz i :: ts) := PSs.imp h fun D σ H ⟨Z, env, s, hf⟩ => by
  unfold exs ex at hf
  obtain ⟨Z2, z2, s2⟩ := s.frz i
  exact ⟨Z2, frzS env i, s2, hf.mono (fun _ h => h) fun f h => h.up z2⟩
/-- a value is computed, then an end -/
theorem ev_end {x : Ex} {Z H : Hp} {env : Env} {σ : L2.St} {k : RV → Prop} {Q : VK} (s : Stt X.K Z0 H0 Z env σ H) (hf : Fine (EX X.mg E Z0 H0) k (ev Φ x env)) (hk : ∀ r, k r → ∀ Z1 H1 v, Ext Z H Z1 H1 → RVr X.K H Z1 H1 r v → Q v H1) : TEv Φ X.K X.mg (We E) x σ H Q :=
  ⟨Z, env, s.sl, s.ext.in_, hf.mono (fun c h => h.xw s.ext) fun r hr Z1 H1 v x1 rr => hk r hr Z1 H1 v x1 rr⟩
theorem keep_nx {o : Bool} {r : RV} {c : String} : keep o r ≠ .exc c := by unfold keep; (repeat (first | split | (refine gd_nx ?_) | (intro h; cases h; done) | exact fun e => nomatch e))
theorem st_asg {x : Ex} {i : Nat} {o : Bool} (h : PS X st (tAsg (TEv Φ X.K X.mg (We E) x) (gName i))) : PSt Φ F X E Z0 H0 st (.asg (.nm i) o x) := PS.imp h fun D σ H ⟨Z, env, s, hf⟩ => by
  unfold ex at hf
  refine ev_end s hf.bd fun r hr Z1 H1 v x1 rr => ?_
  obtain ⟨r', e, hq⟩ := hr.bd.pure fun c => keep_nx
  obtain ⟨Z2, x2, s2⟩ := s.keep (i := i) x1 rr e
  exact hq Z2 _ H1 x2.z s2
theorem st_asgT {e tg : Expr} {x : Ex} {us : List Tg} {o : Bool} {pos : Pos} (he : PEv Φ X (We E) e x) (hg : PG X tg (TGt X.K (.tp us))) (hs : swapsWithSole [tg] e pos.line X.env = pure false) (hw : swappedStores [tg] e X.env = pure none)
    (h1 : (assignEach [tg] X.env).map (·.2) = [assign tg X.env]) : PSt Φ F X E Z0 H0 (.Assign [tg] e pos) (.asg (.tp us) o x) := PS.imp (ps_asg (gv_of he) hg hs hw h1) fun D σ H ⟨Z, env, s, hf⟩ => by
  unfold ex at hf
  rw [← bd_bd] at hf
  refine ⟨Z, env, s.sl, s.ext.in_, hf.bd.mono (fun c h => h.xw s.ext) fun d hd Z1 H1 v x1 rv => ?_⟩
  obtain ⟨env', eb, hq⟩ := hd.bd.pure fun c => bindT_nx
  have s1 := s.up x1
  exact ⟨Z1, env, d, env', s1.sl, x1.in_, rv, eb, fun σ' sl st => hq Z1 σ' H1 x1.z (s1.bind sl eb st)⟩
theorem st_ret {e : Expr} {x : Ex} {pos : Pos} (he : PEv Φ X (We E) e x) : PSt Φ F X E Z0 H0 (.Return (some e) pos) (.ret x) := PS.imp (ps_ret he) fun D σ H ⟨Z, env, s, hf⟩ => by
  unfold ex at hf
  refine ev_end s hf.bd fun r hr Z1 H1 v x1 rr => ?_
  obtain ⟨r', e, hq⟩ := hr.bd.pure fun c => keep_nx
  exact hq Z1 H1 v (s.ext.trans x1) (keep_ret s.ext x1 rr e)
theorem st_retN {pos : Pos} : PSt Φ F X E Z0 H0 (.Return none pos) (.ret (.cst .none)) := PS.imp ps_retN fun D σ H ⟨Z, env, s, hf⟩ => by
  unfold ex ev at hf
  have hf : Fine (EX X.mg E Z0 H0) (kF X.K Z0 H0 D Z) (.ok (.rt (im .none))) := hf
  exact hf Z H .non s.ext .non
theorem st_retv {n : Str} {i : Nat} {p pos : Pos} (hN : X.N[i]? = some n) (hv : Vis X.env.scope n) (h1 : (n == ("__debug__" : Str)) = false) (h2 : (n == ("__classdict__" : Str)) = false) : PSt Φ F X E Z0 H0 (.Return (some (.Name n p)) pos) (.retv i) := PS.imp (ps_ret (pe_var hN hv h1 h2)) fun D σ H ⟨Z, env, s, hf⟩ => by
  unfold ex owned at hf
  split at hf
  · rename_i d he
    obtain ⟨a, ha, h2, h3, h4⟩ := s.own _ _ he
    have hf : Fine (EX X.mg E Z0 H0) (kF X.K Z0 H0 D Z) (.ok (.rt (ow d))) := hf
    exact ⟨_, ha, hf Z H _ s.ext ⟨a, rfl, h2, h3, h4⟩⟩
  · exact hf.elim
theorem st_iff {c : Expr} {x : Ex} {a b : List Stmt} {a' b' : List Stm} {pos : Pos} (hc : PTv Φ X (We E) c x) (ha : PSu Φ F X E Z0 H0 a a') (hb : PSu Φ F X E Z0 H0 b b') : PSt Φ F X E Z0 H0 (.If c a b pos) (.iff x a' b') := PS.imp (ps_if hc ha hb) fun D σ H ⟨Z, env, s, hf⟩ => by
  unfold ex at hf
  have hf' : Fine (EX X.mg E Z0 H0) (fun k => Fine (EX X.mg E Z0 H0) (kF X.K Z0 H0 D Z) (match k with | true => exs Φ F a' env | false => exs Φ F b' env)) ((ev Φ x env).bd bl) := by
    rw [← bd_bd] at hf
    exact hf.bd
  refine ⟨Z, env, s.sl, s.ext.in_, hf'.mono (fun c h => h.xw s.ext) fun k hk Z1 H1 x1 => ?_⟩
  cases k with
  | true => rw [if_pos rfl]; exact ⟨Z1, env, s.up x1, hk.mono (fun _ h => h) fun f h => h.up x1.z⟩
  | false => rw [if_neg (by decide)]; exact ⟨Z1, env, s.up x1, hk.mono (fun _ h => h) fun f h => h.up x1.z⟩
theorem st_exq {e : Expr} {x : Ex} {pos : Pos} (he : PEv Φ X (We E) e x) (hs : swapsWith e none pos.line X.env = pure false) : PSt Φ F X E Z0 H0 (.Expr e pos) (.exq x) := PS.imp (ps_expr he hs) fun D σ H ⟨Z, env, s, hf⟩ => by
  unfold ex at hf
  exact ev_end s hf.bd fun r hr Z1 H1 v x1 rr => hr Z1 σ H1 x1.z (s.up x1)
theorem Stt.frzL {K : Frag} {H : Hp} {σ : L2.St} : ∀ (es : List Ex) {env : Env} {Z : Hp}, Stt K Z0 H0 Z env σ H → ∃ Z2, Same Z Z2 ∧ Stt K Z0 H0 Z2 (Tdl.frzL es env) σ H
  | [], env, Z, s => ⟨Z, Same.refl _, s⟩
  | e :: r, env, Z, s => by
    cases e <;> first | (unfold Tdl.frzL; exact Stt.frzL r s) | skip
    rename_i j
    obtain ⟨Z2, z2, s2⟩ := s.frz j
    obtain ⟨Z3, z3, s3⟩ := Stt.frzL r s2
    unfold Tdl.frzL
    exact ⟨Z3, z2.trans z3, s3⟩
theorem loopF_nx : True := trivial
theorem st_for {tg iter : Expr} {t : Tg} {k : Wk} {src : List Ex} {body : List Stmt} {b : List Stm} {pos : Pos} (hp : PassesOwn (model X.prog X.w) X.A X.env X.xe) (hc : X.calm = true) (hi : PWg Φ X (We E) tg iter k src) (hg : PG X tg (TGt X.K t)) (hb : PSu Φ F X E Z0 H0 body b)
    (hs : ∀ x, foldedSetIterable iter X.env x = pure x) : PSt Φ F X E Z0 H0 (.For tg iter body [] pos) (.for_ t k src b) := PS.imp (ps_for hp hc hi hg hb hs) fun D σ H ⟨Z, env0, s0, hf⟩ => by
  unfold ex at hf
  obtain ⟨Z2, z2, s⟩ := s0.frzL src
  have hf := hf.mono (fun _ h => h) fun f h => kF.up (.of z2) h
  generalize frzL src env0 = env at hf s
  clear z2 s0
  rw [← bd_bd] at hf
  refine ⟨Z2, env, s.sl, s.ext.in_, hf.bd.mono (fun c h => h.xw s.ext) fun xs hx Z1 H1 J x1 wd => ?_⟩
  have hx := hx.mono (fun _ h => h) fun f h => kF.up x1.z h
  refine ⟨fun j m σ' H' => m = xs.length - j ∧ j ≤ xs.length ∧ ∃ Z' env', Sm Z1 Z' ∧ Stt X.K Z0 H0 Z' env' σ' H' ∧ Fine (EX X.mg E Z0 H0) (kF X.K Z0 H0 D Z1) (loopF t (exs Φ F b) (xs.drop j) env'), ⟨xs.length, rfl, Nat.zero_le _, Z1, env, Sm.refl _, s.up x1, hx⟩, ?_⟩
  rintro j m σ2 H2 ⟨rfl, hj, Z2, env2, z2, s2, hr⟩
  obtain ⟨wgo, wst⟩ := wd Z2 H2 z2 (z2.trans (.of s2.ext.in_)) s2.ext.in_ j
  by_cases hlt : j < xs.length
  · obtain ⟨go, yld⟩ := wgo hlt
    have edrop : xs.drop j = xs[j] :: xs.drop (j + 1) := List.drop_eq_getElem_cons hlt
    rw [edrop] at hr
    unfold loopF at hr
    refine .inr ⟨go, fun σ3 H3 => ∃ Z' env', Sm Z1 Z' ∧ Stt X.K Z0 H0 Z' env' σ3 H3 ∧ Fine (EX X.mg E Z0 H0) (kF X.K Z0 H0 D Z1) (loopF t (exs Φ F b) (xs.drop (j + 1)) env'), fun σ3 H3 h => ⟨xs.length - (j + 1), by omega, rfl, hlt, h⟩, fun v H3 hy => ?_⟩
    obtain ⟨Z3, d, ed, x3, rv⟩ := yld v H3 hy
    rw [List.getElem?_eq_getElem hlt] at ed
    cases ed
    obtain ⟨env', eb, hr⟩ := hr.bd.pure fun c => bindT_nx
    have s3 := s2.up x3
    refine ⟨Z3, env2, xs[j], env', s3.sl, x3.in_, rv, eb, fun σ4 sl4 st4 => ⟨Z3, env', s3.bind sl4 eb st4, hr.bd.mono (fun _ h => h) fun f hf => ?_⟩⟩
    cases f with
    | nx e5 => exact fun Z5 σ5 H5 z5 s5 => ⟨Z5, e5, z2.trans (x3.z.trans z5), s5, hf⟩
    | rt r => exact hf
  · have ej : j = xs.length := by omega
    refine .inl ⟨wst ej, ?_⟩
    rw [ej, List.drop_length] at hr
    unfold loopF at hr
    have hr : kF X.K Z0 H0 D Z1 (.nx env2) := hr
    exact hr Z2 σ2 H2 z2 s2
theorem st_whl {c : Expr} {x : Ex} {body : List Stmt} {b : List Stm} {pos : Pos} (hp : PassesOwn (model X.prog X.w) X.A X.env X.xe) (hc : PTv Φ X (We E) c x) (hb : PSu Φ F X E Z0 H0 body b) : PSt Φ F X E Z0 H0 (.While c body [] pos) (.whl x b) := PS.imp (ps_while hp hc hb) fun D σ H ⟨Z, env, s, hf⟩ => by
  unfold ex at hf
  refine ⟨fun m σ' H' => ∃ Z' env', Sm Z Z' ∧ Stt X.K Z0 H0 Z' env' σ' H' ∧ Fine (EX X.mg E Z0 H0) (kF X.K Z0 H0 D Z) (loopW (fun e => (ev Φ x e).bd fun r => bl r) (exs Φ F b) m env'), ⟨F, Z, env, Sm.refl _, s, hf⟩, ?_⟩
  rintro m σ2 H2 ⟨Z2, env2, z2, s2, hr⟩
  cases m with
  | zero => unfold loopW at hr; exact hr.elim
  | succ m =>
    unfold loopW at hr
    refine ⟨Z2, env2, s2.sl, s2.ext.in_, hr.bd.mono (fun c h => h.xw s2.ext) fun k hk Z3 H3 x3 => ?_⟩
    cases k with
    | false =>
      rw [if_neg (by decide)]
      have hk : kF X.K Z0 H0 D Z (.nx env2) := hk
      exact hk Z3 σ2 H3 (z2.trans x3.z) (s2.up x3)
    | true =>
      rw [if_pos rfl]
      refine ⟨fun σ4 H4 => ∃ Z' env', Sm Z Z' ∧ Stt X.K Z0 H0 Z' env' σ4 H4 ∧ Fine (EX X.mg E Z0 H0) (kF X.K Z0 H0 D Z) (loopW (fun e => (ev Φ x e).bd fun r => bl r) (exs Φ F b) m env'), fun σ4 H4 h => ⟨m, Nat.lt_succ_self m, h⟩, Z3, env2, s2.up x3, hk.bd.mono (fun _ h => h) fun f hf => ?_⟩
      cases f with
      | nx e5 => exact fun Z5 σ5 H5 z5 s5 => ⟨Z5, e5, z2.trans (x3.z.trans z5), s5, hf⟩
      | rt r => exact hf
end
end Tdl
/-! TdStm3: stores, several targets, methods that change. -/
namespace Tdl
open PySem PySem.W L2 PySem.Spec PyProof.Rows
theorem place_ixN (n : Nat) (i : Int) : place n i = ixN n i := rfl
theorem owned_nx {env : Env} {i : Nat} {c : String} : owned env i ≠ .exc c := by unfold owned; (repeat (first | split | (refine gd_nx ?_) | (intro h; cases h; done) | exact fun e => nomatch e))
theorem putop_nx {d k v : PyData} {c : String} : putop d k v ≠ .exc c := by unfold putop; (repeat (first | split | (refine gd_nx ?_) | (intro h; cases h; done) | exact fun e => nomatch e))
theorem mutop_nx {m : Mu} {d : PyData} {ds : List PyData} {c : String} : mutop m d ds ≠ .exc c := by unfold mutop; (repeat (first | split | (refine gd_nx ?_) | (intro h; cases h; done) | exact fun e => nomatch e))
theorem owned_ok {env : Env} {i : Nat} {d : PyData} (h : owned env i = .ok d) : env[i]? = some (.rv (ow d)) := by
  unfold owned at h
  split at h
  · rename_i d he
    cases h
    exact he
  · cases h
section
variable {Φ : Fns} {F : Nat} {X : Cx} {E : XK} {Z0 H0 : Hp} {st : Stmt} {ss : List Stmt} {t : Stm} {ts : List Stm}
theorem pset_or {t1 t2 : TSet} (h1 : PSet X t1) (h2 : PSet X t2) : PSet X (fun o i v H Q => t1 o i v H Q ∨ t2 o i v H Q) :=
  fun pins s σ H o i v ov iv u Q I ro ri rv h => h.elim (h1 pins s σ H o i v ov iv u Q I ro ri rv) (h2 pins s σ H o i v ov iv u Q I ro ri rv)
/-- o[k] = v, by data -/
theorem put_data {Z H : Hp} {a : Addr} {d kd v d1 : PyData} {kv vv : V} {Q : Hp → Prop} (i : Same Z H) (om : OwnM X.K Z H a d) (rk : Rep X.K Z kv kd) (rv : Rep X.K Z vv v) (e : putop d kd v = .ok d1) (q : ∀ o, OwnM X.K Z (upd H a o) a d1 → Q (upd H a o)) : rSetL (.ref a) kv vv H Q ∨ rSetD (.ref a) kv vv H Q := by
  unfold putop at e
  split at e
  · rename_i tk kvs
    obtain ⟨g, e2⟩ := gd_ok e
    cases e2
    simp only [Bool.and_eq_true] at g
    obtain ⟨g1, g2⟩ := g
    have g2 := of_decide_eq_true g2
    rw [lim_eq] at g2
    rcases om with ⟨vs, es', e0, hH, rk2⟩ | ⟨vs, es', e0, hH, rk2⟩
    · cases e0
      obtain ⟨k, rfl, rfl⟩ := key_flat rk g1
      exact .inr ⟨a, _, rfl, DPut.k hH (by rw [rk2.length]; exact g2), q _ (.inl ⟨_, _, rfl, upd_same, rk2.put k rv⟩)⟩
    · cases e0
      obtain ⟨k, b, rfl, rfl, hb⟩ := key_tup rk g1
      exact .inr ⟨a, _, rfl, DPut.t hH (i _ _ hb) (by rw [rk2.length]; exact g2), q _ (.inr ⟨_, _, rfl, upd_same, rk2.put k rv⟩)⟩
  · rename_i xs
    split at e
    · rename_i n
      split at e
      · rename_i j hj
        cases e
        obtain ⟨vs, hH, rl⟩ := om
        cases rk
        refine .inl ⟨a, vs, n, j, rfl, rfl, hH, ?_, q _ ⟨_, upd_same, rl.set rv j⟩⟩
        rw [rl.length, ← place_ixN]
        exact hj
      · cases e
    · cases e
  · cases e
theorem st_put {k' v' : Expr} {n : Str} {i : Nat} {k x : Ex} {p p2 pos : Pos} (hu : X.A.units + 1 < cLine) (hN : X.N[i]? = some n) (hv : Vis X.env.scope n) (h1 : (n == ("__debug__" : Str)) = false) (h2 : (n == ("__classdict__" : Str)) = false)
    (hk : PEv Φ X (We E) k' k) (he : PEv Φ X (We E) v' x) (ha : ∀ v, assign (.Subscript (.Name n p) k' p2) X.env v = (do
      let ov ← holding [v] (eval (.Name n p) X.env)
      let iv ← holding [v, ov] (eval k' X.env)
      standAt p2
      holding [v, ov, iv] (setItem ov iv v)
      release [v, ov, iv] [])) (hs : swapsWithSole [.Subscript (.Name n p) k' p2] v' pos.line X.env = pure false) : PSt Φ F X E Z0 H0 (.Assign [.Subscript (.Name n p) k' p2] v' pos) (.put i k x) :=
  PS.imp (ps_asg (gv_of he) (pg_sub (pe_var hN hv h1 h2) (gv_of hk) (pset_or set_list (set_dict hu)) ha) hs rfl rfl) fun D σ H ⟨Z, env, s, hf⟩ => by
    unfold ex at hf
    refine ⟨Z, env, s.sl, s.ext.in_, hf.bd.mono (fun c h => h.xw s.ext) fun v hv Z1 H1 vv x1 rv => ?_⟩
    obtain ⟨d, ed, hv⟩ := hv.bd.pure fun c => owned_nx
    have hi := owned_ok ed
    have s1 := s.up x1
    obtain ⟨a, ha, _, _, _⟩ := s1.own _ _ hi
    refine ⟨.ref a, ha, Z1, env, s1.sl, x1.in_, hv.bd.mono (fun c h => h.xw s1.ext) fun kd hkd Z2 H2 kv x2 rk => ?_⟩
    have s2 := s1.up x2
    obtain ⟨a', ha', _, _, om⟩ := s2.own _ _ hi
    rw [ha] at ha'
    cases ha'
    obtain ⟨d1, e1, hq⟩ := hkd.bd.pure fun c => putop_nx
    refine put_data (Q := fun H' => D.nx σ H') x2.in_ om rk (rv.up x2.z) e1 fun o om2 => ?_
    exact hq Z2 σ _ (x1.trans x2).z (s2.mut hi ha om2)
/-! ### methods that change a list -/
def rMut (K : Frag) (m : Mu) : V → List V → Hp → VK → Prop := fun x xs H Q => ∃ Z a d ds d1, x = .ref a ∧ Same Z H ∧ OwnM K Z H a d ∧ RepL K Z xs ds ∧ mutop m d ds = .ok d1 ∧ ∀ v o, OwnM K Z (upd H a o) a d1 → Q v (upd H a o)
theorem mu_app : MtR X "list.append" (rMut X.K .app) := by
  intro pins s σ H x xs v us Q I rx rxs h
  obtain ⟨Z, a, d, ds, d1, rfl, i, om, rl, e, q⟩ := h
  unfold mutop at e
  split at e <;> first | (exfalso; exact absurd ‹Mu.app = _› (by decide)) | (cases e; done) | skip
  rename_i ys y _
  obtain ⟨g, e2⟩ := gd_ok e
  cases e2
  have g := of_decide_eq_true g
  rw [lim_eq] at g
  obtain ⟨w', rfl, hy⟩ := rl.one
  obtain ⟨vs, hH, rys⟩ := om
  exact mt_append pins s σ H (.ref a) [w'] v us Q I rx rxs ⟨a, vs, w', rfl, rfl, hH, by rw [rys.length]; exact g, q _ _ ⟨_, upd_same, rys.append (.cons hy .nil)⟩⟩
theorem mu_ins : MtR X "list.insert" (rMut X.K .ins) := by
  intro pins s σ H x xs v us Q I rx rxs h
  obtain ⟨Z, a, d, ds, d1, rfl, i, om, rl, e, q⟩ := h
  unfold mutop at e
  split at e <;> first | (exfalso; exact absurd ‹Mu.ins = _› (by decide)) | (cases e; done) | skip
  rename_i ys j y _
  obtain ⟨g, e2⟩ := gd_ok e
  cases e2
  obtain ⟨g1, g2⟩ := of_decide_eq_true g
  subst g1
  rw [lim_eq] at g2
  obtain ⟨w1, w2, rfl, hy1, hy⟩ := rl.two
  cases hy1
  obtain ⟨vs, hH, rys⟩ := om
  exact mt_insert pins s σ H (.ref a) [.int 0, w2] v us Q I rx rxs ⟨a, vs, 0, w2, rfl, rfl, hH, by rw [rys.length]; exact g2, by omega, by omega, q _ _ ⟨_, upd_same, .cons hy rys⟩⟩
theorem mu_pop : MtR X "list.pop" (rMut X.K .pop) := by
  intro pins s σ H x xs v us Q I rx rxs h
  obtain ⟨Z, a, d, ds, d1, rfl, i, om, rl, e, q⟩ := h
  unfold mutop at e
  split at e <;> first | (exfalso; exact absurd ‹Mu.pop = _› (by decide)) | (cases e; done) | skip
  rename_i ys j _
  split at e
  · rename_i k hk
    cases e
    obtain ⟨w1, rfl, hy⟩ := rl.one
    cases hy
    obtain ⟨vs, hH, rys⟩ := om
    have hk' : ixN vs.length j = some k := by rw [rys.length]; exact hk
    obtain ⟨q1, q2, q3, q4⟩ := ixN_seq hk'
    obtain ⟨z, _⟩ := I.lstM hH
    have hn := line63
    exact mt_popAt pins s σ H (.ref a) [.int j] v us Q I rx rxs ⟨a, vs, j, k, vs[k], rfl, rfl, hH, by omega, by omega, q1, List.getElem?_eq_getElem q2, q _ _ ⟨_, upd_same, rys.eraseIdx k⟩⟩
  · cases e
def muN : Mu → String
  | .app => "append" | .ext => "extend" | .upd => "update" | .rmv => "remove" | .clr => "clear" | .ins => "insert" | .pop => "pop"
/-- the ones with arguments given away -/
def muS : Mu → Bool
  | .app => true | .ins => true | .pop => true
  | _ => false
theorem mu_slot (m : Mu) (h : muS m = true) : Slot "list" (Str.ofString (muN m)) ("list." ++ muN m) ∧ typeOf (.builtin ("list." ++ muN m)) = pure (.type "method_descriptor") ∧ MtR X ("list." ++ muN m) (rMut X.K m) := by
  cases m with
  | app => exact ⟨PySem.F.slot_list_append, PySem.F.type_list_append, mu_app⟩
  | ins => exact ⟨PySem.F.slot_list_insert, PySem.F.type_list_insert, mu_ins⟩
  | pop => exact ⟨PySem.F.slot_list_pop, PySem.F.type_list_pop, mu_pop⟩
  | _ => cases h
theorem own_ty {K : Frag} {Z H : Hp} {a : Addr} {m : Mu} {d : PyData} (om : OwnM K Z H a d) (h : m ≠ .upd) (g : mutG m d = true) : tyV K "list" (.ref a) H := by
  cases d with
  | list ds =>
    obtain ⟨vs, h1, _⟩ := om
    exact .inl ⟨rfl, vs, .of h1⟩
  | _ => cases m <;> first | exact absurd rfl h | (unfold mutG at g; cases g)
theorem st_mut {m : Mu} {e : Expr} {es : List Expr} {xs : List Ex} {n : Str} {i : Nat} {p apos cpos pos : Pos} (hm : muS m = true) (hN : X.N[i]? = some n) (hv : Vis X.env.scope n) (h1 : (n == ("__debug__" : Str)) = false) (h2 : (n == ("__classdict__" : Str)) = false)
    (ha : PAs Φ X (We E) (e :: es) xs) (hs : (e :: es).all notStar = true) (hl : (e :: es).length < 29) (hline : (apos.endLine == cpos.line) = true) :
    PSt Φ F X E Z0 H0 (.Expr (.Call (.Attribute (.Name n p) (Str.ofString (muN m)) apos) (e :: es) [] cpos) pos) (.mut m i xs) := by
  have hs1 : notStar e = true := by simp only [List.all_cons, Bool.and_eq_true] at hs; exact hs.1
  have hs2 : es.all notStar = true := by simp only [List.all_cons, Bool.and_eq_true] at hs; exact hs.2
  obtain ⟨slot, hty, hmt⟩ := mu_slot (X := X) m hm
  refine PS.imp (ps_expr (pe_bm PySem.F.plainAttrs_list slot hty hmt (pe_var hN hv h1 h2) ha (base_is rfl _) (few_of hs hl) hline (star_cons hs1) (back_all hs2).2) rfl) fun D σ H ⟨Z, env, s, hf⟩ => ?_
  have hx : ex Φ F (.mut m i xs) env = (owned env i).bd fun d => gd (mutG m d) ((evs Φ xs env).bd fun ds => (mutop m d ds).bd fun d1 => .ok (.nx (env.set i (.rv (ow d1))))) := by
    cases m <;> first | (cases hm; done) | (unfold ex; rfl)
  rw [hx] at hf
  obtain ⟨d, ed, hf⟩ := hf.bd.pure fun c => owned_nx
  obtain ⟨g, hf⟩ := hf.gd
  have hi := owned_ok ed
  obtain ⟨a, ha, _, _, om0⟩ := s.own _ _ hi
  refine ⟨.ref a, ha, own_ty om0 (by rintro rfl; cases hm) g, Z, env, s.sl, s.ext.in_, hf.bd.mono (fun c h => h.xw s.ext) fun ds hds Z1 H1 vs x1 rs => ?_⟩
  have s1 := s.up x1
  obtain ⟨a', ha', _, _, om⟩ := s1.own _ _ hi
  rw [ha] at ha'
  cases ha'
  obtain ⟨d1, e1, hq⟩ := hds.bd.pure fun c => mutop_nx
  exact ⟨Z1, a, d, ds, d1, rfl, x1.in_, om, rs, e1, fun v o om2 => hq Z1 σ _ x1.z (s1.mut hi ha om2)⟩
theorem st_clr {n : Str} {i : Nat} {p apos cpos pos : Pos} (hN : X.N[i]? = some n) (hv : Vis X.env.scope n) (h1 : (n == ("__debug__" : Str)) = false) (h2 : (n == ("__classdict__" : Str)) = false) (hline : (apos.endLine == cpos.line) = true) :
    PSt Φ F X E Z0 H0 (.Expr (.Call (.Attribute (.Name n p) "clear" apos) [] [] cpos) pos) (.mut .clr i []) := by
  refine PS.imp (ps_expr (pe_bm0 (T := "list") (id := "list.clear") (r := rClear) PySem.F.plainAttrs_list PySem.F.slot_list_clear PySem.F.type_list_clear (fun pins s σ H x xs v us Q => mt_clear pins s σ H x xs v us Q) (pe_var hN hv h1 h2) (base_is rfl _) hline) rfl) fun D σ H ⟨Z, env, s, hf⟩ => ?_
  unfold ex at hf
  obtain ⟨d, ed, hf⟩ := hf.bd.pure fun c => owned_nx
  obtain ⟨g, hf⟩ := hf.gd
  have hi := owned_ok ed
  obtain ⟨a, ha, _, _, om0⟩ := s.own _ _ hi
  refine ⟨.ref a, ha, own_ty om0 (m := .clr) (by decide) g, ?_⟩
  cases d with
  | list ys =>
    obtain ⟨vs, hH, _⟩ := om0
    unfold evs at hf
    have hf : kF X.K Z0 H0 D Z (.nx (env.set i (.rv (ow (.list []))))) := hf
    exact ⟨a, vs, rfl, rfl, hH, hf Z σ _ (Sm.refl _) (s.mut hi ha ⟨[], upd_same, .nil⟩)⟩
  | _ => cases g
theorem st_ext {e : Expr} {x : Ex} {n : Str} {i : Nat} {p apos cpos pos : Pos} (hN : X.N[i]? = some n) (hv : Vis X.env.scope n) (h1 : (n == ("__debug__" : Str)) = false) (h2 : (n == ("__classdict__" : Str)) = false)
    (he : PEv Φ X (We E) e x) (hs : notStar e = true) (hline : (apos.endLine == cpos.line) = true) :
    PSt Φ F X E Z0 H0 (.Expr (.Call (.Attribute (.Name n p) "extend" apos) [e] [] cpos) pos) (.mut .ext i [x]) := by
  refine PS.imp (ps_expr (pe_bm (T := "list") (id := "list.extend") (r := rExtend) PySem.F.plainAttrs_list PySem.F.slot_list_extend PySem.F.type_list_extend (fun pins s σ H x xs v us Q => mt_extend pins s σ H x xs v us Q) (pe_var hN hv h1 h2) (pa_cons he pa_nil (star_cons hs)) (base_is rfl _) (few_of (es := [e]) (by simp [hs]) (by simp)) hline (star_cons hs) (back_all (es := []) rfl).2) rfl) fun D σ H ⟨Z, env, s, hf⟩ => ?_
  unfold ex at hf
  obtain ⟨d, ed, hf⟩ := hf.bd.pure fun c => owned_nx
  obtain ⟨g, hf⟩ := hf.gd
  have hi := owned_ok ed
  obtain ⟨a, ha, _, _, om0⟩ := s.own _ _ hi
  refine ⟨.ref a, ha, own_ty om0 (m := .ext) (by decide) g, ev_end s hf.bd fun r hr Z1 H1 v x1 rr => ?_⟩
  obtain ⟨g2, hr⟩ := hr.gd
  have g2 := of_decide_eq_true g2
  have s1 := s.up x1
  obtain ⟨a', ha', _, _, om⟩ := s1.own _ _ hi
  rw [ha] at ha'
  cases ha'
  obtain ⟨d1, e1, hq⟩ := hr.bd.pure fun c => mutop_nx
  obtain ⟨rd, rm⟩ := r
  have hb : ∀ zs, rd = .list zs → ∃ b ws, v = .ref b ∧ H1 b = some (.lst ws) ∧ RepL X.K Z1 ws zs := fun zs e => by
    subst e
    cases rm with
    | im => exact absurd rfl g2
    | ow => obtain ⟨b, e1, _, _, ws, h1, h2⟩ := rr; exact ⟨b, ws, e1, h1, h2⟩
    | bo => obtain ⟨b, e1, ws, h1, h2⟩ := rr; exact ⟨b, ws, e1, h1, h2⟩
  cases d with
  | list ys =>
    cases rd with
    | list zs =>
      unfold mutop at e1
      obtain ⟨g3, e2⟩ := gd_ok e1
      cases e2
      have g3 := of_decide_eq_true g3
      rw [lim_eq] at g3
      obtain ⟨b, ws, rfl, hB, rz⟩ := hb zs rfl
      obtain ⟨vs, hH, rys⟩ := om
      exact ⟨a, b, vs, ws, rfl, rfl, hH, hB, by rw [rys.length, rz.length]; exact g3, hq Z1 σ _ x1.z (s1.mut hi ha ⟨_, upd_same, rys.append rz⟩)⟩
    | _ => unfold mutop at e1; cases e1
  | _ => cases g
/-! ### several values at once -/
/-- a value that a slot may get -/
def NewR (K : Frag) (H0 Z H : Hp) (env : Env) (σ : L2.St) (r : RV) (v : V) : Prop := match r.m with
  | .im => Rep K Z v r.d
  | .ow => ∃ a, v = .ref a ∧ H0 a = none ∧ Z a = none ∧ OwnM K Z H a r.d ∧ ∀ (j : Nat) (e : PyData), env[j]? = some (.rv ⟨e, .ow⟩) → σ[j]? ≠ some (some (.ref a))
  | .bo => True
theorem NewR.store {K : Frag} {Z0 H0 Z H : Hp} {env : Env} {σ : L2.St} {i : Nat} {o : Bool} {r r' : RV} {v : V} (s : Stt K Z0 H0 Z env σ H) (h : NewR K H0 Z H env σ r v) (e : keep o r = .ok r') :
    ∃ Z2, Same Z Z2 ∧ Stt K Z0 H0 Z2 (env.set i (.rv r')) (σ.set i (some v)) H ∧ ∀ r2 v2, (r2.m = .ow → r.m = .ow → v2 ≠ v) → NewR K H0 Z H env σ r2 v2 → NewR K H0 Z2 H (env.set i (.rv r')) (σ.set i (some v)) r2 v2 := by
  obtain ⟨d, m⟩ := r
  cases m with
  | bo => cases e
  | im =>
    cases e
    refine ⟨Z, Same.refl _, s.seti h, fun r2 v2 _ h2 => ?_⟩
    obtain ⟨d2, m2⟩ := r2
    cases m2 with
    | bo => trivial
    | im => exact h2
    | ow =>
      obtain ⟨a, e1, q1, q2, q3, q4⟩ := h2
      refine ⟨a, e1, q1, q2, q3, fun j e he hs => ?_⟩
      rcases get_set he with ⟨_, q, _⟩ | ⟨c, q⟩
      · cases q
      · rw [List.getElem?_set_ne c] at hs
        exact q4 j e q hs
  | ow =>
    obtain ⟨a, rfl, p1, p2, p3, p4⟩ := h
    cases o with
    | false =>
      cases e
      obtain ⟨ob, ho⟩ := p3.there
      have s1 : Same Z (L2.upd Z a ob) := sameU p2
      have s2 : Same (L2.upd Z a ob) H := fun b x e => by
        by_cases hb : b = a
        · subst hb
          rw [upd_same] at e
          rw [ho]
          exact e
        · rw [upd_ne hb] at e
          exact s.ext.in_ _ _ e
      have rp : Rep K (L2.upd Z a ob) (.ref a) d := p3.rep s1 (by rw [upd_same, ho])
      have st : Stt K Z0 H0 (L2.upd Z a ob) env σ H := by
        have slz : Sl K (L2.upd Z a ob) env σ H := ⟨s.sl.1, fun j sv q => by
          have z := s.sl.2 j sv q
          cases sv with
          | un => trivial
          | ex c => trivial
          | rv r =>
            obtain ⟨d, m⟩ := r
            cases m with
            | im => obtain ⟨v, z1, z2⟩ := z; exact ⟨v, z1, z2.up s1⟩
            | ow =>
              obtain ⟨b, z1, z2, z3⟩ := z
              have hb : b ≠ a := fun zz => p4 j d q (by rw [← zz]; exact z1)
              exact ⟨b, z1, z2.upS s1 (Sm.refl _), by rw [upd_ne hb]; exact z3⟩
            | bo => obtain ⟨b, z1, z2⟩ := z; exact ⟨b, z1, z2.upS s1 (Sm.refl _)⟩⟩
        refine ⟨slz, ⟨s.ext.z.trans s1, s.ext.h, s.ext.own, s2, fun b q r => ?_⟩, fun j e h => ?_, s.sep, s.bor⟩
        · by_cases hb : b = a
          · subst hb
            exact absurd p1 r.ne
          · rw [upd_ne hb]
            exact s.ext.new b q r
        · obtain ⟨b, z1, z2, z3, z4⟩ := s.own j e h
          have hb : b ≠ a := fun z => p4 j e h (by rw [← z]; exact z1)
          exact ⟨b, z1, z2, by rw [upd_ne hb]; exact z3, z4.up s1 rfl⟩
      refine ⟨_, s1, st.seti rp, fun r2 v2 hne h2 => ?_⟩
      obtain ⟨d2, m2⟩ := r2
      cases m2 with
      | bo => trivial
      | im => exact h2.up s1
      | ow =>
        obtain ⟨b, e1, q1, q2, q3, q4⟩ := h2
        have hb : b ≠ a := fun z => hne rfl rfl (by rw [e1, z])
        refine ⟨b, e1, q1, by rw [upd_ne hb]; exact q2, q3.up s1 rfl, fun j e he hs => ?_⟩
        rcases get_set he with ⟨_, q, _⟩ | ⟨c, q⟩
        · cases q
        · rw [List.getElem?_set_ne c] at hs
          exact q4 j e q hs
    | true =>
      cases e
      refine ⟨Z, Same.refl _, s.seto p1 p2 p3 fun j e _ he hs => p4 j e he hs, fun r2 v2 hne h2 => ?_⟩
      obtain ⟨d2, m2⟩ := r2
      cases m2 with
      | bo => trivial
      | im => exact h2
      | ow =>
        obtain ⟨b, e1, q1, q2, q3, q4⟩ := h2
        refine ⟨b, e1, q1, q2, q3, fun j e he hs => ?_⟩
        rcases get_set he with ⟨e2, q, hl⟩ | ⟨c, q⟩
        · subst e2
          rw [List.getElem?_set_self (by rw [← s.sl.1]; exact hl)] at hs
          cases hs
          exact hne rfl rfl e1
        · rw [List.getElem?_set_ne c] at hs
          exact q4 j e q hs
theorem RVr.up {K : Frag} {H Z1 H1 Z2 H2 : Hp} {r : RV} {v : V} (h : RVr K H Z1 H1 r v) (x : Ext Z1 H1 Z2 H2) : RVr K H Z2 H2 r v := by
  obtain ⟨d, m⟩ := r
  cases m with
  | im => exact Rep.up x.z h
  | ow =>
    obtain ⟨a, e, h1, h2, h3⟩ := h
    exact ⟨a, e, h1, x.new a h2 h3.nt, h3.upS x h2⟩
  | bo =>
    obtain ⟨a, e, h3⟩ := h
    exact ⟨a, e, h3.upS x.z x.h⟩
theorem RVr.newR {K : Frag} {Z0 H0 Z H Z1 H1 : Hp} {env : Env} {σ : L2.St} {r : RV} {v : V} (s : Stt K Z0 H0 Z env σ H) (h : RVr K H Z1 H1 r v) : NewR K H0 Z1 H1 env σ r v := by
  obtain ⟨d, m⟩ := r
  cases m with
  | im => exact h
  | ow =>
    obtain ⟨a, e, h1, h2, h3⟩ := h
    refine ⟨a, e, s.ext.h.free h1, h2, h3, fun j f hj hs => ?_⟩
    obtain ⟨b, q1, _, _, q4⟩ := s.own j f hj
    rw [hs] at q1
    cases q1
    exact q4.nt.ne h1
  | bo => trivial
/-- of two values made one after the other, the second is not the first -/
theorem RVr.ne {K : Frag} {H Z1 H1 Z2 H2 : Hp} {r1 r2 : RV} {v1 v2 : V} (h1 : RVr K H Z1 H1 r1 v1) (h2 : RVr K H1 Z2 H2 r2 v2) : r2.m = .ow → r1.m = .ow → v2 ≠ v1 := by
  intro m2 m1
  obtain ⟨d1, m1'⟩ := r1
  obtain ⟨d2, m2'⟩ := r2
  cases m1
  cases m2
  obtain ⟨a, e1, _, _, q⟩ := h1
  obtain ⟨b, e2, q2, _⟩ := h2
  subst e1
  subst e2
  intro e
  cases e
  exact q.nt.ne q2
theorem evr_two {a b : Ex} {env : Env} {k : List RV → Res Tdl.Flow} : (evr Φ [a, b] env).bd k = (ev Φ a env).bd fun r1 => (ev Φ b env).bd fun r2 => k [r1, r2] := by
  unfold evr evr evr
  cases ev Φ a env with
  | ok r => cases ev Φ b env <;> rfl
  | _ => rfl
theorem parS_nx {o : Bool} {r : RV} {env : Env} {i : Nat} {c : String} : parS o r env i ≠ .exc c := by
  unfold parS
  exact bd_nx (fun c => keep_nx) fun _ => fun e => nomatch e
theorem parL_nx : ∀ {is : List Nat} {os : List Bool} {rs : List RV} {env : Env} {c : String}, parL is os rs env ≠ .exc c
  | [], [], [], env, c => by unfold parL; exact fun e => nomatch e
  | i :: is, o :: os, r :: rs, env, c => by unfold parL; exact bd_nx (fun c => parS_nx) fun _ => parL_nx
  | [], _ :: _, _, _, _ => by unfold parL; exact fun e => nomatch e
  | [], [], _ :: _, _, _ => by unfold parL; exact fun e => nomatch e
  | _ :: _, [], _, _, _ => by unfold parL; exact fun e => nomatch e
  | _ :: _, _ :: _, [], _, _ => by unfold parL; exact fun e => nomatch e
theorem parS_ok {o : Bool} {r : RV} {env e1 : Env} {i : Nat} (h : parS o r env i = .ok e1) : ∃ r', keep o r = .ok r' ∧ e1 = env.set i (.rv r') := by
  unfold parS at h
  cases e : keep o r with
  | ok r' => rw [e] at h; cases h; exact ⟨r', rfl, rfl⟩
  | exc c => rw [e] at h; cases h
  | err => rw [e] at h; cases h
theorem parL_ok {is : List Nat} {os : List Bool} {i : Nat} {o : Bool} {r : RV} {rs : List RV} {env e1 : Env} (h : parL (i :: is) (o :: os) (r :: rs) env = .ok e1) : ∃ r', keep o r = .ok r' ∧ parL is os rs (env.set i (.rv r')) = .ok e1 := by
  unfold parL at h
  cases e : parS o r env i with
  | ok e2 =>
    rw [e, bd_ok] at h
    obtain ⟨r', q1, q2⟩ := parS_ok e
    subst q2
    exact ⟨r', q1, h⟩
  | exc c => rw [e] at h; cases h
  | err => rw [e] at h; cases h
theorem st_par2 {a b : Ex} {i j : Nat} {o1 o2 : Bool} (hs : ∀ (a' b' : Expr), True) {ta : TA} (h : PS X st (tPar i j ta)) (hta : ∀ σ H Q, (TEv Φ X.K X.mg (We E) a σ H fun v H1 => TEv Φ X.K X.mg (We E) b σ H1 fun w H2 => Q [v, w] H2) → ta σ H Q) :
    PSt Φ F X E Z0 H0 st (.par [i, j] [o1, o2] [a, b]) := PS.imp h fun D σ H ⟨Z, env, s, hf⟩ => by
  unfold ex at hf
  rw [evr_two] at hf
  refine hta σ H _ (ev_end s hf.bd fun r1 hr1 Z1 H1 v1 x1 rr1 => ?_)
  have s1 := s.up x1
  refine ev_end s1 hr1.bd fun r2 hr2 Z2 H2 v2 x2 rr2 => ⟨v1, v2, rfl, ?_⟩
  obtain ⟨e1, ee, hq⟩ := hr2.bd.pure fun c => parL_nx
  obtain ⟨q1, k1, ee⟩ := parL_ok ee
  obtain ⟨q2, k2, ee⟩ := parL_ok ee
  unfold parL at ee
  cases ee
  have s2 := s1.up x2
  have n1 : NewR X.K H0 Z2 H2 env σ r1 v1 := (rr1.up x2).newR s
  have n2 : NewR X.K H0 Z2 H2 env σ r2 v2 := (rr2.back x1.h).newR s
  obtain ⟨Z3, z3, s3, k3⟩ := n1.store (i := i) s2 k1
  obtain ⟨Z4, z4, s4, _⟩ := (k3 r2 v2 (rr1.ne rr2) n2).store (i := j) s3 k2
  exact hq Z4 _ H2 (((x1.trans x2).z.trans (.of z3)).trans (.of z4)) s4
end
end Tdl
/-! TdUpd: d.update(e), list(d.values()). -/
namespace Tdl
open PySem PySem.W L2 PySem.Spec PyProof.Rows
section
variable {X : Cx}
def rUpd : V → List V → Hp → VK → Prop := fun x xs H Q => ∃ (a b : Addr) (kvs more : List (L2.Key × V)), x = .ref a ∧ xs = [.ref b] ∧ a ≠ b ∧ H a = some (.dK kvs) ∧ Rd H b (.dK more) ∧ kvs.length + more.length ≤ sizeLine ∧ Q .non (upd H a (.dK (mergeK kvs more)))
theorem mt_upd : MtR X "dict.update" rUpd := by
  intro pins s σ H x xs v us Q I rx rxs h
  obtain ⟨a, b, kvs, more, rfl, rfl, hne, hA, hB, hl, q⟩ := h
  cases rx
  obtain ⟨u, rfl, ru⟩ := rxs.one
  cases ru
  obtain ⟨zA, sA, vs, rA, dA⟩ := dk_of I.hok hA
  obtain ⟨zB, sB, ws, rB, dB⟩ := dk_rd I.hok hB
  have l1 : kvs.length = vs.length := Paired.length rA
  have l2 : more.length = ws.length := Paired.length rB
  refine call_meetsIn PySem.F.slot_dict_update dA.typeIs PySem.F.entry_dict_update (PySem.F.args_dict_update_2 _ _) (meets_dict_update (mixKind X.prog X.w) a b hne sB) ⟨vs, ws, dA, dB, by omega, fun h' hm _ hs => ?_⟩
  have there : ∃ o, h'.get? a = some o := let ⟨o, _, _, e, _⟩ := hm; ⟨o, e⟩
  have := length_mergeK more kvs
  refine ⟨.non, _, d_write I (by rw [hA]; trivial) hs there (dk_new (by omega) sA (KV.merge rB rA) hm), rfl, q⟩
end
section
variable {X : Cx} {e : Expr} {te : TE} {p apos cpos pos : Pos}
theorem vals_by : ∀ {xs : List V} {us : List Value}, xs.length = us.length → (∀ (j : Nat) (v : V) (u : Value), xs[j]? = some v → us[j]? = some u → RelV v u) → Vals xs us
  | [], [], _, _ => .nil
  | [], _ :: _, h, _ => by cases h
  | _ :: _, [], h, _ => by cases h
  | v :: xs, u :: us, h, r => .cons (r 0 v u rfl rfl) (vals_by (by simpa using h) fun j v u h1 h2 => r (j + 1) v u h1 h2)
def tLvals (te : TE) : TE := fun σ H Q => te σ H fun x H1 => ∃ (d : Addr) (kvs : List (L2.Key × V)), x = .ref d ∧ Rd H1 d (.dK kvs) ∧ ∀ q, H1 q = none → Q (.ref q) (upd H1 q (.lst (kvs.map (·.2))))
theorem pe_lvals (hc : X.calm = true) (he : PE X e te) (hg : Gl X "list") (hm : X.mg "list" = none) (hb : attributeBase e "values" X.env (eval e X.env) = eval e X.env) (hl : (apos.endLine == cpos.line) = true) :
    PE X (.Call (.Name "list" p) [.Call (.Attribute e "values" apos) [] [] cpos] [] pos) (tLvals te) := by
  refine ⟨fun pins s σ H Q I hq => ?_⟩
  have hs : starEach [.Call (.Attribute e "values" apos) [] [] cpos] X.env = (false, eval (.Call (.Attribute e "values" apos) [] [] cpos) X.env) :: starEach [] X.env := rfl
  refine wpAny_Call_Name_kw (ld_blt I hg hm (show bootBuiltins "list" = some (.type "list") by decide +kernel) ?_)
  refine PyProof.Rows.callWith_type1 ?_ hs rfl
  rw [hs]
  show wpAny _ _ (spliced ((false, eval (.Call (.Attribute e "values" apos) [] [] cpos) X.env) :: backTo pos (starEach [] X.env))) _ _ s
  refine Calls.spliced_cons (wpAny_Call_method (T := "dict") (id := "dict.values") hb rfl hl F.plainAttrs_dict F.slot_dict_values F.type_dict_values (thn (he.run pins s σ H _ I hq) fun u s1 ⟨x, H1, I1, rx, d, kvs, ex, hd, q⟩ => ?_))
  subst ex
  obtain rfl : u = Value.ref d := rx
  obtain ⟨hz, sd, vs, kv, hdo⟩ := dk_rd I1.hok hd
  obtain ⟨ep, hat⟩ := hdo.dictAt
  have lk : kvs.length = vs.length := Paired.length kv
  refine ⟨hdo.typeIs, hdo.mapOf.noDict, ?_⟩
  show wpAny _ _ (callWith cpos (.builtin "dict.values") [.ref d] [] []) _ X.xe s1
  refine method_meetsIn F.slot_dict_values F.entry_dict_values rfl (PySem.evalArgs_none ⟨rfl, hdo.typeIs, F.args_dict_values_1 _, _, meets_dict_values (mixKind X.prog X.w) d sd, ⟨vs, hdo⟩, ?_⟩)
  refine Calls.spliced_nil ?_
  have I2 : L2.Inv X pins σ H1 { s1 with heap := s1.heap.push { cls := .type "dict_values", data := .fields #[.ref d] } } := I1.kept (t' := s1.toks) fun b ob q => Heap.get?_push_of_some _ q
  refine kdl_call (kdl_values (prog := X.prog) (w := X.w) (knd := mixKind X.prog X.w) (kvs := vs) (ep := ep) (r := s1.heap.objs.size) (d := d)) (I1.ok.hd hc) ⟨⟨_, Heap.get?_push_size _ rfl, rfl, rfl⟩, hat.push _⟩ (by omega) fun h' tk acc c hk hS hacc => ?_
  have hfresh := I2.hok.fresh (Nat.le_refl (s1.heap.push { cls := .type "dict_values", data := .fields #[.ref d] }).objs.size)
  have vals : Vals (kvs.map (·.2)) acc.toList := by
    refine vals_by (by have := hacc.1; simp only [List.length_map, Array.length_toList]; omega) fun j v u h1 h2 => ?_
    rw [List.getElem?_map] at h1
    obtain ⟨⟨k, v'⟩, e1, e2⟩ := Option.map_eq_some_iff.mp h1
    cases e2
    obtain ⟨u', hu, ru⟩ := kv_get kv e1
    obtain ⟨k', e3⟩ := hacc.2 j u (by rw [← Array.getElem?_toList]; exact h2)
    rw [hu] at e3
    cases e3
    exact ru
  exact ⟨.ref _, _, I2.laid (o := .lst (kvs.map (·.2))) (t' := tk) (h' := h') hk (Nat.le_refl _) ⟨by rw [List.length_map]; exact hz, acc.toList, c, vals, by rw [Array.toArray_toList]; exact hS⟩, rfl, q _ hfresh⟩
end
section
variable {Φ : Fns} {X : Cx} {W : WX} {x : Ex} {e : Expr} {p apos cpos pos : Pos}
theorem pv_lvals (hc : X.calm = true) (he : PEv Φ X W e x) (hg : Gl X "list") (hm : X.mg "list" = none) (hb : attributeBase e "values" X.env (eval e X.env) = eval e X.env) (hl : (apos.endLine == cpos.line) = true) :
    PEv Φ X W (.Call (.Name "list" p) [.Call (.Attribute e "values" apos) [] [] cpos] [] pos) (.blt .lvals [x]) := by
  refine PE.imp (pe_lvals hc he hg hm hb hl) fun σ H Q ⟨Z, env, sl, i, hf⟩ => ⟨Z, env, sl, i, ?_⟩
  unfold ev at hf
  rw [evl_one, bd_bd] at hf
  refine hf.bd.mono (fun _ h => h) fun r hr Z1 H1 v x1 rr => ?_
  obtain ⟨r2, e2, hq⟩ := (show Fine _ _ (bltop .lvals [r.d]) from hr).pure fun c => bltop_nx
  have rd := rr.red
  generalize r.d = d at rd e2
  unfold bltop at e2
  split at e2 <;> first | (exfalso; exact absurd ‹Bl.lvals = _› (by decide)) | (cases e2; done) | skip
  all_goals first | (rename_i h1 h2; cases h2) | skip
  cases e2
  obtain ⟨a, rfl, hd⟩ := rd.dict x1.in_
  rcases hd with ⟨ks, es', e0, h1, rk⟩ | ⟨ks, es', e0, h1, rk⟩
  · cases e0
    refine ⟨a, ks, rfl, h1, fun q hq0 => ?_⟩
    have vs : ∀ {ks : List (L2.Key × V)} {es : List (PyData × PyData)}, RepK X.K Z1 ks es → RepL X.K Z1 (ks.map (·.2)) (es.map (·.2)) := fun {ks es} r => by
      induction ks generalizing es with
      | nil => cases r; exact .nil
      | cons k ks ih => cases r with | cons h t => exact .cons h (ih t)
    obtain ⟨n1, n2⟩ := newList (K := X.K) x1.in_ hq0 (vs rk)
    exact kR.up x1 hq _ _ _ n1 n2
  · cases e0
end
end Tdl
/-! TdStm4: d.update(e); d[k], y = v, w. -/
namespace Tdl
open PySem PySem.W L2 PySem.Spec PyProof.Rows
section
variable {Φ : Fns} {F : Nat} {X : Cx} {E : XK} {Z0 H0 : Hp} {st : Stmt} {ss : List Stmt} {t : Stm} {ts : List Stm}
theorem st_upd {e : Expr} {x : Ex} {n : Str} {i : Nat} {p apos cpos pos : Pos} (hN : X.N[i]? = some n) (hv : Vis X.env.scope n) (h1 : (n == ("__debug__" : Str)) = false) (h2 : (n == ("__classdict__" : Str)) = false)
    (he : PEv Φ X (We E) e x) (hs : notStar e = true) (hline : (apos.endLine == cpos.line) = true) :
    PSt Φ F X E Z0 H0 (.Expr (.Call (.Attribute (.Name n p) "update" apos) [e] [] cpos) pos) (.mut .upd i [x]) := by
  refine PS.imp (ps_expr (pe_bm (T := "dict") (id := "dict.update") (r := rUpd) PySem.F.plainAttrs_dict PySem.F.slot_dict_update PySem.F.type_dict_update (fun pins s σ H x xs v us Q => mt_upd pins s σ H x xs v us Q) (pe_var hN hv h1 h2) (pa_cons (gv_of he) pa_nil (star_cons hs)) (base_is rfl _) (few_of (es := [e]) (by simp [hs]) (by simp)) hline (star_cons hs) (back_all (es := []) rfl).2) rfl) fun D σ H ⟨Z, env, s, hf⟩ => ?_
  unfold ex at hf
  obtain ⟨d, ed, hf⟩ := hf.bd.pure fun c => owned_nx
  obtain ⟨g, hf⟩ := hf.gd
  have hi := owned_ok ed
  obtain ⟨a, ha, _, _, om0⟩ := s.own _ _ hi
  rw [evs_one, bd_bd] at hf
  have ty : tyV X.K "dict" (.ref a) H := by
    cases d with
    | dict es =>
      rcases om0 with ⟨kvs, es', e0, hH, rk⟩ | ⟨kvs, es', e0, hH, rk⟩
      · exact .inr (.inr (.inl ⟨rfl, .inl ⟨kvs, hH⟩⟩))
      · exact .inr (.inr (.inl ⟨rfl, .inr ⟨kvs, hH⟩⟩))
    | _ => cases g
  refine ⟨.ref a, ha, ty, Z, env, s.sl, s.ext.in_, hf.bd.mono (fun c h => h.xw s.ext) fun md hm Z1 H1 v x1 rv => ?_⟩
  have s1 := s.up x1
  obtain ⟨a', ha', _, hz, om⟩ := s1.own _ _ hi
  rw [ha] at ha'
  cases ha'
  obtain ⟨d1, e1, hq⟩ := (show Fine _ _ ((mutop .upd d [md]).bd _) from hm).bd.pure fun c => mutop_nx
  show rUpd (.ref a) [v] H1 fun _ H1 => D.nx σ H1
  unfold mutop at e1
  split at e1 <;> first | (exfalso; exact absurd ‹Mu.upd = _› (by decide)) | (cases e1; done) | skip
  rename_i kvs more _ hmd _
  cases hmd
  obtain ⟨g2, e2⟩ := gd_ok e1
  cases e2
  have g2 := of_decide_eq_true g2
  rw [lim_eq] at g2
  rcases om with ⟨ks, es', e0, hH, rk⟩ | ⟨ks, es', e0, hH, rk⟩
  · cases e0
    cases rv with
    | @dk b ms ees hb rm =>
      refine ⟨a, b, ks, ms, rfl, rfl, fun z => ?_, hH, rd_up (.of x1.in_) hb, by rw [rk.length, rm.length]; exact g2, hq Z1 σ _ x1.z (s1.mut hi ha (.inl ⟨_, _, rfl, upd_same, dmerge_rep rm rk⟩))⟩
      subst z
      rcases hb with hb | ⟨_, hb⟩ <;> (rw [hz] at hb; cases hb)
  · cases e0
/-- d[k], y = v, w -/
theorem st_putp {k' v' w' : Expr} {n m : Str} {i j : Nat} {k x y : Ex} {p p2 p3 p4 p5 pos : Pos} {kk k2 : Nat} (hc : X.calm = true) (hu : X.A.units + 1 < cLine) (hnd : X.N.Nodup) (hN : X.N[i]? = some n) (hv : Vis X.env.scope n) (h1 : (n == ("__debug__" : Str)) = false) (h2 : (n == ("__classdict__" : Str)) = false)
    (hM : X.N[j]? = some m) (hml : Loc X.env.scope m) (hmf : X.fn m = true ∨ X.env.scope.names.lookup m = some .local) (hij : i ≠ j)
    (hk : PEv Φ X (We E) k' k) (hks : plainIxB k' = true) (he : PAs Φ X (We E) [v', w'] [x, y]) :
    PSt Φ F X E Z0 H0 (.Assign [.Tuple [.Subscript (.Name n p) k' p2, .Name m p3] kk p4] (.Tuple [v', w'] k2 p5) pos) (.putp i k j x y) := by
  have ha : ∀ v, assign (.Subscript (.Name n p) k' p2) X.env v = (do
      let ov ← holding [v] (eval (.Name n p) X.env)
      let iv ← holding [v, ov] (eval k' X.env)
      standAt p2
      holding [v, ov, iv] (setItem ov iv v)
      release [v, ov, iv] []) := fun v => by cases k' <;> first | (cases hks; done) | rfl
  have hg := pg_tup (pos := p4) (k := kk) hc (pgs_cons (pg_sub (pe_var (X := X) (pos := p) hN hv h1 h2) (gv_of hk) (pset_or set_list (set_dict hu)) ha) (pgs_cons (pg_name (pos := p3) hnd hM hml hmf) pgs_nil rfl) rfl) rfl rfl
  refine PS.imp (ps_asg (gv_of (pv_tup (k := k2) (pos := p5) he (by simp))) hg (by rfl) ?_ rfl) fun D σ H ⟨Z, env, s, hf⟩ => ?_
  · unfold swappedStores
    simp only [List.filterMap_cons, List.filterMap_nil]
    split
    · rfl
    · split
      · rfl
      · split
        · rfl
        · rfl
  · unfold ex at hf
    refine ⟨Z, env, s.sl, s.ext.in_, ?_⟩
    unfold ev
    have e0 : (((evs Φ [x, y] env).bd fun ds => Res.ok (im (.tuple ds))).bd fr) = (evs Φ [x, y] env).bd fun ds => .ok (.tuple ds) := by
      rw [bd_bd]
      rfl
    rw [e0]
    refine Fine.unbd (hf.bd.and_len.mono (fun c h => h.xw s.ext) fun vs ⟨hvs, hlen⟩ => ?_)
    refine fun Z1 H1 v x1 rv => ?_
    obtain ⟨d, ed, hvs⟩ := hvs.bd.pure fun c => owned_nx
    have hi := owned_ok ed
    cases rv with
    | @tup T ws _ hT rl =>
      have s1 := s.up x1
      obtain ⟨a, ha, _, _, _⟩ := s1.own _ _ hi
      cases rl with
      | nil => cases hlen
      | @cons w1 _ d1 _ r1 rl => cases rl with
        | nil => cases hlen
        | @cons w2 _ d2 _ r2 rl => cases rl with
          | cons => simp at hlen
          | nil =>
            refine ⟨T, _, rfl, .of (x1.in_ _ _ hT), rfl, w1, [w2], rfl, .ref a, ha, Z1, env, s1.sl, x1.in_, hvs.bd.mono (fun c h => h.xw s1.ext) fun kd hkd Z2 H2 kv x2 rk => ?_⟩
            have s2 := s1.up x2
            obtain ⟨a', ha', _, _, om⟩ := s2.own _ _ hi
            rw [ha] at ha'
            cases ha'
            obtain ⟨d', e1, hq⟩ := (show Fine _ _ ((putop d kd d1).bd _) from hkd).bd.pure fun c => putop_nx
            exact put_data (Q := fun H' => gCons (gName j) gNil [w2] σ H' D.nx) x2.in_ om rk (r1.up x2.z) e1 fun o om2 => ⟨w2, [], rfl, rfl, hq Z2 _ _ (x1.trans x2).z ((s2.mut hi ha om2).seti (r2.up x2.z))⟩
/-- i, j = x, y by a tuple (a name is a cell) -/
theorem st_parT {a b : Ex} {a' b' : Expr} {n m : Str} {i j : Nat} {o1 o2 : Bool} {p p2 p4 p5 pos : Pos} {kk k2 : Nat} (hc : X.calm = true) (hnd : X.N.Nodup) (hN : X.N[i]? = some n) (hnl : Loc X.env.scope n) (hnf : X.fn n = true ∨ X.env.scope.names.lookup n = some .local)
    (hM : X.N[j]? = some m) (hml : Loc X.env.scope m) (hmf : X.fn m = true ∨ X.env.scope.names.lookup m = some .local) (ha : PEv Φ X (We E) a' a) (hb : PEv Φ X (We E) b' b) (s1 : notStar a' = true) (s2 : notStar b' = true)
    (hw : swappedStores [.Tuple [.Name n p, .Name m p2] kk p4] (.Tuple [a', b'] k2 p5) X.env = pure none) :
    PSt Φ F X E Z0 H0 (.Assign [.Tuple [.Name n p, .Name m p2] kk p4] (.Tuple [a', b'] k2 p5) pos) (.par [i, j] [o1, o2] [a, b]) := by
  have hg := pg_tup (pos := p4) (k := kk) hc (pgs_cons (pg_name (pos := p) hnd hN hnl hnf) (pgs_cons (pg_name (pos := p2) hnd hM hml hmf) pgs_nil rfl) rfl) rfl rfl
  refine PS.imp (ps_asg (pe_tup (x1 := k2) (pos := p5) (pa_cons ha (pa_cons hb pa_nil (star_cons s2)) (star_cons s1))) hg (by rfl) hw rfl) fun D σ H ⟨Z, env, s, hf⟩ => ?_
  unfold ex at hf
  rw [evr_two] at hf
  refine ev_end s hf.bd fun r1 hr1 Z1 H1 v1 x1 rr1 => ?_
  have s1 := s.up x1
  refine ev_end s1 hr1.bd fun r2 hr2 Z2 H2 v2 x2 rr2 => ⟨by rw [sizeLine_eq]; simp, fun T hT => ⟨T, [v1, v2], rfl, .of upd_same, rfl, v1, [v2], rfl, v2, [], rfl, rfl, ?_⟩⟩
  have x3 : Ext Z2 H2 Z2 (upd H2 T (.tup [v1, v2])) := Ext.obj x2.in_ hT
  obtain ⟨e1, ee, hq⟩ := hr2.bd.pure fun c => parL_nx
  obtain ⟨q1, k1, ee⟩ := parL_ok ee
  obtain ⟨q2, k2, ee⟩ := parL_ok ee
  unfold parL at ee
  cases ee
  have s2 := (s1.up x2).up x3
  have n1 : NewR X.K H0 Z2 (upd H2 T (.tup [v1, v2])) env σ r1 v1 := ((rr1.up x2).up x3).newR s
  have n2 : NewR X.K H0 Z2 (upd H2 T (.tup [v1, v2])) env σ r2 v2 := ((rr2.up x3).back x1.h).newR s
  obtain ⟨Z3, z3, s3, k3⟩ := n1.store (i := i) s2 k1
  obtain ⟨Z4, z4, s4, _⟩ := (k3 r2 v2 (rr1.ne rr2) n2).store (i := j) s3 k2
  exact hq Z4 _ _ (((x1.trans (x2.trans x3)).z.trans (.of z3)).trans (.of z4)) s4
end
end Tdl
/-! TdDc2: dict comprehensions of two clauses. -/
namespace Tdl
open PySem PySem.W L2 PySem.Spec PyProof.Rows
/-- the comprehension -/
abbrev Dc2 (kx vx t0 i0 t1 i1 : Expr) (ifs0 ifs1 : List Expr) (sc : Scope) (po : Pos) : Expr := .DictComp kx vx [⟨t0, i0, ifs0, 0⟩, ⟨t1, i1, ifs1, 0⟩] sc po
/-- the tests of a clause, one by one -/
abbrev testsOf (ifs : List Expr) (en : PySem.Env) : Sem Bool := forIn ifs true fun c r => if r = true then do let k ← isTrue c en (eval c en); pure (ForInStep.yield k) else pure (ForInStep.yield r)
theorem turn_out (kx vx t0 i0 t1 i1 : Expr) (ifs0 ifs1 : List Expr) (sc : Scope) (po : Pos) (io ac : Value) (en : PySem.Env) : compTurn (Dc2 kx vx t0 i0 t1 i1 ifs0 ifs1 sc po) 0 io ac en = (do
    standAt i0.pos
    match ← pyNext io with
    | none => pure (.done .next)
    | some vv => do
      letOwnedTupleGo t0 io vv
      assign t0 en vv
      let k ← testsOf ifs0 en
      if k then do
        let x0 ← eval i1 en
        standAt i1.pos
        let x0 ← foldedSetIterable i1 en x0
        let j0 ← holding [x0] (pyIter x0)
        let _ ← runOwn (.compStart (Dc2 kx vx t0 i0 t1 i1 ifs0 ifs1 sc po) 1 j0 ac en) en
        again (.compLoop (Dc2 kx vx t0 i0 t1 i1 ifs0 ifs1 sc po) 0 io ac en)
      else again (.compLoop (Dc2 kx vx t0 i0 t1 i1 ifs0 ifs1 sc po) 0 io ac en)) := by rfl
theorem turn_in (kx vx t0 i0 t1 i1 : Expr) (ifs0 ifs1 : List Expr) (sc : Scope) (po : Pos) (io : Value) (D : Addr) (en : PySem.Env) : compTurn (Dc2 kx vx t0 i0 t1 i1 ifs0 ifs1 sc po) 1 io (.ref D) en = (do
    standAt i1.pos
    match ← pyNext io with
    | none => pure (.done .next)
    | some vv => do
      letOwnedTupleGo t1 io vv
      assign t1 en vv
      let k ← testsOf ifs1 en
      if k then do
        (do
          let a0 ← eval kx en
          let b0 ← holding [a0] (eval vx en)
          standAt { kx.pos with endLine := vx.pos.endLine, endCol := vx.pos.endCol }
          holding [a0, b0] (dictSet D a0 b0))
        again (.compLoop (Dc2 kx vx t0 i0 t1 i1 ifs0 ifs1 sc po) 1 io (.ref D) en)
      else again (.compLoop (Dc2 kx vx t0 i0 t1 i1 ifs0 ifs1 sc po) 1 io (.ref D) en)) := by rfl
section
variable {Pg : Program} {w : World} {A : Around} {R : Result → Shared → Prop} {s : Shared} {kx vx t0 i0 t1 i1 : Expr} {ifs0 ifs1 : List Expr} {sc : Scope} {po : Pos} {io ac : Value} {en : PySem.Env}
/-- run under what is noted -/
abbrev Rn (Pg : Program) (w : World) (A : Around) (en : PySem.Env) (R : Result → Shared → Prop) {α : Type} (m : Sem α) (Q : α → Shared → Prop) (s : Shared) : Prop := wpAny (model Pg w) A m Q (notedBy (model Pg w) A en fun e s' => R (.error e) s') s
abbrev nxt (I : Nat → Shared → Prop) (n : Nat) (s : Shared) : Prop := ∃ m, m < n ∧ I m s
theorem loop_out (hs : ∀ x, foldedSetIterable i1 en x = pure x) (I : Nat → Shared → Prop)
    (turn : ∀ n s, I n s → Rn Pg w A en R (pyNext io) (fun r sa => match r with
      | none => R (.ok .next) sa
      | some vv => Rn Pg w A en R (letOwnedTupleGo t0 io vv) (fun _ sb => Rn Pg w A en R (assign t0 en vv) (fun _ sc1 => Rn Pg w A en R (testsOf ifs0 en) (fun k sd =>
          if k = true then Rn Pg w A en R (eval i1 en) (fun x0 se => Rn Pg w A en R (pyIter x0) (fun j0 sf =>
              codeAny (model Pg w) A (.compStart (Dc2 kx vx t0 i0 t1 i1 ifs0 ifs1 sc po) 1 j0 ac en) (fun r s' => match r with | .ok _ => nxt I n s' | .error _ => False) sf) se) sd
          else nxt I n sd) sc1) sb) sa) s) (n : Nat) (h : I n s) :
    codeAny (model Pg w) A (.compLoop (Dc2 kx vx t0 i0 t1 i1 ifs0 ifs1 sc po) 0 io ac en) R s := by
  refine codeAny_loop rfl I (fun n s hI => ?_) n h
  show wpAny _ A ((compTurn (Dc2 kx vx t0 i0 t1 i1 ifs0 ifs1 sc po) 0 io ac en).onRaise fun x => do noteFrame x en; theTreesLotGoes x) _ _ s
  refine wpAny_noted ?_
  rw [turn_out]
  refine wpAny_bind (wpAny_standAt (wpAny_bind (wpAny_mono (turn n s hI) (fun r sa ha => ?_) fun _ _ hx => hx)))
  cases r with
  | none => exact wpAny_pure ha
  | some vv =>
    refine wpAny_bind (wpAny_mono ha (fun _ sb hb => wpAny_bind (wpAny_mono hb (fun _ sc1 hc => wpAny_bind (wpAny_mono hc (fun k sd hd => ?_) fun _ _ hx => hx)) fun _ _ hx => hx)) fun _ _ hx => hx)
    cases k with
    | false => exact wpAny_pure ⟨rfl, hd⟩
    | true =>
      refine wpAny_bind (wpAny_mono hd (fun x0 se he => wpAny_bind (wpAny_standAt (wpAny_bind (wpAny_of_eq (hs x0) (wpAny_bind (wpAny_holding (wpAny_mono he (fun j0 sf hf => wpAny_bind (wpAny_runOwn ?_)) fun _ _ hx => hx))))))) fun _ _ hx => hx)
      rw [Around.mark_none]
      refine codeAny_mono hf fun r s' hr => ?_
      cases r with
      | error e => exact hr.elim
      | ok f => first | exact wpAny_pure ⟨rfl, hr⟩ | exact wpAny_bind (wpAny_pure (wpAny_pure ⟨rfl, hr⟩))
theorem loop_in {D : Addr} (I : Nat → Shared → Prop)
    (turn : ∀ n s, I n s → Rn Pg w A en R (pyNext io) (fun r sa => match r with
      | none => R (.ok .next) sa
      | some vv => Rn Pg w A en R (letOwnedTupleGo t1 io vv) (fun _ sb => Rn Pg w A en R (assign t1 en vv) (fun _ sc1 => Rn Pg w A en R (testsOf ifs1 en) (fun k sd =>
          if k = true then Rn Pg w A en R (eval kx en) (fun a0 se => Rn Pg w A en R (eval vx en) (fun b0 sf => Rn Pg w A en R (dictSet D a0 b0) (fun _ sg => nxt I n sg) sf) se) sd
          else nxt I n sd) sc1) sb) sa) s) (n : Nat) (h : I n s) :
    codeAny (model Pg w) A (.compLoop (Dc2 kx vx t0 i0 t1 i1 ifs0 ifs1 sc po) 1 io (.ref D) en) R s := by
  refine codeAny_loop rfl I (fun n s hI => ?_) n h
  show wpAny _ A ((compTurn (Dc2 kx vx t0 i0 t1 i1 ifs0 ifs1 sc po) 1 io (.ref D) en).onRaise fun x => do noteFrame x en; theTreesLotGoes x) _ _ s
  refine wpAny_noted ?_
  rw [turn_in]
  refine wpAny_bind (wpAny_standAt (wpAny_bind (wpAny_mono (turn n s hI) (fun r sa ha => ?_) fun _ _ hx => hx)))
  cases r with
  | none => exact wpAny_pure ha
  | some vv =>
    refine wpAny_bind (wpAny_mono ha (fun _ sb hb => wpAny_bind (wpAny_mono hb (fun _ sc1 hc => wpAny_bind (wpAny_mono hc (fun k sd hd => ?_) fun _ _ hx => hx)) fun _ _ hx => hx)) fun _ _ hx => hx)
    cases k with
    | false => exact wpAny_pure ⟨rfl, hd⟩
    | true =>
      exact wpAny_bind (wpAny_bind (wpAny_mono hd (fun a0 se he => wpAny_bind (wpAny_holding (wpAny_mono he (fun b0 sf hf => wpAny_bind (wpAny_standAt (wpAny_holding (wpAny_mono hf (fun _ sg hg => wpAny_pure ⟨rfl, hg⟩) fun _ _ hx => hx)))) fun _ _ hx => hx))) fun _ _ hx => hx))
theorem start_in (h0 : codeAny (model Pg w) A (.compLoop (Dc2 kx vx t0 i0 t1 i1 ifs0 ifs1 sc po) 1 io ac en) R s)
    (h : Rn Pg w A en R (pyIter io) (fun j0 s' => codeAny (model Pg w) A (.compLoop (Dc2 kx vx t0 i0 t1 i1 ifs0 ifs1 sc po) 1 j0 ac en) R s') s) :
    codeAny (model Pg w) A (.compStart (Dc2 kx vx t0 i0 t1 i1 ifs0 ifs1 sc po) 1 io ac en) R s := by
  refine codeAny_of_tree ?_
  show wpAny _ _ ((compStart (Dc2 kx vx t0 i0 t1 i1 ifs0 ifs1 sc po) 1 io ac en).onRaise fun x => do noteFrame x en; standAt theWindowsPlace) _ _ s
  refine wpAny_notedAt ?_
  unfold compStart
  show wpAny _ _ (ask >>= _) _ _ s
  refine wpAny_bind (wpAny_askSetting (wpAny_ite ?_))
  split
  · first | exact wpAny_bind (wpAny_pure (wpAny_pure (And.intro rfl h0))) | exact wpAny_pure (And.intro rfl h0)
  · refine wpAny_bind (wpAny_rule ?_)
    show wpAny _ _ (standAt i1.pos >>= _) _ _ s
    exact wpAny_bind (wpAny_standAt (wpAny_bind (wpAny_mono h (fun j0 s' hj => wpAny_pure (And.intro rfl hj)) fun _ _ hx => hx)))
end
section
variable {X : Cx}
/-- the turns of a source J, ending in Nx; n: how many are left; B: the body, from an item -/
abbrev Tn (J : It) (Wv : Nat → Nat → Hp → Prop) (En : Hp → Prop) (B : V → Hp → (Hp → Prop) → Prop) : Prop := ∀ i m G, Wv i m G → (J.stop i G ∧ En G) ∨ (J.go i G ∧ ∃ Nx : Hp → Prop, (∀ G', Nx G' → ∃ m', m' < m ∧ Wv (i + 1) m' G') ∧ ∀ x G', J.yld i G x G' → B x G' Nx)
/-- {k: v for .. if .. for ..}: as tDc, the second source's turns within those of the first -/
def tDc2 (wi : TI) (g : TG) (tt : TT) (wi1 : TI) (g1 : TG) (tk tv : TE) (vs vs1 : List Nat) : TE := fun σ G Q => wi σ G fun J G1 => ∀ D, G1 D = none → ∃ Wv : Nat → Nat → Hp → Prop, (∃ m, Wv 0 m (upd G1 D (.dK []))) ∧
  Tn J Wv (fun G => Q (.ref D) G) fun x G' Nx => g x (wipe σ vs) G' fun σ2 G2 => wipe σ2 vs = wipe σ vs ∧ tt σ2 G2 fun b G3 => if b = true then wi1 σ2 G3 fun J1 G4 => ∃ W1 : Nat → Nat → Hp → Prop, (∃ m, W1 0 m G4) ∧
    Tn J1 W1 Nx (fun x1 G5 Nx1 => g1 x1 (wipe σ2 vs1) G5 fun σ3 G6 => wipe σ3 vs1 = wipe σ2 vs1 ∧ tk σ3 G6 fun y G7 => tv σ3 G7 fun z G8 => ∃ kvs k, y = kV k ∧ G8 D = some (.dK kvs) ∧ kvs.length < sizeLine ∧ Nx1 (upd G8 D (.dK (putK kvs k z)))) else Nx G3
abbrev Blk (X : Cx) (scope : Scope) (F : Cx → Prop) : Prop := ∀ (s : Shared) (G : Hp) (C : Addr) (cl : List (Str × Addr)) (fp : List Addr), F (X.blk s G scope (compEnvC scope cl C X.env) fp)
theorem dc2_core {pn : List (Addr × Obj)} {s : Shared} {σ : L2.St} {G : Hp} {Q : VK} {use : Option (Value → Sem Unit)} {Qf : Value → Shared → Prop} {po' : Pos} {kx vx tg iter tg1 iter1 : Expr} {ifs : List Expr} {scope : Scope} {own : List (Str × Nat)} {vs1 : List Nat} {pos : Pos} {wi wi1 : TI} {g g1 : TG} {tt : TT} {tk tv : TE} (hc : X.calm = true) (hN : X.N.Nodup) (hi : PI X tg iter wi) (ok : BlkOk X.N X.env.scope scope own) (hv : ∀ i ∈ vs1, i ∈ own.map (·.2))
    (hg : Blk X scope fun Y => PG Y tg g) (ht : Blk X scope fun Y => PTs Y ifs tt) (hi1 : Blk X scope fun Y => PI Y tg1 iter1 wi1) (hg1 : Blk X scope fun Y => PG Y tg1 g1) (hk : Blk X scope fun Y => PE Y kx tk) (he : Blk X scope fun Y => PE Y vx tv)
    (hs : ∀ x, foldedSetIterable iter X.env x = pure x) (hs1 : ∀ en x, foldedSetIterable iter1 en x = pure x)
    (I : L2.Inv X pn σ G s) (h : tDc2 wi g tt wi1 g1 tk tv (own.map (·.2)) vs1 σ G Q) (hRR : ∀ D C s' m G', L2.Inv X pn σ G' s' → Q (.ref D) G' → s'.heap.Ns C m → FpOk X pn G' C → compPost (model X.prog X.w) X.A X.xe use Qf (.ref D) C (.ok .next) s') :
    wpAny (model X.prog X.w) X.A (comprehension (Dc2 kx vx tg iter tg1 iter1 ifs [] scope pos) scope X.env po' newDict false (eval iter X.env) use) Qf X.xe s := by
  have fre : ∀ y ∈ scope.names, y.2 = .free → ∃ c, X.env.cells.lookup y.1 = some c := fun y hy e => (ok.free y hy e).elim (fun k => I.ok.has _ (.inl k)) fun k => I.ok.has _ (.inr k)
  refine wpAny_comprehension_free (use := use) rfl hs (closure_ok fre) ok.kind (fun y hy e => by rw [ok.uniq y hy, e]) (thn (hi.run pn s σ G _ I h) fun xv sa hx => thn hx fun itv sb hb => ?_)
  obtain ⟨io, ks, tu, J, G2, e, Ib, T, stb, fb, q⟩ := hb
  subst e
  refine wpAny_newObj_type (newEnv_comp ?_)
  generalize hD : sb.heap.objs.size = D
  have dn : G2 D = none := Ib.hok.fresh (Nat.le_of_eq hD)
  obtain ⟨Wv, ⟨m0, w0⟩, turn⟩ := q D dn
  -- the new dict
  generalize hsd : ({ sb with heap := sb.heap.push { cls := .type "dict", data := .dict #[] } } : Shared) = sd
  have pu : sd.heap = sb.heap.push { cls := .type "dict", data := .dict #[] } := by rw [← hsd]
  have Id : L2.Inv X pn σ (upd G2 D (.dK [])) sd := by
    rw [← hsd]
    refine Ib.laid (t' := sb.toks) (fun c o e => Heap.get?_push_of_some _ e) (Nat.le_of_eq hD) ?_
    rw [← hD]
    exact dk_empty sb.heap Ib.big
  have fd : ∀ c ∈ ks, FpOk X pn (upd G2 D (.dK [])) c ∧ c < sd.heap.objs.size := fun c hcm => by
    obtain ⟨o, eo, _⟩ := T.obj _ _ stb c hcm
    have lt : c < sb.heap.objs.size := Heap.lt_size eo
    exact ⟨⟨(upd_ne (by rw [← hD]; exact Nat.ne_of_lt lt)).trans (fb c hcm).1, (fb c hcm).2⟩, by rw [pu, Heap.size_push]; exact Nat.lt_succ_of_lt lt⟩
  have std : tu 0 sd.heap := T.keep _ _ _ stb fun c _ o e => by rw [pu]; exact Heap.get?_push_of_some _ e
  have Ie := block_start Id ok hN fd
  generalize hcl : cellsFrom (sd.heap.objs.size + 1) scope.names (cloFrom X.env.cells scope.names []) = cl at Ie ⊢
  have pg := hg sd (upd G2 D (.dK [])) sd.heap.objs.size cl ks
  have pt := ht sd (upd G2 D (.dK [])) sd.heap.objs.size cl ks
  have pk := hk sd (upd G2 D (.dK [])) sd.heap.objs.size cl ks
  have pv := he sd (upd G2 D (.dK [])) sd.heap.objs.size cl ks
  have pi1 := hi1 sd (upd G2 D (.dK [])) sd.heap.objs.size cl ks
  have pg1 := hg1 sd (upd G2 D (.dK [])) sd.heap.objs.size cl ks
  show codeAny _ _ (.compStart (Dc2 kx vx tg iter tg1 iter1 ifs [] scope pos) 0 (.ref io) (.ref D) (compEnvC scope cl sd.heap.objs.size X.env)) (compPost (model X.prog X.w) X.A X.xe use Qf (.ref D) sd.heap.objs.size) { sd with heap := pushCells (sd.heap.push { cls := .type "dict", data := .dict #[] }) scope.names }
  have nks : ∀ c ∈ ks, (upd G2 D (.dK [])) c = none := fun c hcm => (fd c hcm).1.1
  generalize hce : compEnvC scope cl sd.heap.objs.size X.env = ce at Ie pg pt pk pv pi1 pg1 ⊢
  have cL : ce.locals = sd.heap.objs.size := by subst hce; rfl
  generalize hG3 : upd G2 D (.dK []) = G3 at Id Ie pg pt pk pv pi1 pg1 w0 nks fd
  generalize hse : ({ sd with heap := pushCells (sd.heap.push { cls := .type "dict", data := .dict #[] }) scope.names } : Shared) = se at Ie ⊢
  have ste : tu 0 se.heap := T.keep _ _ _ std fun c _ o e => by rw [← hse]; exact pushCells_keeps _ _ _ _ (Heap.get?_push_of_some _ e)
  have sta : ∀ {ρ : L2.St} {G' : Hp} {s' : Shared}, L2.Inv (X.blk sd G3 scope ce ks) [] ρ G' s' → (∀ c ∈ ks, G' c = none) → ∀ c ∈ ks, FpOk (X.blk sd G3 scope ce ks) [] G' c := fun {ρ G' s'} I' hn c hcm =>
    ⟨hn c hcm, (I'.ok.exf c hcm).1, I'.ok.exfs c hcm, .inl hcm, fun x z e => (I'.ok.exf c hcm).2 x z e, fun p hp => by cases (show p ∈ ([] : List (Addr × Obj)) ++ [] from hp)⟩
  have ends : codeAny (model X.prog X.w) X.A (.compLoop (Dc2 kx vx tg iter tg1 iter1 ifs [] scope pos) 0 (.ref io) (.ref D) ce) (compPost (model X.prog X.w) X.A X.xe use Qf (.ref D) sd.heap.objs.size) se := by
    refine loop_out (hs1 ce) (fun n s' => ∃ i G', L2.Inv (X.blk sd G3 scope ce ks) [] (wipe σ (own.map (·.2))) G' s' ∧ tu i s'.heap ∧ (∀ c ∈ ks, G' c = none) ∧ Wv i n G') ?_ m0 ⟨0, G3, Ie, ste, nks, w0⟩
    rintro n s5 ⟨i, G5, I5, st5, n5, w5⟩
    rcases turn i n G5 w5 with ⟨sp, qq⟩ | ⟨go, Nx, hNx, step⟩
    · refine thnF (T.done (X.blk sd G3 scope ce ks) rfl rfl rfl hc i [] s5 _ G5 (fun _ _ => False) I5 (sta I5 n5) st5 sp) fun r s6 ⟨hr, I6⟩ => ?_
      subst hr
      have I7 : L2.Inv X pn σ G5 s6 := Id.call' (ch := ks) I6.os I6.base I6.hok I6.bare fun c hcm => ⟨(fd c hcm).1.2.2.2.1, (fd c hcm).1.2.1, (fd c hcm).1.2.2.2.2.1, (fd c hcm).1.2.2.2.2.2⟩
      have nC : G5 sd.heap.objs.size = none := cL ▸ (show G5 ce.locals = none from I6.free)
      obtain ⟨m, hn, _⟩ := I6.loc
      have hn : s6.heap.Ns ce.locals m := hn
      rw [cL] at hn
      exact hRR D sd.heap.objs.size s6 m G5 I7 qq hn (Id.fpOk (Nat.le_refl _) nC)
    · refine thnF (T.item (X.blk sd G3 scope ce ks) rfl rfl rfl hc i [] s5 _ G5 (fun _ _ => False) I5 (sta I5 n5) st5 go) fun r s6 ⟨u, hr, h6⟩ => ?_
      subst hr
      refine thnF h6 fun _ s7 ⟨x, G7, I7, r7, y7, st7, n7⟩ => thnF (pg.run _ s7 _ G7 x u _ (I7.pinned (sta I7 n7) (T.obj _ _ st7)) r7 (step x G7 y7)) fun _ s8 ⟨σ8, G8, I8, hw8, q8⟩ => thnF (pt.run _ s8 σ8 G8 _ I8 q8) fun b s9 ⟨G9, I9, q9⟩ => ?_
      -- the end of a turn
      have fin : ∀ {ρ : L2.St} {s' : Shared} {G' : Hp}, L2.Inv (X.blk sd G3 scope ce ks) ([] ++ pinsAt ks s7.heap) ρ G' s' → (wipe σ (own.map (·.2))).length = ρ.length → (∀ (j : Nat) v, (wipe σ (own.map (·.2)))[j]? = some (some v) → ρ[j]? = some (some v)) → Nx G' →
          nxt (fun n s' => ∃ i G', L2.Inv (X.blk sd G3 scope ce ks) [] (wipe σ (own.map (·.2))) G' s' ∧ tu i s'.heap ∧ (∀ c ∈ ks, G' c = none) ∧ Wv i n G') n s' := fun {ρ s' G'} I' hl hkk nx => by
        obtain ⟨m', hm, w'⟩ := hNx G' nx
        have pin' : ∀ c ∈ ks, ∀ o, s7.heap.get? c = some o → s'.heap.get? c = some o ∧ G' c = none := fun c hcm o e => ⟨(I'.pin (c, o) (List.mem_append_right _ (List.mem_append_right _ (mem_pinsAt hcm e)))).1, (I'.pin (c, o) (List.mem_append_right _ (List.mem_append_right _ (mem_pinsAt hcm e)))).2.1⟩
        exact ⟨m', hm, i + 1, G', (I'.unpinned (pins := [])).weak hl hkk, T.keep _ _ _ st7 fun c hcm o e => (pin' c hcm o e).1, fun c hcm => (pin' c hcm _ (T.obj _ _ st7 c hcm).choose_spec.1).2, w'⟩
      have l8 : (wipe σ (own.map (·.2))).length = σ8.length := by rw [← hw8, wipe_length]
      have k8 : ∀ (j : Nat) v, (wipe σ (own.map (·.2)))[j]? = some (some v) → σ8[j]? = some (some v) := fun j v e => (wipe_some (hw8.symm ▸ e)).1
      have k9 : ∀ (j : Nat) v, (wipe σ (own.map (·.2)))[j]? = some (some v) → (wipe σ8 vs1)[j]? = some (some v) := fun j v e => by
        obtain ⟨y1, y2⟩ := wipe_some (hw8.symm ▸ e)
        rw [wipe_out fun z => y2 (hv j z)]
        exact y1
      cases b with
      | false =>
        rw [if_neg (by decide)] at q9 ⊢
        exact fin I9 l8 k8 q9
      | true =>
        rw [if_pos rfl] at q9 ⊢
        refine thnF (pi1.run _ s9 σ8 G9 _ I9 q9) fun xv s10 hx => thnF hx fun itv s11 ⟨io1, ks1, tu1, J1, G11, e1, I11, T1, st11, f11, W1, ⟨m1, w1⟩, turn1⟩ => ?_
        subst e1
        -- the inner loop
        have sta1 : ∀ {G' : Hp}, (∀ c ∈ ks1, G' c = none) → ∀ c ∈ ks1, FpOk (X.blk sd G3 scope ce ks) ([] ++ pinsAt ks s7.heap) G' c := fun hn c hcm => ⟨hn c hcm, (f11 c hcm).2⟩
        have lp : codeAny (model X.prog X.w) X.A (.compLoop (Dc2 kx vx tg iter tg1 iter1 ifs [] scope pos) 1 (.ref io1) (.ref D) ce) (fun r s' => match r with
              | .ok _ => nxt (fun n s' => ∃ i G', L2.Inv (X.blk sd G3 scope ce ks) [] (wipe σ (own.map (·.2))) G' s' ∧ tu i s'.heap ∧ (∀ c ∈ ks, G' c = none) ∧ Wv i n G') n s'
              | .error _ => False) s11 := by
          refine loop_in (fun k s' => ∃ j G', L2.Inv (X.blk sd G3 scope ce ks) ([] ++ pinsAt ks s7.heap) (wipe σ8 vs1) G' s' ∧ tu1 j s'.heap ∧ (∀ c ∈ ks1, G' c = none) ∧ W1 j k G') ?_ m1 ⟨0, G11, I11.weak (wipe_length _ _) (fun j v e => (wipe_some e).1), st11, fun c hcm => (f11 c hcm).1, w1⟩
          rintro k s12 ⟨j, G12, I12, st12, n12, w12⟩
          rcases turn1 j k G12 w12 with ⟨sp1, nx1⟩ | ⟨go1, Nx1, hNx1, step1⟩
          · refine thnF (T1.done (X.blk sd G3 scope ce ks) rfl rfl rfl hc j _ s12 (wipe σ8 vs1) G12 (fun _ _ => False) I12 (sta1 n12) st12 sp1) fun r s13 ⟨hr, I13⟩ => ?_
            subst hr
            exact fin I13 (l8.trans (wipe_length σ8 vs1).symm) k9 nx1
          · refine thnF (T1.item (X.blk sd G3 scope ce ks) rfl rfl rfl hc j _ s12 (wipe σ8 vs1) G12 (fun _ _ => False) I12 (sta1 n12) st12 go1) fun r s13 ⟨u1, hr, h13⟩ => ?_
            subst hr
            refine thnF h13 fun _ s14 ⟨x1, G14, I14, r14, y14, st14, n14⟩ => thnF (pg1.run _ s14 (wipe σ8 vs1) G14 x1 u1 _ (I14.pinned (sta1 n14) (T1.obj _ _ st14)) r14 (step1 x1 G14 y14)) fun _ s15 ⟨σ15, G15, I15, hw15, q15⟩ => thnF ((pts_nil (X := X.blk sd G3 scope ce ks)).run _ s15 σ15 G15 (fun b G' => b = true ∧ G' = G15) I15 ⟨rfl, rfl⟩) fun b1 s16 ⟨G16, I16, eb, eG⟩ => ?_
            subst eb
            subst eG
            rw [if_pos rfl]
            refine thnF (pk.run _ s16 σ15 G16 _ I16 q15) fun z0 s17 ⟨yk, G17, I17, r17, q17⟩ => thnF (pv.run _ s17 σ15 G17 _ I17 q17) fun z2 s18 ⟨yv, G18, I18, r18, kvs, kk, ek, hD18, hz18, nx⟩ => ?_
            subst ek
            refine d_dictSet (X := X.blk sd G3 scope ce ks) I18 hD18 hz18 r17 r18 fun s19 I19 => ?_
            obtain ⟨m', hm, w'⟩ := hNx1 _ nx
            have pin' : ∀ c ∈ ks1, ∀ o, s14.heap.get? c = some o → s19.heap.get? c = some o ∧ (upd G18 D (.dK (putK kvs kk yv))) c = none := fun c hcm o e => ⟨(I19.pin (c, o) (List.mem_append_right _ (List.mem_append_right _ (mem_pinsAt hcm e)))).1, (I19.pin (c, o) (List.mem_append_right _ (List.mem_append_right _ (mem_pinsAt hcm e)))).2.1⟩
            exact ⟨m', hm, j + 1, _, I19.unpinned.weak (by rw [← hw15, wipe_length]) (fun j v e => (wipe_some (hw15.symm ▸ e)).1), T1.keep _ _ _ st14 fun c hcm o e => (pin' c hcm o e).1, fun c hcm => (pin' c hcm _ (T1.obj _ _ st14 c hcm).choose_spec.1).2, w'⟩
        exact start_in lp (T1.self X.A 0 _ _ _ st11 lp)
  exact codeAny_compStart_dict ends (T.self X.A 0 _ _ _ ste ends)
theorem pe_dc2 {kx vx tg iter tg1 iter1 : Expr} {ifs : List Expr} {scope : Scope} {own : List (Str × Nat)} {vs1 : List Nat} {pos : Pos} {wi wi1 : TI} {g g1 : TG} {tt : TT} {tk tv : TE} (hc : X.calm = true) (hN : X.N.Nodup) (hi : PI X tg iter wi) (ok : BlkOk X.N X.env.scope scope own) (hv : ∀ i ∈ vs1, i ∈ own.map (·.2))
    (hg : Blk X scope fun Y => PG Y tg g) (ht : Blk X scope fun Y => PTs Y ifs tt) (hi1 : Blk X scope fun Y => PI Y tg1 iter1 wi1) (hg1 : Blk X scope fun Y => PG Y tg1 g1) (hk : Blk X scope fun Y => PE Y kx tk) (he : Blk X scope fun Y => PE Y vx tv)
    (hs : ∀ x, foldedSetIterable iter X.env x = pure x) (hs1 : ∀ en x, foldedSetIterable iter1 en x = pure x) : PE X (Dc2 kx vx tg iter tg1 iter1 ifs [] scope pos) (tDc2 wi g tt wi1 g1 tk tv (own.map (·.2)) vs1) := by
  refine ⟨fun pn s σ G Q I h => ?_⟩
  rw [arm_eval_DictComp]
  refine dc2_core hc hN hi ok hv hg ht hi1 hg1 hk he hs hs1 I h fun D C s' m G' I' q hn f => ⟨m, hn, fun h'' sw => ?_⟩
  obtain ⟨f0, f1, f2, f3, f4, f5⟩ := f
  exact ⟨.ref D, G', I'.turned (t' := s'.toks) (fun c o hb e => (sw.2 c hb).trans e) f0 f1 f3 f4 f5, rfl, q⟩
theorem ps_setDc2 {i : Nat} {y : Str} {py po' : Pos} {kx vx tg iter tg1 iter1 : Expr} {ifs : List Expr} {scope : Scope} {own : List (Str × Nat)} {vs1 : List Nat} {pos : Pos} {wi wi1 : TI} {g g1 : TG} {tt : TT} {tk tv : TE} (hc : X.calm = true) (hN : X.N.Nodup) (hi : PI X tg iter wi) (ok : BlkOk X.N X.env.scope scope own) (hv : ∀ i ∈ vs1, i ∈ own.map (·.2))
    (hg : Blk X scope fun Y => PG Y tg g) (ht : Blk X scope fun Y => PTs Y ifs tt) (hi1 : Blk X scope fun Y => PI Y tg1 iter1 wi1) (hg1 : Blk X scope fun Y => PG Y tg1 g1) (hk : Blk X scope fun Y => PE Y kx tk) (he : Blk X scope fun Y => PE Y vx tv)
    (hs : ∀ x, foldedSetIterable iter X.env x = pure x) (hs1 : ∀ en x, foldedSetIterable iter1 en x = pure x)
    (hy : X.N[i]? = some y) (hyl : X.env.scope.names.lookup y = some .local) (hsw : swapsWith (Dc2 kx vx tg iter tg1 iter1 ifs [] scope pos) (some (.Name y py)) po'.line X.env = pure true) :
    PS X (.Assign [.Name y py] (Dc2 kx vx tg iter tg1 iter1 ifs [] scope pos) po') (tAsg (tDc2 wi g tt wi1 g1 tk tv (own.map (·.2)) vs1) (gName i)) := by
  refine ⟨fun pn s σ G D0 I h => ?_⟩
  rw [exec_Assign_Name_used _ _ _ _ hsw]
  refine wpAny_bind (wpAny_standAt (wpAny_bind ?_))
  show wpAny _ X.A (do let _ ← comprehension (Dc2 kx vx tg iter tg1 iter1 ifs [] scope pos) scope X.env (firstIterPos [⟨tg, iter, ifs, 0⟩, ⟨tg1, iter1, [], 0⟩] pos) newDict false (eval iter X.env) (some (assign (.Name y py) X.env))) _ _ s
  have h : tDc2 wi g tt wi1 g1 tk tv (own.map (·.2)) vs1 σ G (fun x G1 => gName i x σ G1 D0.nx) := h
  refine wpAny_bind (thn (dc2_core (Qf := fun _ s' => SP X pn D0 .next s') hc hN hi ok hv hg ht hi1 hg1 hk he hs hs1 I h fun L C s' m G' I' q hn f => ?_) fun _ s' hq => wpAny_pure (wpAny_pure hq))
  show wpAny _ _ (assign (.Name y py) X.env (.ref L)) _ _ _
  refine wpAny_assign_Name (store_ok2 (v := V.ref L) I' hN hy (.inl hyl) rfl (fun s2 I2 ⟨a, sb, ha⟩ => ?_) (.inr hyl))
  obtain ⟨f0, f1, f2, f3, f4, f5⟩ := f
  have na : C ≠ a := ha.elim (fun z => by rw [z]; exact f1) fun z e => f4 y a z e.symm
  exact ⟨m, hn.sameBut sb na, fun h3 sw => ⟨_, G', I2.turned (t' := s2.toks) (fun c o hb e => (sw.2 c hb).trans e) f0 f1 f3 f4 f5, q⟩⟩
end
end Tdl
/-! TdDc3: two-clause dict comprehensions, by the evaluator. -/
namespace Tdl
open PySem PySem.W L2 PySem.Spec PyProof.Rows
theorem dput_ge (k v : PyData) (es : List (PyData × PyData)) : es.length ≤ (dput k v es).length := by
  unfold dput
  split
  · rw [List.length_map]; exact Nat.le_refl _
  · rw [List.length_append]; omega
section
variable {Φ : Fns} {X : Cx} {W : WX} {x y : Ex} {e f tg : Expr} {xs : List Ex} {es : List Expr} {p pos : Pos}
abbrev dc2I (Φ : Fns) (tk : Bool) (tg1 : Tg) (key val : Ex) (e1 : Env) : PyData → List (PyData × PyData) → Res (List (PyData × PyData)) := fun x1 acc1 => (bindT tg1 x1 e1).bd fun e2 => ((calm (ev Φ key e2)).bd fr).bd fun kd => ((calm (ev Φ val e2)).bd fr).bd fun vd =>
  gd (keyK tk kd) (.ok (dput kd vd acc1))
abbrev dc2F (Φ : Fns) (own : List (String × Nat)) (tk : Bool) (tg : Tg) (cond : Ex) (tg1 : Tg) (k1 : Wk) (src1 : List Ex) (key val : Ex) (env : Env) : PyData → List (PyData × PyData) → Res (List (PyData × PyData)) := fun x acc => (bindT tg x (wipeS own env)).bd fun e1 => (calm (evc Φ cond e1)).bd fun c => match c with
  | true => (calm (evs Φ src1 e1)).bd fun ds1 => (walkop k1 ds1).bd fun xs1 => goDc (dc2I Φ tk tg1 key val e1) xs1 acc
  | false => .ok acc
theorem dc2I_nx {tk : Bool} {tg1 : Tg} {key val : Ex} {e1 : Env} (d : PyData) (a : List (PyData × PyData)) (c : String) : dc2I Φ tk tg1 key val e1 d a ≠ .exc c :=
  bd_nx (fun c => bindT_nx) fun _ => bd_nx (fun c => bd_nx (fun c => calm_nx) fun _ => fr_nx) fun _ => bd_nx (fun c => bd_nx (fun c => calm_nx) fun _ => fr_nx) fun _ => gd_nx fun e => nomatch e
theorem goDc_cons {f : PyData → List (PyData × PyData) → Res (List (PyData × PyData))} {x : PyData} {r : List PyData} {acc : List (PyData × PyData)} : goDc f (x :: r) acc = (f x acc).bd fun a => goDc f r a := rfl
theorem goDc_nx {f : PyData → List (PyData × PyData) → Res (List (PyData × PyData))} (hf : ∀ d a c, f d a ≠ .exc c) : ∀ {xs : List PyData} {acc : List (PyData × PyData)} {c : String}, goDc f xs acc ≠ .exc c
  | [], acc, c, h => by unfold goDc at h; cases h
  | x :: xs, acc, c, h => by
    unfold goDc at h
    cases e : f x acc with
    | ok o => rw [e, bd_ok] at h; exact goDc_nx hf h
    | exc c2 => exact hf x acc c2 e
    | err => rw [e] at h; cases h
theorem goDc_len {f : PyData → List (PyData × PyData) → Res (List (PyData × PyData))} (hf : ∀ x acc out, f x acc = .ok out → acc.length ≤ out.length) : ∀ {xs : List PyData} {acc out : List (PyData × PyData)}, goDc f xs acc = .ok out → acc.length ≤ out.length
  | [], acc, out, h => by unfold goDc at h; cases h; exact Nat.le_refl _
  | x :: xs, acc, out, h => by
    unfold goDc at h
    cases e : f x acc with
    | ok o => rw [e, bd_ok] at h; exact Nat.le_trans (hf _ _ _ e) (goDc_len hf h)
    | exc c => rw [e] at h; cases h
    | err => rw [e] at h; cases h
theorem bd_is {α β : Type} {r : Res α} {f : α → Res β} {b : β} (h : r.bd f = .ok b) : ∃ a, r = .ok a ∧ f a = .ok b := by
  cases r with
  | ok a => exact ⟨a, rfl, h⟩
  | exc c => cases h
  | err => cases h
theorem dc2I_len {tk : Bool} {tg1 : Tg} {key val : Ex} {e1 : Env} (x : PyData) (acc out : List (PyData × PyData)) (h : dc2I Φ tk tg1 key val e1 x acc = .ok out) : acc.length ≤ out.length := by
  obtain ⟨_, _, h⟩ := bd_is h
  obtain ⟨_, _, h⟩ := bd_is h
  obtain ⟨_, _, h⟩ := bd_is h
  obtain ⟨_, h⟩ := gd_ok h
  cases h
  exact dput_ge _ _ _
theorem dc2F_len {own : List (String × Nat)} {tk : Bool} {tg : Tg} {cond : Ex} {tg1 : Tg} {k1 : Wk} {src1 : List Ex} {key val : Ex} {env : Env} (x : PyData) (acc out : List (PyData × PyData)) (h : dc2F Φ own tk tg cond tg1 k1 src1 key val env x acc = .ok out) : acc.length ≤ out.length := by
  obtain ⟨_, _, h⟩ := bd_is h
  obtain ⟨c, _, h⟩ := bd_is h
  cases c with
  | false => cases h; exact Nat.le_refl _
  | true =>
    obtain ⟨_, _, h⟩ := bd_is h
    obtain ⟨_, _, h⟩ := bd_is h
    exact goDc_len (fun x a o h => dc2I_len x a o h) h
theorem dc2F_nx {own : List (String × Nat)} {tk : Bool} {tg : Tg} {cond : Ex} {tg1 : Tg} {k1 : Wk} {src1 : List Ex} {key val : Ex} {env : Env} (x : PyData) (acc : List (PyData × PyData)) (c : String) : dc2F Φ own tk tg cond tg1 k1 src1 key val env x acc ≠ .exc c :=
  bd_nx (fun c => bindT_nx) fun _ => bd_nx (fun c => calm_nx) fun b => by
    cases b with
    | false => exact fun e => nomatch e
    | true => exact bd_nx (fun c => calm_nx) fun _ => bd_nx (fun c => walkop_nx) fun _ => goDc_nx dc2I_nx
theorem Fine.limD {xw : String → Prop} {k : RV → Prop} {tk : Bool} {f : PyData → List (PyData × PyData) → Res (List (PyData × PyData))} (hf : ∀ x acc out, f x acc = .ok out → acc.length ≤ out.length) {xs : List PyData} {acc : List (PyData × PyData)} (h : Fine xw k ((goDc f xs acc).bd fun out => Tdl.gd (decide (out.length < LIM)) (.ok (ow (dct tk out))))) (nx : ∀ c, goDc f xs acc ≠ .exc c) : acc.length < LIM := by
  obtain ⟨out, e, h2⟩ := h.bd.pure nx
  exact Nat.lt_of_le_of_lt (goDc_len hf e) (of_decide_eq_true h2.gd.1)
theorem dc2_imp {own : List (String × Nat)} {ownS : List (Str × Nat)} {t t1 : Tg} {k k1 : Wk} {src src1 : List Ex} {cond key val : Ex} (hown : ownS.map (·.2) = own.map (·.2)) (htg : ∀ i ∈ tgS t, i ∈ own.map (·.2)) (htg1 : ∀ i ∈ tgS t1, i ∈ own.map (·.2) ∧ i ∉ tgS t) (σ : L2.St) (H : Hp) (Q : VK) (h : TEv Φ X.K X.mg W (.dc2 false own t k src cond t1 k1 src1 key val) σ H Q) :
    tDc2 (TWk Φ X.K X.mg W k src) (TGt X.K t) (TTc Φ X.K X.mg WF cond) (TWg Φ X.K X.mg WF k1 src1) (TGt X.K t1) (TGv Φ X.K X.mg WF key) (TGv Φ X.K X.mg WF val) (ownS.map (·.2)) (tgS t1) σ H Q := by
  obtain ⟨Z, env, sl, i0, hf⟩ := h
  refine ⟨Z, env, sl, i0, ?_⟩
  unfold ev at hf
  rw [← bd_bd] at hf
  refine hf.bd.mono (fun _ h => h) fun xs hx Z1 H1 J x1 wd D hD => ?_
  rw [hown]
  have hx : Fine (XWs X.mg W σ Z H) (kR X.K Z H Q) ((goDc (dc2F Φ own false t cond t1 k1 src1 key val env) xs []).bd fun out => gd (decide (out.length < LIM)) (.ok (ow (dct false out)))) := hx
  have zD : Z1 D = none := x1.in_.free hD
  refine ⟨fun j m H2 => m = xs.length - j ∧ j ≤ xs.length ∧ ∃ Z2 acc vacc, Ext Z1 H1 Z2 H2 ∧ Z2 D = none ∧ H2 D = some (.dK vacc) ∧ RepK X.K Z2 vacc acc ∧
    Fine (XWs X.mg W σ Z H) (kR X.K Z H Q) ((goDc (dc2F Φ own false t cond t1 k1 src1 key val env) (xs.drop j) acc).bd fun out => gd (decide (out.length < LIM)) (.ok (ow (dct false out)))), ⟨xs.length, rfl, Nat.zero_le _, Z1, [], [], (Ext.refl x1.in_).put hD zD, zD, upd_same, .nil, hx⟩, ?_⟩
  rintro j m H2 ⟨rfl, hj, Z2, acc, vacc, x2, z2, h2, rl, hr⟩
  obtain ⟨wgo, wst⟩ := wd Z2 H2 x2.z x2.h x2.in_ j
  by_cases hlt : j < xs.length
  · obtain ⟨go, yld⟩ := wgo hlt
    have edrop : xs.drop j = xs[j] :: xs.drop (j + 1) := List.drop_eq_getElem_cons hlt
    rw [edrop, goDc_cons] at hr
    rw [bd_bd, bd_bd] at hr
    refine .inr ⟨go, fun H3 => ∃ Z2 acc vacc, Ext Z1 H1 Z2 H3 ∧ Z2 D = none ∧ H3 D = some (.dK vacc) ∧ RepK X.K Z2 vacc acc ∧
      Fine (XWs X.mg W σ Z H) (kR X.K Z H Q) ((goDc (dc2F Φ own false t cond t1 k1 src1 key val env) (xs.drop (j + 1)) acc).bd fun out => gd (decide (out.length < LIM)) (.ok (ow (dct false out)))), fun H3 h => ⟨xs.length - (j + 1), by omega, rfl, hlt, h⟩, fun v H3 hy => ?_⟩
    obtain ⟨Z3, d, ed, x3, rv⟩ := yld v H3 hy
    rw [List.getElem?_eq_getElem hlt] at ed
    cases ed
    have sl3 : Sl X.K Z3 (wipeS own env) (wipe σ (own.map (·.2))) H3 := (sl.wipe own).up (x1.trans (x2.trans x3))
    obtain ⟨env', eb, hr⟩ := hr.bd.pure fun c => bindT_nx
    refine ⟨Z3, wipeS own env, xs[j], env', sl3, x3.in_, rv, eb, fun σ2 sl4 st => ⟨(st.wipe htg).trans (wipe_wipe _ _), ?_⟩⟩
    have z3 : Z3 D = none := x3.new D z2 (by rw [h2]; trivial)
    have h3 : H3 D = some (.dK vacc) := (x3.own D z2 (by rw [h2]; trivial)).trans h2
    have out2 : OutD D env' σ2 := (((OutD.of sl (x1.h.free hD)).wipe own).bind eb st)
    have un1 : ∀ i ∈ tgS t1, ∀ sv, env'[i]? = some sv → sv = .un := fun i hi sv e => by
      rw [(bindT_stay eb).2 i (htg1 i hi).2] at e
      exact wipeS_get (htg1 i hi).1 e
    refine ⟨Z3, env', sl4, x3.in_, ?_⟩
    rw [bd_bd] at hr
    refine hr.bd.calm.mono (fun _ h => h) fun b hb Z4 H4 x4 => ?_
    have z4 : Z4 D = none := x4.new D z3 (by rw [h3]; trivial)
    have h4 : H4 D = some (.dK vacc) := (x4.own D z3 (by rw [h3]; trivial)).trans h3
    have sl5 := sl4.up x4
    have rl4 := (rl.up x3.z).up x4.z
    have x14 := x2.trans (x3.trans x4)
    cases b with
    | false =>
      show ite (false = true) _ _
      rw [if_neg (by decide)]
      exact ⟨Z4, acc, vacc, x14, z4, h4, rl4, hb⟩
    | true =>
      show ite (true = true) _ _
      rw [if_pos rfl]
      have hb : Fine (XWs X.mg W σ Z H) (kR X.K Z H Q) (((calm (evs Φ src1 env')).bd fun ds1 => (walkop k1 ds1).bd fun xs1 => goDc (dc2I Φ false t1 key val env') xs1 acc).bd fun acc1 => (goDc (dc2F Φ own false t cond t1 k1 src1 key val env) (xs.drop (j + 1)) acc1).bd fun out => gd (decide (out.length < LIM)) (.ok (ow (dct false out)))) := hb
      have hb : Fine (XWs X.mg W σ Z H) (kR X.K Z H Q) (((calm (evs Φ src1 env')).bd (walkop k1)).bd fun xs1 => (goDc (dc2I Φ false t1 key val env') xs1 acc).bd fun acc1 => (goDc (dc2F Φ own false t cond t1 k1 src1 key val env) (xs.drop (j + 1)) acc1).bd fun out => gd (decide (out.length < LIM)) (.ok (ow (dct false out)))) := by
        simp only [bd_bd] at hb ⊢
        exact hb
      refine ⟨Z4, env', sl5, x4.in_, ?_⟩
      refine (Fine.calmB (xw := XWs X.mg W σ Z H) (fun a c => walkop_nx) hb.bd).mono (fun _ h => h) fun xs1 hx1 Z5 H5 J1 x5 wd1 => ?_
      have z5 : Z5 D = none := x5.new D z4 (by rw [h4]; trivial)
      have h5 : H5 D = some (.dK vacc) := (x5.own D z4 (by rw [h4]; trivial)).trans h4
      refine ⟨fun l m H6 => m = xs1.length - l ∧ l ≤ xs1.length ∧ ∃ Z6 acc vacc, Ext Z1 H1 Z6 H6 ∧ Sm Z5 Z6 ∧ Sl X.K Z6 env' σ2 H6 ∧ Z6 D = none ∧ H6 D = some (.dK vacc) ∧ RepK X.K Z6 vacc acc ∧
        Fine (XWs X.mg W σ Z H) (kR X.K Z H Q) ((goDc (dc2I Φ false t1 key val env') (xs1.drop l) acc).bd fun acc1 => (goDc (dc2F Φ own false t cond t1 k1 src1 key val env) (xs.drop (j + 1)) acc1).bd fun out => gd (decide (out.length < LIM)) (.ok (ow (dct false out)))), ⟨xs1.length, rfl, Nat.zero_le _, Z5, acc, vacc, x14.trans x5, Sm.refl _, sl5.up x5, z5, h5, rl4.up x5.z, hx1⟩, ?_⟩
      rintro l m H6 ⟨rfl, hl, Z6, acc6, vacc6, x6, s6, sl6, z6, h6, rl6, hr6⟩
      obtain ⟨wgo1, wst1⟩ := wd1 Z6 H6 s6 (s6.trans (.of x6.in_)) x6.in_ l
      by_cases hlt1 : l < xs1.length
      · obtain ⟨go1, yld1⟩ := wgo1 hlt1
        have edrop1 : xs1.drop l = xs1[l] :: xs1.drop (l + 1) := List.drop_eq_getElem_cons hlt1
        rw [edrop1, goDc_cons] at hr6
        rw [bd_bd, bd_bd] at hr6
        refine .inr ⟨go1, fun H7 => ∃ Z6 acc vacc, Ext Z1 H1 Z6 H7 ∧ Sm Z5 Z6 ∧ Sl X.K Z6 env' σ2 H7 ∧ Z6 D = none ∧ H7 D = some (.dK vacc) ∧ RepK X.K Z6 vacc acc ∧
          Fine (XWs X.mg W σ Z H) (kR X.K Z H Q) ((goDc (dc2I Φ false t1 key val env') (xs1.drop (l + 1)) acc).bd fun acc1 => (goDc (dc2F Φ own false t cond t1 k1 src1 key val env) (xs.drop (j + 1)) acc1).bd fun out => gd (decide (out.length < LIM)) (.ok (ow (dct false out)))), fun H7 h => ⟨xs1.length - (l + 1), by omega, rfl, hlt1, h⟩, fun v7 H7 hy7 => ?_⟩
        obtain ⟨Z7, d7, ed7, x7, rv7⟩ := yld1 v7 H7 hy7
        rw [List.getElem?_eq_getElem hlt1] at ed7
        cases ed7
        obtain ⟨env7, eb7, hr7⟩ := hr6.bd.pure fun c => bindT_nx
        refine ⟨Z7, env', xs1[l], env7, (sl6.up x7).wiped un1, x7.in_, rv7, eb7, fun σ8 sl8 st8 => ⟨(st8.wipe fun _ h => h).trans (wipe_wipe _ _), ?_⟩⟩
        have z7 : Z7 D = none := x7.new D z6 (by rw [h6]; trivial)
        have h7 : H7 D = some (.dK vacc6) := (x7.own D z6 (by rw [h6]; trivial)).trans h6
        rw [bd_bd] at hr7
        refine ⟨Z7, env7, sl8, x7.in_, (Fine.calmB (xw' := XWs X.mg WF σ8 Z7 H7) (fun a c => fr_nx) hr7.bd).mono (fun _ h => h) fun kd hkd Z8 H8 v8 x8 rv8 => ?_⟩
        have z8 : Z8 D = none := x8.new D z7 (by rw [h7]; trivial)
        have h8 : H8 D = some (.dK vacc6) := (x8.own D z7 (by rw [h7]; trivial)).trans h7
        rw [bd_bd] at hkd
        refine ⟨Z8, env7, sl8.up x8, x8.in_, (Fine.calmB (fun a c => fr_nx) hkd.bd).mono (fun _ h => h) fun vd hvd Z9 H9 v9 x9 rv9 => ?_⟩
        have z9 : Z9 D = none := x9.new D z8 (by rw [h8]; trivial)
        have h9 : H9 D = some (.dK vacc6) := (x9.own D z8 (by rw [h8]; trivial)).trans h8
        obtain ⟨gk, hvd⟩ := hvd.bd.gd
        have hvd : Fine (XWs X.mg W σ Z H) (kR X.K Z H Q) ((goDc (dc2I Φ false t1 key val env') (xs1.drop (l + 1)) (dput kd vd acc6)).bd fun acc1 => (goDc (dc2F Φ own false t cond t1 k1 src1 key val env) (xs.drop (j + 1)) acc1).bd fun out => gd (decide (out.length < LIM)) (.ok (ow (dct false out)))) := hvd
        have hlen : acc6.length < sizeLine := by
          obtain ⟨o1, e1, hy1⟩ := hvd.bd.pure fun c => goDc_nx dc2I_nx
          have q1 := goDc_len (fun x a o h => dc2I_len x a o h) e1
          have q2 := Fine.limD dc2F_len hy1 fun c => goDc_nx (fun d acc c => dc2F_nx d acc c)
          have q3 := dput_ge kd vd acc6
          rw [← lim_eq]
          omega
        obtain ⟨kk, rfl, rfl⟩ := key_flat rv8 gk
        refine ⟨vacc6, kk, rfl, h9, by rw [rl6.length]; exact hlen, Z9, dput (kD kk) vd acc6, putK vacc6 kk v9, (x6.trans (x7.trans (x8.trans x9))).put hD z9, ((s6.trans x7.z).trans x8.z).trans x9.z, ?_, z9, upd_same, RepK.put kk rv9 (((rl6.up x7.z).up x8.z).up x9.z), hvd⟩
        exact (((sl6.up x7).up x8).up x9).swap out2
      · have el : l = xs1.length := by omega
        refine .inl ⟨wst1 el, ?_⟩
        rw [el, List.drop_length] at hr6
        exact ⟨Z6, acc6, vacc6, x6, z6, h6, rl6, hr6⟩
  · have ej : j = xs.length := by omega
    refine .inl ⟨wst ej, ?_⟩
    rw [ej, List.drop_length] at hr
    have hr : Fine (XWs X.mg W σ Z H) (kR X.K Z H Q) (gd (decide (acc.length < LIM)) (.ok (ow (dct false acc)))) := hr
    have hr : kR X.K Z H Q (ow (dct false acc)) := hr.gd.2
    exact hr Z2 H2 (.ref D) (x1.trans x2) ⟨D, rfl, x1.h.free hD, z2, .inl ⟨vacc, acc, rfl, h2, rl⟩⟩
theorem pv_dc2 {own : List (String × Nat)} {ownS : List (Str × Nat)} {t t1 : Tg} {k k1 : Wk} {src src1 : List Ex} {cond key val : Ex} {tg' iter' k' v' tg1' iter1' : Expr} {ifs' : List Expr} {scope : Scope} (hc : X.calm = true) (hN : X.N.Nodup) (hi : PWk Φ X W tg' iter' k src) (ok : BlkOk X.N X.env.scope scope ownS) (hown : ownS.map (·.2) = own.map (·.2))
    (htg : ∀ i ∈ tgS t, i ∈ own.map (·.2)) (htg1 : ∀ i ∈ tgS t1, i ∈ own.map (·.2) ∧ i ∉ tgS t)
    (hg : Blk X scope fun Y => PG Y tg' (TGt X.K t)) (ht : Blk X scope fun Y => PTs Y ifs' (TTc Φ X.K X.mg WF cond)) (hi1 : Blk X scope fun Y => PWg Φ Y WF tg1' iter1' k1 src1) (hg1 : Blk X scope fun Y => PG Y tg1' (TGt X.K t1))
    (hk : Blk X scope fun Y => PEv Φ Y WF k' key) (he : Blk X scope fun Y => PEv Φ Y WF v' val) (hs : ∀ x, foldedSetIterable iter' X.env x = pure x) (hs1 : ∀ env x, foldedSetIterable iter1' env x = pure x) :
    PEv Φ X W (Dc2 k' v' tg' iter' tg1' iter1' ifs' [] scope pos) (.dc2 false own t k src cond t1 k1 src1 key val) := by
  refine PE.imp (pe_dc2 (wi1 := TWg Φ X.K X.mg WF k1 src1) (tk := TGv Φ X.K X.mg WF key) (tv := TGv Φ X.K X.mg WF val) (vs1 := tgS t1) hc hN hi ok (fun i h => by rw [hown]; exact (htg1 i h).1) hg ht hi1 hg1 (fun s H C cl fp => gv_of (hk s H C cl fp)) (fun s H C cl fp => gv_of (he s H C cl fp)) hs hs1) (dc2_imp hown htg htg1)
theorem ps_dc2D {i : Nat} {y : Str} {py spos : Pos} {own : List (String × Nat)} {ownS : List (Str × Nat)} {t t1 : Tg} {k k1 : Wk} {src src1 : List Ex} {cond key val : Ex} {tg' iter' k' v' tg1' iter1' : Expr} {ifs' : List Expr} {scope : Scope} (hc : X.calm = true) (hN : X.N.Nodup) (hi : PWk Φ X W tg' iter' k src) (ok : BlkOk X.N X.env.scope scope ownS) (hown : ownS.map (·.2) = own.map (·.2))
    (htg : ∀ i ∈ tgS t, i ∈ own.map (·.2)) (htg1 : ∀ i ∈ tgS t1, i ∈ own.map (·.2) ∧ i ∉ tgS t)
    (hg : Blk X scope fun Y => PG Y tg' (TGt X.K t)) (ht : Blk X scope fun Y => PTs Y ifs' (TTc Φ X.K X.mg WF cond)) (hi1 : Blk X scope fun Y => PWg Φ Y WF tg1' iter1' k1 src1) (hg1 : Blk X scope fun Y => PG Y tg1' (TGt X.K t1))
    (hk : Blk X scope fun Y => PEv Φ Y WF k' key) (he : Blk X scope fun Y => PEv Φ Y WF v' val) (hs : ∀ x, foldedSetIterable iter' X.env x = pure x) (hs1 : ∀ env x, foldedSetIterable iter1' env x = pure x)
    (hy : X.N[i]? = some y) (hyl : X.env.scope.names.lookup y = some .local) (hsw : swapsWith (Dc2 k' v' tg' iter' tg1' iter1' ifs' [] scope pos) (some (.Name y py)) spos.line X.env = pure true) :
    PS X (.Assign [.Name y py] (Dc2 k' v' tg' iter' tg1' iter1' ifs' [] scope pos) spos) (tAsg (TEv Φ X.K X.mg W (.dc2 false own t k src cond t1 k1 src1 key val)) (gName i)) := by
  exact PS.imp0 (ps_setDc2 (wi1 := TWg Φ X.K X.mg WF k1 src1) (tk := TGv Φ X.K X.mg WF key) (tv := TGv Φ X.K X.mg WF val) (vs1 := tgS t1) hc hN hi ok (fun i h => by rw [hown]; exact (htg1 i h).1) hg ht hi1 hg1 (fun s H C cl fp => gv_of (hk s H C cl fp)) (fun s H C cl fp => gv_of (he s H C cl fp)) hs hs1 hy hyl hsw) fun D σ H h => dc2_imp hown htg htg1 σ H _ h
end
end Tdl
/-! TdChk: the text against the own tree. -/
namespace Tdl
open PySem PySem.W L2 PySem.Spec PyProof.Rows
/-- what is known of a block of the text -/
structure Ck where
  N : List Str
  sc : Scope
  own : Scope
  fns : List String
  csts : List (String × PyData)
  cls : List String
abbrev Ck.blk (C : Ck) (scope : Scope) : Ck := { C with sc := relS scope C.sc, own := scope }
def visB (sc : Scope) (n : Str) : Bool := match sc.names.lookup n with
  | some .local => true
  | some .cell => true
  | some .free => true
  | _ => false
def glB (sc : Scope) (n : Str) : Bool := match sc.names.lookup n with
  | some .globalImplicit => true
  | _ => false
def locB (C : Ck) (n : Str) : Bool := match C.sc.names.lookup n with
  | some .local => true
  | some .cell => (match C.own.names.lookup n with | some .cell => true | _ => false)
  | _ => false
def nmB (n : Str) : Bool := !(n == ("__debug__" : Str)) && !(n == ("__classdict__" : Str))
/-- the same plain thing -/
def cdB : PyData → PyData → Bool
  | .int a, .int b => decide (a = b)
  | .str a, .str b => decide (a = b)
  | .bool a, .bool b => decide (a = b)
  | .none, .none => true
  | _, _ => false
theorem cdB_is {a b : PyData} (h : cdB a b = true) : a = b := by
  cases a <;> cases b <;> first | (cases h; done) | rfl | (simp only [cdB, decide_eq_true_eq] at h; rw [h])
def notSet : Expr → Bool
  | .Set _ _ _ => false
  | _ => true
theorem notSet_is {e : Expr} {en : PySem.Env} (h : notSet e = true) (x : Value) : foldedSetIterable e en x = pure x := by
  cases e <;> first | (cases h; done) | rfl
def opB (o : Bo) (p : Operator) : Bool := decide (p = boP o)
def coB (o : Co) (p : CmpOp) : Bool := decide (p = coP o)
/-- what a walk's source is made of -/
def wkA (k : Wk) (C : Ck) (tg it : Expr) : Option (List Expr) := match k with
  | .sq => if notSet it then some [it] else none
  | .ks => if notSet it then some [it] else none
  | .r1 => (match it with
    | .Call (.Name n _) [a] [] _ => if decide (n = "range") && (glB C.sc n && notStar a) then some [a] else none
    | _ => none)
  | .r2 => (match it with
    | .Call (.Name n _) [a, b] [] _ => if decide (n = "range") && (glB C.sc n && (notStar a && notStar b)) then some [a, b] else none
    | _ => none)
  | .en => (match tg with
    | .Tuple _ _ _ => (match it with
      | .Call (.Name n _) [a] [] _ => if decide (n = "enumerate") && (glB C.sc n && notStar a) then some [a] else none
      | _ => none)
    | _ => none)
  | .zp => (match tg with
    | .Tuple _ _ _ => (match it with
      | .Call (.Name n _) [a, b] [] _ => if decide (n = "zip") && (glB C.sc n && (notStar a && notStar b)) then some [a, b] else none
      | _ => none)
    | _ => none)
  | _ => none
mutual
def ckg (C : Ck) : Tg → Expr → Bool
  | .nm i, e => (match e with
    | .Name n _ => decide (C.N[i]? = some n) && locB C n
    | _ => false)
  | .tp ts, e => (match e with
    | .Tuple es _ _ => ckgs C ts es
    | _ => false)
def ckgs (C : Ck) : List Tg → List Expr → Bool
  | [], es => (match es with | [] => true | _ => false)
  | t :: ts, es => (match es with
    | e :: es => notStar e && (ckg C t e && ckgs C ts es)
    | [] => false)
end
abbrev ownS (own : List (String × Nat)) : List (Str × Nat) := own.map fun p => (Str.ofString p.1, p.2)
def subB (l : List Nat) (own : List (String × Nat)) : Bool := l.all fun i => (own.map (·.2)).contains i
/-- a constant of the module -/
def cstK (C : Ck) (g : String) (d : PyData) : Bool := match C.csts.lookup g with
  | some d' => cdB d' d
  | none => false
def isNil : Ex → Bool
  | .nil => true
  | _ => false
mutual
/-- t: as a test -/
def ck : Ex → Bool → Ck → Expr → Bool
  | .nil, _, _, _ => false
  | .var i, t, C, e => (match e with
    | .Name n _ => decide (C.N[i]? = some n) && (visB C.sc n && nmB n)
    | _ => false)
  | .cst d, t, _, e => (match e with
    | .Constant c _ _ => cstB d c
    | _ => false)
  | .glb g d, t, C, e => (match e with
    | .Name n _ => decide (n = Str.ofString g) && (glB C.sc n && (cstK C g d && nmB n))
    | _ => false)
  | .tup es, t, C, e => (match e with
    | .Tuple es' _ _ => cks es false C es' && decide (es.length ≤ 1000)
    | _ => false)
  | .lst es, t, C, e => (match e with
    | .List es' _ => cks es false C es' && decide (es.length ≤ 1000)
    | _ => false)
  | .bin o a b, t, C, e => (match e with
    | .BinOp a' o' b' _ => opB o o' && (ck a false C a' && ck b false C b')
    | _ => false)
  | .neg a, t, C, e => (match e with
    | .UnaryOp .USub a' _ => ck a false C a'
    | _ => false)
  | .cmp o a b, t, C, e => (match e with
    | .Compare a' [o'] [b'] _ => coB o o' && (!behindInMarks (coP o) b' && (ck a false C a' && ck b false C b'))
    | _ => false)
  | .chn o p a b c, t, C, e => (match e with
    | .Compare a' [o', p'] [b', c'] _ => coB o o' && (coB p p' && (!lastMarks [coP o, coP p] [b', c'] && (ck a false C a' && (ck b false C b' && ck c false C c'))))
    | _ => false)
  | .bop k es, t, C, e => (match e with
    | .BoolOp o es' _ => decide (o = bopP k) && (cks es t C es' && !es.isEmpty)
    | _ => false)
  | .nt a, t, C, e => (match e with
    | .UnaryOp .Not a' _ => ck a t C a'
    | _ => false)
  | .ite c a b, t, C, e => (match e with
    | .IfExp c' a' b' _ => !t && (ck c true C c' && (ck a false C a' && ck b false C b'))
    | _ => false)
  | .idx a b, t, C, e => (match e with
    | .Subscript a' b' _ => plainIxB b' && (ck a false C a' && ck b false C b')
    | _ => false)
  | .slc a lo hi, t, C, e => (match e with
    | .Subscript a' (.Slice lo' hi' none _) _ => ck a false C a' && ((match isNil lo with | true => lo'.isNone | false => match lo' with | some f => ck lo false C f | none => false) && (match isNil hi with | true => hi'.isNone | false => match hi' with | some f => ck hi false C f | none => false))
    | _ => false)
  | .rev a, t, C, e => (match e with
    | .Subscript a' (.Slice none none (some (.UnaryOp .USub (.Constant (.int n) _ _) _)) _) _ => decide (n = 1) && ck a false C a'
    | _ => false)
  | .call f es, t, C, e => (match e with
    | .Call (.Name n _) (a :: es') [] _ => decide (n = Str.ofString f) && (C.fns.contains f && (glB C.sc n && cks es false C (a :: es')))
    | _ => false)
  | .blt b es, t, C, e => (match b with
    | .sset => (match e with
      | .Call (.Name n _) [.Call (.Name n2 _) [a] [] _] [] _ => decide (n = "sorted") && (decide (n2 = "set") && (glB C.sc n && (glB C.sc n2 && cks es false C [a])))
      | _ => false)
    | .lset => (match e with
      | .Call (.Name n _) [.Call (.Name n2 _) [a] [] _] [] _ => decide (n = "len") && (decide (n2 = "set") && (glB C.sc n && (glB C.sc n2 && cks es false C [a])))
      | _ => false)
    | .lvals => (match e with
      | .Call (.Name n _) [.Call (.Attribute o' m apos) [] [] cpos] [] _ => decide (n = "list") && (decide (m = "values") && (glB C.sc n && (baseB o' && ((apos.endLine == cpos.line) && cks es false C [o']))))
      | _ => false)
    | b => (match e with
      | .Call (.Name n _) (a :: es') [] _ => decide (n = Str.ofString (bltN b)) && (bltS b && (glB C.sc n && cks es false C (a :: es')))
      | _ => false))
  | .mth m o es, t, C, e => (match e with
    | .Call (.Attribute o' n apos) (a :: es') [] cpos => decide (n = Str.ofString (mthN m)) && (baseB o' && ((apos.endLine == cpos.line) && (decide ((a :: es').length < 29) && (ck o false C o' && cks es false C (a :: es')))))
    | _ => false)
  | .isi a ty, t, C, e => (match e with
    | .Call (.Name n _) [a', .Name n2 _] [] _ => decide (n = "isinstance") && (decide (n2 = Str.ofString (tyN ty)) && (decide (ty ≠ .tl) && (glB C.sc n && (glB C.sc n2 && (notStar a' && ck a false C a')))))
    | _ => false)
  | .lc own tg k src cond elt, t, C, e => (match e with
    | .ListComp elt' [⟨tg', it', ifs', 0⟩] scope _ => blkC C.N C.sc scope (ownS own) && (subB (tgS tg) own && (ckg (C.blk scope) tg tg' && ((match wkA k C tg' it' with | some es => cks src false C es | none => false) &&
        ((match isNil cond with | true => ifs'.isEmpty | false => match ifs' with | [c] => ck cond true (C.blk scope) c | _ => false) && ck elt false (C.blk scope) elt'))))
    | _ => false)
  | .lcd own tg its i cond elt, t, C, e => (match e with
    | .ListComp elt' [⟨tg', .Name n _, ifs', 0⟩] scope _ => !its && (decide (C.N[i]? = some n) && (visB C.sc n && (nmB n && (blkC C.N C.sc scope (ownS own) && (subB (tgS tg) own && (ckg (C.blk scope) tg tg' &&
        ((match isNil cond with | true => ifs'.isEmpty | false => match ifs' with | [c] => ck cond true (C.blk scope) c | _ => false) && ck elt false (C.blk scope) elt')))))))
    | _ => false)
  | .lc2 own tg k src tg1 k1 src1 elt, t, C, e => (match e with
    | .ListComp elt' [⟨tg', it', [], 0⟩, ⟨tg1', it1', [], 0⟩] scope _ => blkC C.N C.sc scope (ownS own) && (subB (tgS tg) own && (subB (tgS tg1) own && ((tgS tg1).all (fun i => !(tgS tg).contains i) && (ckg (C.blk scope) tg tg' && (ckg (C.blk scope) tg1 tg1' &&
        ((match wkA k C tg' it' with | some es => cks src false C es | none => false) && (notSet it1' && ((match wkA k1 (C.blk scope) tg1' it1' with | some es => cks src1 false (C.blk scope) es | none => false) && ck elt false (C.blk scope) elt'))))))))
    | _ => false)
  | .dc tk own tg k src key val, t, C, e => (match e with
    | .DictComp k' v' [⟨tg', it', [], 0⟩] scope _ => !tk && (blkC C.N C.sc scope (ownS own) && (subB (tgS tg) own && (ckg (C.blk scope) tg tg' && ((match wkA k C tg' it' with | some es => cks src false C es | none => false) && (ck key false (C.blk scope) k' && ck val false (C.blk scope) v')))))
    | _ => false)
  | .dc2 tk own tg k src cond tg1 k1 src1 key val, t, C, e => (match e with
    | .DictComp k' v' [⟨tg', it', ifs', 0⟩, ⟨tg1', it1', [], 0⟩] scope _ => !tk && (blkC C.N C.sc scope (ownS own) && (subB (tgS tg) own && (subB (tgS tg1) own && ((tgS tg1).all (fun i => !(tgS tg).contains i) && (ckg (C.blk scope) tg tg' && (ckg (C.blk scope) tg1 tg1' &&
        ((match wkA k C tg' it' with | some es => cks src false C es | none => false) && (notSet it1' && ((match wkA k1 (C.blk scope) tg1' it1' with | some es => cks src1 false (C.blk scope) es | none => false) &&
        ((match isNil cond with | true => ifs'.isEmpty | false => match ifs' with | [c] => ck cond true (C.blk scope) c | _ => false) && (ck key false (C.blk scope) k' && ck val false (C.blk scope) v')))))))))))
    | _ => false)
  | .emp _, t, _, e => (match e with
    | .Dict [] [] _ => true
    | _ => false)
  | .one tk a b, t, C, e => (match e with
    | .Dict [some a'] [b'] _ => !tk && (ck a false C a' && ck b false C b')
    | _ => false)
  | _, _, _, _ => false
/-- items -/
def cks : List Ex → Bool → Ck → List Expr → Bool
  | [], _, _, es => (match es with | [] => true | _ => false)
  | x :: xs, t, C, es => (match es with
    | e :: es => notStar e && (ck x t C e && cks xs t C es)
    | [] => false)
end
/-! ### what the check gives -/
/-- the block's context is as the check has it -/
structure Cok (Φ : Fns) (C : Ck) (X : Cx) (W : WX) : Prop where
  N : X.N = C.N
  nd : X.N.Nodup
  sc : X.env.scope = C.sc
  fn : ∀ x, C.own.names.lookup x = some .cell → X.fn x = true
  calm : X.calm = true
  units : X.A.units + 128 < cLine
  tk : Takes X W
  fns : ∀ f, C.fns.contains f = true → CallOk Φ X f
  csts : ∀ g d, C.csts.lookup g = some d → ∃ u v, X.mg (Str.ofString g) = some u ∧ RelV v u ∧ ∀ Z, Rep X.K Z v d
  blt : ∀ b ∈ ["len", "list", "tuple", "all", "any", "sum", "min", "max", "sorted", "dict", "set", "isinstance", "int", "bool", "str", "range", "enumerate", "zip"], X.mg (Str.ofString b) = none
section
variable {Φ : Fns} {C : Ck} {X : Cx} {W : WX}
theorem Cok.vis (o : Cok Φ C X W) {n : Str} (h : visB C.sc n = true) : Vis X.env.scope n := by
  unfold visB at h
  rw [← o.sc] at h
  unfold Vis
  split at h <;> first | (cases h; done) | skip
  · exact .inl (by assumption)
  · exact .inr (.inl (by assumption))
  · exact .inr (.inr (by assumption))
theorem Cok.gl (o : Cok Φ C X W) {n : Str} (h : glB C.sc n = true) : Gl X n := by
  unfold glB at h
  rw [← o.sc] at h
  split at h <;> first | (cases h; done) | skip
  assumption
theorem Cok.loc (o : Cok Φ C X W) {n : Str} (h : locB C n = true) : Loc X.env.scope n ∧ (X.fn n = true ∨ X.env.scope.names.lookup n = some .local) := by
  unfold locB at h
  rw [← o.sc] at h
  split at h
  · exact ⟨.inl (by assumption), .inr (by assumption)⟩
  · split at h
    · exact ⟨.inr (by assumption), .inl (o.fn _ (by assumption))⟩
    · cases h
  · cases h
theorem nmB_is {n : Str} (h : nmB n = true) : (n == ("__debug__" : Str)) = false ∧ (n == ("__classdict__" : Str)) = false := by
  unfold nmB at h
  simp only [Bool.and_eq_true, Bool.not_eq_true'] at h
  exact h
theorem Cok.slot (o : Cok Φ C X W) {i : Nat} {n : Str} (h : decide (C.N[i]? = some n) = true) : X.N[i]? = some n := by
  rw [o.N]
  exact of_decide_eq_true h
theorem Cok.bltN (o : Cok Φ C X W) (b : Bl) (h : bltS b = true) : X.mg (Str.ofString (bltN b)) = none := by
  cases b <;> first | (cases h; done) | exact o.blt _ (by decide)
/-- the block of a comprehension -/
theorem Cok.blk (o : Cok Φ C X W) (scope : Scope) (s : Shared) (H : Hp) (Ca : Addr) (cl : List (Str × Addr)) (fp : List Addr) : Cok Φ (C.blk scope) (X.blk s H scope (compEnvC scope cl Ca X.env) fp) WF :=
  ⟨o.N, o.nd, by show relS scope X.env.scope = _; rw [o.sc], fun x h => by show (scope.names.lookup x == some .cell) = true; rw [h]; rfl, o.calm, o.units, fun u s' ⟨a, B, sI, pins, σ, H, cls, d, e, I, nb, up, sky, na, os, ag, w⟩ => w,
    fun f h => ⟨(o.fns f h).ok⟩, o.csts, o.blt⟩
theorem assign_star {e : Expr} {es : List Expr} {en : PySem.Env} (h : notStar e = true) : assignEach (e :: es) en = (false, assign e en) :: assignEach es en := by
  cases e <;> first | (cases h; done) | rfl
mutual
theorem ckg_ok (o : Cok Φ C X W) : ∀ {t : Tg} {e : Expr}, ckg C t e = true → PG X e (TGt X.K t)
  | .nm i, e, h => by
    cases e <;> first | (cases h; done) | skip
    unfold ckg at h
    simp only [Bool.and_eq_true] at h
    obtain ⟨h1, h2⟩ := o.loc h.2
    exact pgt_nm o.nd (o.slot h.1) h1 h2
  | .tp ts, e, h => by
    cases e <;> first | (cases h; done) | skip
    unfold ckg at h
    obtain ⟨h1, h2, h3⟩ := ckgs_ok o h
    exact pgt_tp (n := 0) o.calm h1 h2 h3
theorem ckgs_ok (o : Cok Φ C X W) : ∀ {ts : List Tg} {es : List Expr}, ckgs C ts es = true → PGs X es (TGts X.K ts) ∧ (assignEach es X.env).length = ts.length ∧ (assignEach es X.env).findIdx? (·.1) = none
  | [], es, h => by
    cases es with
    | nil => exact ⟨pgts_nil, rfl, rfl⟩
    | cons => cases h
  | t :: ts, es, h => by
    cases es with
    | nil => cases h
    | cons e es =>
      unfold ckgs at h
      simp only [Bool.and_eq_true] at h
      obtain ⟨h1, h2, h3⟩ := ckgs_ok o h.2.2
      have e1 := assign_star (es := es) (en := X.env) h.1
      refine ⟨pgts_cons (ckg_ok o h.2.1) h1 (by rw [e1]; rfl), by rw [e1, List.length_cons, List.length_cons, h2], ?_⟩
      rw [e1, List.findIdx?_cons]
      simp only [Bool.false_eq_true, if_false, h3]
      rfl
end
end
end Tdl
/-! TdChk2: what the check of an expression gives. -/
namespace Tdl
open PySem PySem.W L2 PySem.Spec PyProof.Rows
/-- as an expression or as a test -/
def Ckd (Φ : Fns) (X : Cx) (W : WX) (e : Expr) (x : Ex) : Bool → Prop
  | false => PEv Φ X W e x
  | true => PTv Φ X W e x
/-- items -/
structure CkdL (Φ : Fns) (X : Cx) (W : WX) (es : List Expr) (xs : List Ex) (t : Bool) : Prop where
  star : es.all notStar = true
  len : es.length = xs.length
  hd : t = false → ∀ e x, es = [e] → xs = [x] → PEv Φ X W e x
  as : t = false → PAs Φ X W es xs
  al : t = false → PAl Φ X W es xs
  ar : t = false → PAr Φ X W es xs
  bo : t = false → xs ≠ [] → ∀ k pos, PE X (.BoolOp (bopP k) es pos) (TEb Φ X.K X.mg W k xs)
  bt : t = true → xs ≠ [] → ∀ k pos, PW X (.BoolOp (bopP k) es pos) (TTb Φ X.K X.mg W k xs)
section
variable {Φ : Fns}
theorem ckd_of {X : Cx} {W : WX} {e : Expr} {x : Ex} (h : PEv Φ X W e x) (p : plainT e = true) : ∀ t, Ckd Φ X W e x t
  | false => h
  | true => pt_of_pe h p
theorem subB_is {l : List Nat} {own : List (String × Nat)} (h : subB l own = true) : ∀ i ∈ l, i ∈ own.map (·.2) := by
  unfold subB at h
  rw [List.all_eq_true] at h
  intro i hi
  have := h i hi
  simpa using this
theorem own_eq (own : List (String × Nat)) : (ownS own).map (·.2) = own.map (·.2) := by
  rw [List.map_map]
  rfl
theorem wk_of {C : Ck} {X : Cx} {W : WX} (o : Cok Φ C X W) {k : Wk} {tg it : Expr} {es : List Expr} {src : List Ex} (h : wkA k C tg it = some es) (hs : CkdL Φ X W es src false) : PWk Φ X W tg it k src ∧ PWg Φ X W tg it k src ∧ ∀ x en, foldedSetIterable it en x = pure x := by
  cases k with
  | sq =>
    simp only [wkA] at h
    split at h <;> first | (cases h; done) | skip
    rename_i hb
    cases h
    have hl := hs.len
    obtain ⟨x, rfl⟩ : ∃ x, src = [x] := by
      cases src with
      | nil => cases hl
      | cons x r => cases r with
        | nil => exact ⟨x, rfl⟩
        | cons => simp at hl
    have he := hs.hd rfl it x rfl rfl
    exact ⟨wk_sq he, wg_sq he, fun x en => notSet_is hb x⟩
  | ks =>
    simp only [wkA] at h
    split at h <;> first | (cases h; done) | skip
    rename_i hb
    cases h
    have hl := hs.len
    obtain ⟨x, rfl⟩ : ∃ x, src = [x] := by
      cases src with
      | nil => cases hl
      | cons x r => cases r with
        | nil => exact ⟨x, rfl⟩
        | cons => simp at hl
    have he := hs.hd rfl it x rfl rfl
    exact ⟨wk_ks he, wg_ks he, fun x en => notSet_is hb x⟩
  | r1 =>
    simp only [wkA] at h
    split at h <;> first | (cases h; done) | skip
    split at h <;> first | (cases h; done) | skip
    rename_i n p a pos hb
    cases h
    simp only [Bool.and_eq_true, decide_eq_true_eq] at hb
    obtain ⟨rfl, hg, hn⟩ := hb
    exact ⟨wk_r1 (o.gl hg) (o.blt "range" (by decide)) (hs.al rfl) hn, wg_r1 (o.gl hg) (o.blt "range" (by decide)) (hs.as rfl) hn, fun x en => rfl⟩
  | r2 =>
    simp only [wkA] at h
    split at h <;> first | (cases h; done) | skip
    split at h <;> first | (cases h; done) | skip
    rename_i n p a b pos hb
    cases h
    simp only [Bool.and_eq_true, decide_eq_true_eq] at hb
    obtain ⟨rfl, hg, hn, hn2⟩ := hb
    exact ⟨wk_r2 (o.gl hg) (o.blt "range" (by decide)) (hs.al rfl) hn hn2, wg_r2 (o.gl hg) (o.blt "range" (by decide)) (hs.as rfl) hn hn2, fun x en => rfl⟩
  | en =>
    simp only [wkA] at h
    split at h <;> first | (cases h; done) | skip
    split at h <;> first | (cases h; done) | skip
    split at h <;> first | (cases h; done) | skip
    rename_i n p a pos hb
    cases h
    simp only [Bool.and_eq_true, decide_eq_true_eq] at hb
    obtain ⟨rfl, hg, hn⟩ := hb
    exact ⟨wk_en (o.gl hg) (o.blt "enumerate" (by decide)) (hs.al rfl) hn, wg_en (o.gl hg) (o.blt "enumerate" (by decide)) (hs.as rfl) hn, fun x en => rfl⟩
  | zp =>
    simp only [wkA] at h
    split at h <;> first | (cases h; done) | skip
    split at h <;> first | (cases h; done) | skip
    split at h <;> first | (cases h; done) | skip
    rename_i n p a b pos hb
    cases h
    simp only [Bool.and_eq_true, decide_eq_true_eq] at hb
    obtain ⟨rfl, hg, hn, hn2⟩ := hb
    exact ⟨wk_zp (o.gl hg) (o.blt "zip" (by decide)) (hs.al rfl) hn hn2, wg_zp (o.gl hg) (o.blt "zip" (by decide)) (hs.as rfl) hn hn2, fun x en => rfl⟩
  | _ => cases h
theorem not_nil {x : Ex} (h : isNil x = false) : x ≠ .nil := fun e => by rw [e] at h; cases h
theorem is_nil {x : Ex} (h : isNil x = true) : x = .nil := by cases x <;> first | rfl | cases h
mutual
theorem ck_ok : ∀ (x : Ex) {t : Bool} {C : Ck} {X : Cx} {W : WX} {e : Expr}, Cok Φ C X W → ck x t C e = true → Ckd Φ X W e x t
  | .nil, t, C, X, W, e, o, h => by unfold ck at h; cases h
  | .var i, t, C, X, W, e, o, h => by
    unfold ck at h
    split at h <;> first | (cases h; done) | skip
    simp only [Bool.and_eq_true] at h
    obtain ⟨h1, h2, h3⟩ := h
    obtain ⟨n1, n2⟩ := nmB_is h3
    exact ckd_of (pv_var (o.slot h1) (o.vis h2) n1 n2) rfl t
  | .cst d, t, C, X, W, e, o, h => by
    unfold ck at h
    split at h <;> first | (cases h; done) | skip
    exact ckd_of (pv_cst h) rfl t
  | .glb g d, t, C, X, W, e, o, h => by
    unfold ck at h
    split at h <;> first | (cases h; done) | skip
    simp only [Bool.and_eq_true, decide_eq_true_eq] at h
    obtain ⟨rfl, h2, h3, h4⟩ := h
    obtain ⟨n1, n2⟩ := nmB_is h4
    unfold cstK at h3
    split at h3 <;> first | (cases h3; done) | skip
    rename_i d' hd
    cases cdB_is h3
    obtain ⟨u, v, q1, q2, q3⟩ := o.csts _ _ hd
    exact ckd_of (pv_glb (o.gl h2) q1 q2 q3 n1) rfl t
  | .tup es, t, C, X, W, e, o, h => by
    unfold ck at h
    split at h <;> first | (cases h; done) | skip
    simp only [Bool.and_eq_true, decide_eq_true_eq] at h
    exact ckd_of (pv_tup ((cks_ok es o h.1).as rfl) h.2) rfl t
  | .lst es, t, C, X, W, e, o, h => by
    unfold ck at h
    split at h <;> first | (cases h; done) | skip
    simp only [Bool.and_eq_true, decide_eq_true_eq] at h
    exact ckd_of (pv_lst ((cks_ok es o h.1).as rfl) h.2) rfl t
  | .bin b x y, t, C, X, W, e, o, h => by
    unfold ck at h
    split at h <;> first | (cases h; done) | skip
    simp only [Bool.and_eq_true, opB, decide_eq_true_eq] at h
    obtain ⟨rfl, h1, h2⟩ := h
    exact ckd_of (pv_bin (show PEv Φ X W _ x from ck_ok x o h1) (show PEv Φ X W _ y from ck_ok y o h2)) rfl t
  | .neg x, t, C, X, W, e, o, h => by
    unfold ck at h
    split at h <;> first | (cases h; done) | skip
    exact ckd_of (pv_neg (show PEv Φ X W _ x from ck_ok x o h)) rfl t
  | .cmp c x y, t, C, X, W, e, o, h => by
    unfold ck at h
    split at h <;> first | (cases h; done) | skip
    simp only [Bool.and_eq_true, coB, decide_eq_true_eq, Bool.not_eq_true'] at h
    obtain ⟨rfl, h1, h2, h3⟩ := h
    have hu : X.A.units + 64 < cLine := by have := o.units; omega
    have p1 : PEv Φ X W _ x := ck_ok x o h2
    have p2 : PEv Φ X W _ y := ck_ok y o h3
    cases t with
    | false => exact pv_cmp hu p1 p2 h1
    | true => exact pt_cmp' hu p1 p2 h1
  | .chn c d x y z, t, C, X, W, e, o, h => by
    unfold ck at h
    split at h <;> first | (cases h; done) | skip
    simp only [Bool.and_eq_true, coB, decide_eq_true_eq, Bool.not_eq_true'] at h
    obtain ⟨rfl, rfl, h1, h2, h3, h4⟩ := h
    have hu : X.A.units + 64 < cLine := by have := o.units; omega
    have p1 : PEv Φ X W _ x := ck_ok x o h2
    have p2 : PEv Φ X W _ y := ck_ok y o h3
    have p3 : PEv Φ X W _ z := ck_ok z o h4
    cases t with
    | false => exact pv_chn hu p1 p2 p3 h1
    | true => exact pt_chn hu p1 p2 p3 h1
  | .bop k es, t, C, X, W, e, o, h => by
    unfold ck at h
    split at h <;> first | (cases h; done) | skip
    rename_i op es' pos
    simp only [Bool.and_eq_true, decide_eq_true_eq, Bool.not_eq_true'] at h
    obtain ⟨rfl, h1, h2⟩ := h
    have hn : es ≠ [] := fun z => by rw [z] at h2; cases h2
    have L := cks_ok es o h1
    cases t with
    | false => exact PE.imp (L.bo rfl hn k pos) fun σ H Q ⟨Z, env, sl, i, hf⟩ => ⟨Z, env, sl, i, by unfold ev at hf; exact hf⟩
    | true => exact PT.imp (L.bt rfl hn k pos).pt fun σ H Q ⟨Z, env, sl, i, hf⟩ => ⟨Z, env, sl, i, by unfold ev at hf; exact hf⟩
  | .nt x, t, C, X, W, e, o, h => by
    unfold ck at h
    split at h <;> first | (cases h; done) | skip
    cases t with
    | false => exact pv_nt (show PEv Φ X W _ x from ck_ok x o h)
    | true => exact pt_nt (show PTv Φ X W _ x from ck_ok x o h)
  | .ite c x y, t, C, X, W, e, o, h => by
    unfold ck at h
    split at h <;> first | (cases h; done) | skip
    simp only [Bool.and_eq_true, Bool.not_eq_true'] at h
    obtain ⟨rfl, h1, h2, h3⟩ := h
    exact pv_ite (show PTv Φ X W _ c from ck_ok c o h1) (show PEv Φ X W _ x from ck_ok x o h2) (show PEv Φ X W _ y from ck_ok y o h3)
  | .idx x y, t, C, X, W, e, o, h => by
    unfold ck at h
    split at h <;> first | (cases h; done) | skip
    simp only [Bool.and_eq_true] at h
    obtain ⟨h1, h2, h3⟩ := h
    exact ckd_of (pv_idx (by have := o.units; omega) (show PEv Φ X W _ x from ck_ok x o h2) (show PEv Φ X W _ y from ck_ok y o h3) h1) rfl t
  | .slc x lo hi, t, C, X, W, e, o, h => by
    unfold ck at h
    split at h <;> first | (cases h; done) | skip
    simp only [Bool.and_eq_true] at h
    obtain ⟨h1, h2, h3⟩ := h
    have pl : ∀ y (oe : Option Expr), (match isNil y with | true => oe.isNone | false => match oe with | some f => ck y false C f | none => false) = true → (∀ f, ck y false C f = true → PEv Φ X W f y) → PO X oe (TPo Φ X.K X.mg W y) := fun y oe hh ih => by
      cases hn : isNil y with
      | true =>
        rw [hn] at hh
        cases oe with
        | none => rw [is_nil hn]; exact po_nil
        | some f => cases hh
      | false =>
        rw [hn] at hh
        cases oe with
        | none => cases hh
        | some f => exact po_ev (ih f hh) (not_nil hn)
    exact ckd_of (pv_slc (show PEv Φ X W _ x from ck_ok x o h1) (pl lo _ h2 fun f hf => ck_ok lo o hf) (pl hi _ h3 fun f hf => ck_ok hi o hf)) rfl t
  | .rev x, t, C, X, W, e, o, h => by
    unfold ck at h
    split at h <;> first | (cases h; done) | skip
    simp only [Bool.and_eq_true, decide_eq_true_eq] at h
    obtain ⟨rfl, h1⟩ := h
    exact ckd_of (pv_rev (show PEv Φ X W _ x from ck_ok x o h1)) rfl t
  | .call f es, t, C, X, W, e, o, h => by
    unfold ck at h
    split at h <;> first | (cases h; done) | skip
    simp only [Bool.and_eq_true, decide_eq_true_eq] at h
    obtain ⟨rfl, h1, h2, h3⟩ := h
    have L := cks_ok es o h3
    exact ckd_of (pv_call (o.fns f h1) o.tk (o.gl h2) (L.ar rfl) L.star) rfl t
  | .mth m x es, t, C, X, W, e, o, h => by
    unfold ck at h
    split at h <;> first | (cases h; done) | skip
    simp only [Bool.and_eq_true, decide_eq_true_eq] at h
    obtain ⟨rfl, h1, h2, h3, h4, h5⟩ := h
    have L := cks_ok es o h5
    exact ckd_of (pv_mth o.units (show PEv Φ X W _ x from ck_ok x o h4) (L.as rfl) L.star h3 h1 h2) rfl t
  | .isi x ty, t, C, X, W, e, o, h => by
    unfold ck at h
    split at h <;> first | (cases h; done) | skip
    simp only [Bool.and_eq_true, decide_eq_true_eq] at h
    obtain ⟨rfl, rfl, h1, h2, h3, h4, h5⟩ := h
    exact ckd_of (pv_isi h1 (o.gl h2) (o.blt "isinstance" (by decide)) (o.gl h3) (o.blt (tyN ty) (by cases ty <;> first | exact absurd rfl h1 | decide)) (show PEv Φ X W _ x from ck_ok x o h5) h4) rfl t
  | .blt b es, t, C, X, W, e, o, h => by
    unfold ck at h
    split at h
    · split at h <;> first | (cases h; done) | skip
      simp only [Bool.and_eq_true, decide_eq_true_eq] at h
      obtain ⟨rfl, rfl, h1, h2, h3⟩ := h
      have L := cks_ok es o h3
      have hl := L.len
      obtain ⟨x, rfl⟩ : ∃ x, es = [x] := by
        cases es with
        | nil => cases hl
        | cons x r => cases r with
          | nil => exact ⟨x, rfl⟩
          | cons => simp at hl
      exact ckd_of (pv_sset o.calm o.units (o.gl h1) (o.blt "sorted" (by decide)) (o.gl h2) (o.blt "set" (by decide)) (L.hd rfl _ _ rfl rfl) (by have := L.star; simpa using this)) rfl t
    · split at h <;> first | (cases h; done) | skip
      simp only [Bool.and_eq_true, decide_eq_true_eq] at h
      obtain ⟨rfl, rfl, h1, h2, h3⟩ := h
      have L := cks_ok es o h3
      have hl := L.len
      obtain ⟨x, rfl⟩ : ∃ x, es = [x] := by
        cases es with
        | nil => cases hl
        | cons x r => cases r with
          | nil => exact ⟨x, rfl⟩
          | cons => simp at hl
      exact ckd_of (pv_lset o.calm o.units (o.gl h1) (o.blt "len" (by decide)) (o.gl h2) (o.blt "set" (by decide)) (L.hd rfl _ _ rfl rfl) (by have := L.star; simpa using this)) rfl t
    · split at h <;> first | (cases h; done) | skip
      simp only [Bool.and_eq_true, decide_eq_true_eq] at h
      obtain ⟨rfl, rfl, h1, h2, h4, h3⟩ := h
      have L := cks_ok es o h3
      have hl := L.len
      obtain ⟨x, rfl⟩ : ∃ x, es = [x] := by
        cases es with
        | nil => cases hl
        | cons x r => cases r with
          | nil => exact ⟨x, rfl⟩
          | cons => simp at hl
      exact ckd_of (pv_lvals o.calm (L.hd rfl _ _ rfl rfl) (o.gl h1) (o.blt "list" (by decide)) (base_is h2 _) h4) rfl t
    · split at h <;> first | (cases h; done) | skip
      simp only [Bool.and_eq_true, decide_eq_true_eq] at h
      obtain ⟨rfl, h1, h2, h3⟩ := h
      have L := cks_ok es o h3
      exact ckd_of (pv_blt o.calm o.units h1 (o.gl h2) (o.bltN b h1) (L.al rfl) L.star) rfl t
  | .emp b, t, C, X, W, e, o, h => by
    unfold ck at h
    split at h <;> first | (cases h; done) | skip
    exact ckd_of pv_emp rfl t
  | .one tk x y, t, C, X, W, e, o, h => by
    unfold ck at h
    split at h <;> first | (cases h; done) | skip
    simp only [Bool.and_eq_true, Bool.not_eq_true'] at h
    obtain ⟨rfl, h1, h2⟩ := h
    exact ckd_of (pv_one (show PEv Φ X W _ x from ck_ok x o h1) (show PEv Φ X W _ y from ck_ok y o h2)) rfl t
  | .lc own tg k src cond elt, t, C, X, W, e, o, h => by
    unfold ck at h
    split at h <;> first | (cases h; done) | skip
    rename_i elt' tg' it' ifs' scope pos
    simp only [Bool.and_eq_true] at h
    obtain ⟨h1, h2, h3, h4, h5, h6⟩ := h
    split at h4 <;> first | (cases h4; done) | skip
    rename_i es hw
    obtain ⟨w1, _, w3⟩ := wk_of o hw (cks_ok src o h4)
    refine ckd_of (pv_lc (ownS := ownS own) o.calm o.nd w1 (by rw [o.N, o.sc]; exact blkOk_by h1) (own_eq own) (subB_is h2) (fun s H Ca cl fp => ckg_ok (o.blk scope s H Ca cl fp) h3) (fun s H Ca cl fp => ?_) (fun s H Ca cl fp => ck_ok elt (o.blk scope s H Ca cl fp) h6) (fun x => w3 x _)) rfl t
    cases hn : isNil cond with
    | true =>
      rw [hn] at h5
      cases ifs' with
      | nil => rw [is_nil hn]; exact ptc_nil
      | cons => cases h5
    | false =>
      rw [hn] at h5
      cases ifs' with
      | nil => cases h5
      | cons c r => cases r with
        | nil => exact ptc_one (show PTv Φ _ WF c cond from ck_ok cond (o.blk scope s H Ca cl fp) h5) (not_nil hn)
        | cons => cases h5
  | .lcd own tg its i cond elt, t, C, X, W, e, o, h => by
    unfold ck at h
    split at h <;> first | (cases h; done) | skip
    rename_i elt' tg' n np ifs' scope pos
    simp only [Bool.and_eq_true, Bool.not_eq_true'] at h
    obtain ⟨rfl, g1, g2, g3, h1, h2, h3, h5, h6⟩ := h
    obtain ⟨n1, n2⟩ := nmB_is g3
    refine ckd_of (pv_lcd (ownS := ownS own) o.calm o.nd (o.slot g1) (o.vis g2) n1 n2 (by rw [o.N, o.sc]; exact blkOk_by h1) (own_eq own) (subB_is h2) (fun s H Ca cl fp => ckg_ok (o.blk scope s H Ca cl fp) h3) (fun s H Ca cl fp => ?_) (fun s H Ca cl fp => ck_ok elt (o.blk scope s H Ca cl fp) h6)) rfl t
    cases hn : isNil cond with
    | true =>
      rw [hn] at h5
      cases ifs' with
      | nil => rw [is_nil hn]; exact ptc_nil
      | cons => cases h5
    | false =>
      rw [hn] at h5
      cases ifs' with
      | nil => cases h5
      | cons c r => cases r with
        | nil => exact ptc_one (show PTv Φ _ WF c cond from ck_ok cond (o.blk scope s H Ca cl fp) h5) (not_nil hn)
        | cons => cases h5
  | .lc2 own tg k src tg1 k1 src1 elt, t, C, X, W, e, o, h => by
    unfold ck at h
    split at h <;> first | (cases h; done) | skip
    rename_i elt' tg' it' tg1' it1' scope pos
    simp only [Bool.and_eq_true] at h
    obtain ⟨h1, h2, h3, h4, h5, h6, h7, h8, h9, h10⟩ := h
    split at h7 <;> first | (cases h7; done) | skip
    rename_i es hw
    split at h9 <;> first | (cases h9; done) | skip
    rename_i es1 hw1
    obtain ⟨w1, _, w3⟩ := wk_of o hw (cks_ok src o h7)
    have hd : ∀ i ∈ tgS tg1, i ∈ own.map (·.2) ∧ i ∉ tgS tg := fun i hi => ⟨subB_is h3 i hi, fun z => by
      rw [List.all_eq_true] at h4
      have := h4 i hi
      simp [z] at this⟩
    exact ckd_of (pv_lc2 (ownS := ownS own) o.calm o.nd w1 (by rw [o.N, o.sc]; exact blkOk_by h1) (own_eq own) (subB_is h2) hd (fun s H Ca cl fp => ckg_ok (o.blk scope s H Ca cl fp) h5) (fun s H Ca cl fp => (wk_of (o.blk scope s H Ca cl fp) hw1 (cks_ok src1 (o.blk scope s H Ca cl fp) h9)).2.1) (fun s H Ca cl fp => ckg_ok (o.blk scope s H Ca cl fp) h6) (fun s H Ca cl fp => ck_ok elt (o.blk scope s H Ca cl fp) h10) (fun x => w3 x _) (fun en x => notSet_is h8 x)) rfl t
  | .dc tk own tg k src key val, t, C, X, W, e, o, h => by
    unfold ck at h
    split at h <;> first | (cases h; done) | skip
    rename_i k' v' tg' it' scope pos
    simp only [Bool.and_eq_true, Bool.not_eq_true'] at h
    obtain ⟨rfl, h1, h2, h3, h4, h5, h6⟩ := h
    split at h4 <;> first | (cases h4; done) | skip
    rename_i es hw
    obtain ⟨w1, _, w3⟩ := wk_of o hw (cks_ok src o h4)
    exact ckd_of (pv_dc (ownS := ownS own) o.calm o.nd w1 (by rw [o.N, o.sc]; exact blkOk_by h1) (own_eq own) (subB_is h2) (fun s H Ca cl fp => ckg_ok (o.blk scope s H Ca cl fp) h3) (fun s H Ca cl fp => ck_ok key (o.blk scope s H Ca cl fp) h5) (fun s H Ca cl fp => ck_ok val (o.blk scope s H Ca cl fp) h6) (fun x => w3 x _)) rfl t
  | .dc2 tk own tg k src cond tg1 k1 src1 key val, t, C, X, W, e, o, h => by
    unfold ck at h
    split at h <;> first | (cases h; done) | skip
    rename_i k' v' tg' it' ifs' tg1' it1' scope pos
    simp only [Bool.and_eq_true, Bool.not_eq_true'] at h
    obtain ⟨rfl, h1, h2, h3, h4, h5, h6, h7, h8, h9, h10, h11, h12⟩ := h
    split at h7 <;> first | (cases h7; done) | skip
    rename_i es hw
    split at h9 <;> first | (cases h9; done) | skip
    rename_i es1 hw1
    obtain ⟨w1, _, w3⟩ := wk_of o hw (cks_ok src o h7)
    have hd : ∀ i ∈ tgS tg1, i ∈ own.map (·.2) ∧ i ∉ tgS tg := fun i hi => ⟨subB_is h3 i hi, fun z => by
      rw [List.all_eq_true] at h4
      have := h4 i hi
      simp [z] at this⟩
    refine ckd_of (pv_dc2 (ownS := ownS own) o.calm o.nd w1 (by rw [o.N, o.sc]; exact blkOk_by h1) (own_eq own) (subB_is h2) hd (fun s H Ca cl fp => ckg_ok (o.blk scope s H Ca cl fp) h5) (fun s H Ca cl fp => ?_) (fun s H Ca cl fp => (wk_of (o.blk scope s H Ca cl fp) hw1 (cks_ok src1 (o.blk scope s H Ca cl fp) h9)).2.1) (fun s H Ca cl fp => ckg_ok (o.blk scope s H Ca cl fp) h6) (fun s H Ca cl fp => ck_ok key (o.blk scope s H Ca cl fp) h11) (fun s H Ca cl fp => ck_ok val (o.blk scope s H Ca cl fp) h12) (fun x => w3 x _) (fun en x => notSet_is h8 x)) rfl t
    cases hn : isNil cond with
    | true =>
      rw [hn] at h10
      cases ifs' with
      | nil => rw [is_nil hn]; exact ptc_nil
      | cons => cases h10
    | false =>
      rw [hn] at h10
      cases ifs' with
      | nil => cases h10
      | cons c r => cases r with
        | nil => exact ptc_one (show PTv Φ _ WF c cond from ck_ok cond (o.blk scope s H Ca cl fp) h10) (not_nil hn)
        | cons => cases h10
  | .srt _ _ _ _, t, C, X, W, e, o, h => by unfold ck at h; cases h
  | .isx _ _, t, C, X, W, e, o, h => by unfold ck at h; cases h
  | .calli _ _ _, t, C, X, W, e, o, h => by unfold ck at h; cases h
theorem cks_ok : ∀ (xs : List Ex) {t : Bool} {C : Ck} {X : Cx} {W : WX} {es : List Expr}, Cok Φ C X W → cks xs t C es = true → CkdL Φ X W es xs t
  | [], t, C, X, W, es, o, h => by
    unfold cks at h
    split at h <;> first | (cases h; done) | skip
    exact ⟨rfl, rfl, fun _ e x h1 => (nomatch h1), fun _ => as_nil, fun _ => al_nil, fun _ => ar_nil, fun _ h => absurd rfl h, fun _ h => absurd rfl h⟩
  | x :: xs, t, C, X, W, es, o, h => by
    unfold cks at h
    split at h <;> first | (cases h; done) | skip
    rename_i e es
    simp only [Bool.and_eq_true] at h
    obtain ⟨h1, h2, h3⟩ := h
    have p := ck_ok x o h2
    have L := cks_ok xs o h3
    refine ⟨by rw [List.all_cons, h1, L.star]; rfl, by rw [List.length_cons, List.length_cons, L.len], fun ht e' x' q1 q2 => ?_, fun ht => ?_, fun ht => ?_, fun ht => ?_, fun ht _ k pos => ?_, fun ht _ k pos => ?_⟩
    · subst ht
      cases q1
      cases q2
      exact p
    · subst ht
      exact as_cons p (L.as rfl) h1
    · subst ht
      exact al_cons p (L.al rfl) h1
    · subst ht
      exact ar_cons p (L.ar rfl) h1
    · subst ht
      cases xs with
      | nil =>
        cases es with
        | nil => exact pb_one p
        | cons => have := L.len; cases this
      | cons y ys =>
        cases es with
        | nil => have := L.len; cases this
        | cons e2 es2 => exact pb_cons p (L.bo rfl (by simp) k pos)
    · subst ht
      cases xs with
      | nil =>
        cases es with
        | nil => exact ptb_one p
        | cons => have := L.len; cases this
      | cons y ys =>
        cases es with
        | nil => have := L.len; cases this
        | cons e2 es2 => exact ptb_cons p (L.bt rfl (by simp) k pos)
end
end
end Tdl
/-! TdChk3: the check of statements. -/
namespace Tdl
open PySem PySem.W L2 PySem.Spec PyProof.Rows
/-- an exception class of the text -/
structure ClsOk (X : Cx) (c : String) : Prop where
  ok : ∃ (Ca : Addr) (bmB : List Value) (B newId initId : String), ExcBaseFacts B newId initId bmB ∧ PySem.W.excIn X.K Ca bmB newId = true ∧ X.mg (Str.ofString c) = some (.ref Ca) ∧ PySem.W.keepIn X.K (.ref Ca) = true ∧ Raises X (.ref Ca) ∧ (Str.ofString c == ("__debug__" : Str)) = false
/-- a def's body -/
structure Sok (Φ : Fns) (C : Ck) (X : Cx) (E : XK) : Prop where
  e : Cok Φ C X (We E)
  pass : PassesOwn (model X.prog X.w) X.A X.env X.xe
  cls : ∀ c, C.cls.contains c = true → ClsOk X c
  kind : X.env.blockKind = .function
def notComp : Expr → Bool
  | .ListComp _ _ _ _ => false
  | .SetComp _ _ _ _ => false
  | .DictComp _ _ _ _ _ => false
  | _ => true
theorem swaps_no {e : Expr} {t : Option Expr} {l : Nat} {en : PySem.Env} (h : notComp e = true) : swapsWith e t l en = pure false := by
  cases e <;> first | (cases h; done) | rfl
theorem swaps_sub {e o i : Expr} {p : Pos} {l : Nat} {en : PySem.Env} : swapsWithSole [.Subscript o i p] e l en = pure false := by
  show swapsWith e (some (.Subscript o i p)) l en = pure false
  cases e <;> rfl
theorem swaps_tup {e : Expr} {es : List Expr} {k : Nat} {p : Pos} {l : Nat} {en : PySem.Env} : swapsWithSole [.Tuple es k p] e l en = pure false := by
  show swapsWith e (some (.Tuple es k p)) l en = pure false
  cases e <;> rfl
/-- a list comprehension on the line of the name that gets it -/
def swB (sc : Scope) (n : Str) (p : Pos) : Expr → Bool
  | .ListComp _ _ s q => (match sc.names.lookup n with | some .local => true | _ => false) && ((p.line == q.line) && !(s.names.any fun (m, k) => m == n && (k == .local || k == .cell)))
  | .DictComp _ _ _ s q => (match sc.names.lookup n with | some .local => true | _ => false) && ((p.line == q.line) && !(s.names.any fun (m, k) => m == n && (k == .local || k == .cell)))
  | _ => false
theorem swaps_lc {elt : Expr} {gens : List Comprehension} {s : Scope} {q : Pos} {n : Str} {p : Pos} {l : Nat} {en : PySem.Env} (hk : en.blockKind = .function) : swapsWith (.ListComp elt gens s q) (some (.Name n p)) l en = pure (swB en.scope n p (.ListComp elt gens s q)) := by
  show (pure (en.blockKind == .function && en.kindOf n == some .local && p.line == q.line && !(s.names.any fun (m, k) => m == n && (k == .local || k == .cell))) : Sem Bool) = _
  rw [hk]
  unfold swB Env.kindOf
  congr 1
  cases en.scope.names.lookup n with
  | none => rfl
  | some k => cases k <;> simp
theorem swaps_dc {kx vx : Expr} {gens : List Comprehension} {s : Scope} {q : Pos} {n : Str} {p : Pos} {l : Nat} {en : PySem.Env} (hk : en.blockKind = .function) : swapsWith (.DictComp kx vx gens s q) (some (.Name n p)) l en = pure (swB en.scope n p (.DictComp kx vx gens s q)) := by
  show (pure (en.blockKind == .function && en.kindOf n == some .local && p.line == q.line && !(s.names.any fun (m, k) => m == n && (k == .local || k == .cell))) : Sem Bool) = _
  rw [hk]
  unfold swB Env.kindOf
  congr 1
  cases en.scope.names.lookup n with
  | none => rfl
  | some k => cases k <;> simp
def isTup : Expr → Bool
  | .Tuple _ _ _ => true
  | _ => false
/-- a tuple of constants -/
def foldT : Expr → Bool
  | .Tuple vs _ _ => vs.all (foldedForSure 8)
  | _ => true
theorem stores_none {es : List Expr} {k : Nat} {p : Pos} {e : Expr} {en : PySem.Env} (h : foldT e = true) : swappedStores [.Tuple es k p] e en = pure none := by
  cases e <;> first | rfl | skip
  rename_i vs k2 p2
  unfold foldT at h
  unfold swappedStores
  simp only [h, if_true]
  split
  · rfl
  · split
    · rfl
    · split <;> rfl
theorem stores_cell {x y : Str} {px py pt p2 : Pos} {kt k2 : Nat} {a b : Expr} {en : PySem.Env} (h : ¬ (en.scope.names.lookup x = some .local) ∨ ¬ (en.scope.names.lookup y = some .local)) : swappedStores [.Tuple [.Name x px, .Name y py] kt pt] (.Tuple [a, b] k2 p2) en = pure none := by
  have k1 : ∀ z, ¬ (en.scope.names.lookup z = some .local) → (en.kindOf z == some .local) = false := fun z hz => by
    show (en.scope.names.lookup z == some .local) = false
    cases q : (en.scope.names.lookup z == some .local) with
    | false => rfl
    | true => exact absurd (by simpa using q) hz
  unfold swappedStores
  simp only [List.filterMap_cons, List.filterMap_nil]
  split
  · rfl
  · split
    · rfl
    · rcases h with h | h
      · simp only [k1 x h, Bool.false_and, Bool.false_eq_true, if_false]
        split <;> rfl
      · simp only [k1 y h, Bool.false_and, Bool.false_eq_true, if_false]
        split <;> rfl
def notStar2 (a b : Expr) : Bool := notStar a && notStar b
theorem stores_two {x y : Str} {px py pt p2 : Pos} {kt k2 : Nat} {a b : Expr} {en : PySem.Env} (hk : en.blockKind = .function) (ha : notStar a = true) (hb : notStar b = true) (hx : en.scope.names.lookup x = some .local) (hy : en.scope.names.lookup y = some .local) (hl : (px.line == py.line) = true) (hxy : x ≠ y)
    (hf : (foldedForSure 8 a && foldedForSure 8 b) = false) (hc : (constantsAlone 8 a && constantsAlone 8 b) = false) : swappedStores [.Tuple [.Name x px, .Name y py] kt pt] (.Tuple [a, b] k2 p2) en = pure (some [x, y]) := by
  have k1 : en.kindOf x = some .local := hx
  have k3 : en.kindOf y = some .local := hy
  have hl' : (py.line == px.line) = true := by rw [beq_iff_eq] at hl ⊢; exact hl.symm
  have hl2 : py.line = px.line := by simpa using hl'
  have hxy' : (y == x) = false := by
    cases q : (y == x) with
    | false => rfl
    | true => exact absurd (by simpa using q) (Ne.symm hxy)
  unfold swappedStores
  simp only [hk]
  simp [k1, k3, hl2, List.eraseDups, List.eraseDupsBy, List.eraseDupsBy.loop, hf, hc, hxy, hxy', Expr.pos]
  intro h
  exfalso
  rcases h with h | h
  · cases a <;> first | (cases ha; done) | cases h
  · cases b <;> first | (cases hb; done) | cases h
def isDoc : Stmt → Bool
  | .Expr (.Constant (.str _) _ _) _ => true
  | _ => false
def dropDoc : List Stmt → List Stmt
  | [] => []
  | s :: r => match isDoc s with
    | true => dropDoc r
    | false => s :: r
def isFrz : Stm → Bool
  | .frz _ => true
  | _ => false
/-- name = value -/
def ckAsg (C : Ck) (i : Nat) (x : Ex) (n : Str) (p : Pos) (e : Expr) : Bool := decide (C.N[i]? = some n) && (locB C n && (ck x false C e && (match x with
  | .lc _ _ _ _ _ _ => true
  | .lc2 _ _ _ _ _ _ _ _ => true
  | .dc2 _ _ _ _ _ _ _ _ _ _ _ => true
  | _ => notComp e)))
mutual
def ckm : Stm → Ck → Stmt → Bool
  | .asg t o x, C, s => (match s with
    | .Assign [tg] e _ => (match t with
      | .nm i => (match tg with
        | .Name n p => ckAsg C i x n p e
        | _ => false)
      | .tp ts => isTup tg && (foldT e && (ckg C (.tp ts) tg && ck x false C e)))
    | _ => false)
  | .par is os xs, C, s => (match s with
    | .Assign [.Tuple [.Name n p, .Name m q] _ _] (.Tuple [a, b] _ _) _ => (match is with
      | [i, j] => (match xs with
        | [x, y] => (match os with
          | [_, _] => decide (C.N[i]? = some n) && (decide (C.N[j]? = some m) && (decide (i ≠ j) && (notStar a && (notStar b && (ck x false C a && (ck y false C b && (
            (decide (C.sc.names.lookup n = some .local) && (decide (C.sc.names.lookup m = some .local) && ((p.line == q.line) && (!(foldedForSure 8 a && foldedForSure 8 b) && !(constantsAlone 8 a && constantsAlone 8 b))))) ||
            ((!(decide (C.sc.names.lookup n = some .local)) || !(decide (C.sc.names.lookup m = some .local))) && (locB C n && locB C m)))))))))
          | _ => false)
        | _ => false)
      | _ => false)
    | _ => false)
  | .put i k x, C, s => (match s with
    | .Assign [.Subscript (.Name n _) k' _] v' _ => decide (C.N[i]? = some n) && (visB C.sc n && (nmB n && (plainIxB k' && (ck k false C k' && ck x false C v'))))
    | _ => false)
  | .mut m i xs, C, s => (match m with
    | .clr => (match s with
      | .Expr (.Call (.Attribute (.Name n _) f apos) [] [] cpos) _ => (match xs with | [] => true | _ => false) && (decide (f = "clear") && (decide (C.N[i]? = some n) && (visB C.sc n && (nmB n && (apos.endLine == cpos.line)))))
      | _ => false)
    | .ext => (match s with
      | .Expr (.Call (.Attribute (.Name n _) f apos) [e] [] cpos) _ => (match xs with | [x] => notStar e && ck x false C e | _ => false) && (decide (f = "extend") && (decide (C.N[i]? = some n) && (visB C.sc n && (nmB n && (apos.endLine == cpos.line)))))
      | _ => false)
    | .upd => (match s with
      | .Expr (.Call (.Attribute (.Name n _) f apos) [e] [] cpos) _ => (match xs with | [x] => notStar e && ck x false C e | _ => false) && (decide (f = "update") && (decide (C.N[i]? = some n) && (visB C.sc n && (nmB n && (apos.endLine == cpos.line)))))
      | _ => false)
    | m => (match s with
      | .Expr (.Call (.Attribute (.Name n _) f apos) (e :: es) [] cpos) _ => muS m && (decide (f = Str.ofString (muN m)) && (decide (C.N[i]? = some n) && (visB C.sc n && (nmB n && ((apos.endLine == cpos.line) && (decide ((e :: es).length < 29) && cks xs false C (e :: es)))))))
      | _ => false))
  | .putp i k j x y, C, s => (match s with
    | .Assign [.Tuple [.Subscript (.Name n _) k' _, .Name m _] _ _] (.Tuple [v', w'] _ _) _ => decide (C.N[i]? = some n) && (visB C.sc n && (nmB n && (decide (C.N[j]? = some m) && (locB C m && (decide (i ≠ j) && (plainIxB k' && (ck k false C k' && cks [x, y] false C [v', w'])))))))
    | _ => false)
  | .ret x, C, s => (match s with
    | .Return (some e) _ => ck x false C e
    | .Return none _ => (match x with | .cst .none => true | _ => false)
    | _ => false)
  | .retv i, C, s => (match s with
    | .Return (some (.Name n _)) _ => decide (C.N[i]? = some n) && (visB C.sc n && nmB n)
    | _ => false)
  | .iff c a b, C, s => (match s with
    | .If c' a' b' _ => ck c true C c' && (ckms a C a' && ckms b C b')
    | _ => false)
  | .for_ t k src b, C, s => (match s with
    | .For tg it body [] _ => (match wkA k C tg it with | some es => cks src false C es | none => false) && (ckg C t tg && ckms b C body)
    | _ => false)
  | .whl c b, C, s => (match s with
    | .While c' body [] _ => ck c true C c' && ckms b C body
    | _ => false)
  | .rse c, C, s => (match s with
    | .Raise (some (.Call (.Name n _) [.Constant (.str _) _ _] [] _)) none _ => decide (n = Str.ofString c) && (C.cls.contains c && glB C.sc n)
    | _ => false)
  | .exq x, C, s => (match s with
    | .Expr e _ => notComp e && ck x false C e
    | _ => false)
  | _, _, _ => false
def ckms : List Stm → Ck → List Stmt → Bool
  | [], _, ss => (dropDoc ss).isEmpty
  | t :: ts, C, ss => (match isFrz t with
    | true => ckms ts C ss
    | false => (match dropDoc ss with
      | s :: r => ckm t C s && ckms ts C r
      | [] => false))
end
section
variable {Φ : Fns} {F : Nat} {E : XK} {Z0 H0 : Hp} {X : Cx} {C : Ck}
theorem su_drop {ts : List Stm} : ∀ {ss : List Stmt}, PSu Φ F X E Z0 H0 (dropDoc ss) ts → PSu Φ F X E Z0 H0 ss ts
  | [], h => h
  | s :: r, h => by
    unfold dropDoc at h
    split at h
    · rename_i hd
      unfold isDoc at hd
      split at hd <;> first | (cases hd; done) | skip
      exact su_doc (su_drop h)
    · exact h
/-- name = value -/
theorem asg_ok {x : Ex} {i : Nat} {n : Str} {p pos : Pos} {e : Expr} (o : Sok Φ C X E) (h : ckAsg C i x n p e = true) : PS X (.Assign [.Name n p] e pos) (tAsg (TEv Φ X.K X.mg (We E) x) (gName i)) := by
  unfold ckAsg at h
  simp only [Bool.and_eq_true] at h
  obtain ⟨h1, h2, h3, h4⟩ := h
  have hi := o.e.slot h1
  obtain ⟨hl, hf⟩ := o.e.loc h2
  have he : PEv Φ X (We E) e x := ck_ok x o.e h3
  have plain : ∀ (hs : swapsWith e (some (.Name n p)) pos.line X.env = pure false), PS X (.Assign [.Name n p] e pos) (tAsg (TEv Φ X.K X.mg (We E) x) (gName i)) := fun hs => ps_set o.e.nd hi hl he hs hf
  cases x <;> first | exact plain (swaps_no h4) | skip
  · -- one loop
    rename_i own tg k src cond elt
    unfold ck at h3
    split at h3 <;> first | (cases h3; done) | skip
    rename_i elt' tg' it' ifs' scope pos'
    cases hs : swB X.env.scope n p (.ListComp elt' [⟨tg', it', ifs', 0⟩] scope pos') with
    | false => exact plain (by rw [swaps_lc o.kind, hs])
    | true =>
      have hyl : X.env.scope.names.lookup n = some .local := by
        unfold swB at hs
        simp only [Bool.and_eq_true] at hs
        have := hs.1
        split at this <;> first | assumption | cases this
      simp only [Bool.and_eq_true] at h3
      obtain ⟨h1, h2, h3, h4, h5, h6⟩ := h3
      split at h4 <;> first | (cases h4; done) | skip
      rename_i es hw
      obtain ⟨w1, _, w3⟩ := wk_of o.e hw (cks_ok src o.e h4)
      refine ps_lcD (ownS := ownS own) o.e.calm o.e.nd hi hyl (by rw [swaps_lc o.kind, hs]) w1 (by rw [o.e.N, o.e.sc]; exact blkOk_by h1) (own_eq own) (subB_is h2) (fun s H Ca cl fp => ckg_ok (o.e.blk scope s H Ca cl fp) h3) (fun s H Ca cl fp => ?_) (fun s H Ca cl fp => ck_ok elt (o.e.blk scope s H Ca cl fp) h6) (fun x => w3 x _)
      cases hn : isNil cond with
      | true =>
        rw [hn] at h5
        cases ifs' with
        | nil => rw [is_nil hn]; exact ptc_nil
        | cons => cases h5
      | false =>
        rw [hn] at h5
        cases ifs' with
        | nil => cases h5
        | cons c r => cases r with
          | nil => exact ptc_one (show PTv Φ _ WF c cond from ck_ok cond (o.e.blk scope s H Ca cl fp) h5) (not_nil hn)
          | cons => cases h5
  · -- two loops
    rename_i own tg k src tg1 k1 src1 elt
    unfold ck at h3
    split at h3 <;> first | (cases h3; done) | skip
    rename_i elt' tg' it' tg1' it1' scope pos'
    cases hs : swB X.env.scope n p (.ListComp elt' [⟨tg', it', [], 0⟩, ⟨tg1', it1', [], 0⟩] scope pos') with
    | false => exact plain (by rw [swaps_lc o.kind, hs])
    | true =>
      have hyl : X.env.scope.names.lookup n = some .local := by
        unfold swB at hs
        simp only [Bool.and_eq_true] at hs
        have := hs.1
        split at this <;> first | assumption | cases this
      simp only [Bool.and_eq_true] at h3
      obtain ⟨h1, h2, h3, h4, h5, h6, h7, h8, h9, h10⟩ := h3
      split at h7 <;> first | (cases h7; done) | skip
      rename_i es hw
      split at h9 <;> first | (cases h9; done) | skip
      rename_i es1 hw1
      obtain ⟨w1, _, w3⟩ := wk_of o.e hw (cks_ok src o.e h7)
      have hd : ∀ i ∈ tgS tg1, i ∈ own.map (·.2) ∧ i ∉ tgS tg := fun i hi => ⟨subB_is h3 i hi, fun z => by
        rw [List.all_eq_true] at h4
        have := h4 i hi
        simp [z] at this⟩
      exact ps_lc2D (ownS := ownS own) o.e.calm o.e.nd hi hyl (by rw [swaps_lc o.kind, hs]) w1 (by rw [o.e.N, o.e.sc]; exact blkOk_by h1) (own_eq own) (subB_is h2) hd (fun s H Ca cl fp => ckg_ok (o.e.blk scope s H Ca cl fp) h5) (fun s H Ca cl fp => (wk_of (o.e.blk scope s H Ca cl fp) hw1 (cks_ok src1 (o.e.blk scope s H Ca cl fp) h9)).2.1) (fun s H Ca cl fp => ckg_ok (o.e.blk scope s H Ca cl fp) h6) (fun s H Ca cl fp => ck_ok elt (o.e.blk scope s H Ca cl fp) h10) (fun x => w3 x _) (fun en x => notSet_is h8 x)
  · -- a dict, two loops
    rename_i tk own tg k src cond tg1 k1 src1 key val
    unfold ck at h3
    split at h3 <;> first | (cases h3; done) | skip
    rename_i k' v' tg' it' ifs' tg1' it1' scope pos'
    cases hs : swB X.env.scope n p (.DictComp k' v' [⟨tg', it', ifs', 0⟩, ⟨tg1', it1', [], 0⟩] scope pos') with
    | false => exact plain (by rw [swaps_dc o.kind, hs])
    | true =>
      have hyl : X.env.scope.names.lookup n = some .local := by
        unfold swB at hs
        simp only [Bool.and_eq_true] at hs
        have := hs.1
        split at this <;> first | assumption | cases this
      simp only [Bool.and_eq_true, Bool.not_eq_true'] at h3
      obtain ⟨rfl, h1, h2, h3, h4, h5, h6, h7, h8, h9, h10, h11, h12⟩ := h3
      split at h7 <;> first | (cases h7; done) | skip
      rename_i es hw
      split at h9 <;> first | (cases h9; done) | skip
      rename_i es1 hw1
      obtain ⟨w1, _, w3⟩ := wk_of o.e hw (cks_ok src o.e h7)
      have hd : ∀ i ∈ tgS tg1, i ∈ own.map (·.2) ∧ i ∉ tgS tg := fun i hi => ⟨subB_is h3 i hi, fun z => by
        rw [List.all_eq_true] at h4
        have := h4 i hi
        simp [z] at this⟩
      refine ps_dc2D (ownS := ownS own) o.e.calm o.e.nd w1 (by rw [o.e.N, o.e.sc]; exact blkOk_by h1) (own_eq own) (subB_is h2) hd (fun s H Ca cl fp => ckg_ok (o.e.blk scope s H Ca cl fp) h5) (fun s H Ca cl fp => ?_) (fun s H Ca cl fp => (wk_of (o.e.blk scope s H Ca cl fp) hw1 (cks_ok src1 (o.e.blk scope s H Ca cl fp) h9)).2.1) (fun s H Ca cl fp => ckg_ok (o.e.blk scope s H Ca cl fp) h6) (fun s H Ca cl fp => ck_ok key (o.e.blk scope s H Ca cl fp) h11) (fun s H Ca cl fp => ck_ok val (o.e.blk scope s H Ca cl fp) h12) (fun x => w3 x _) (fun en x => notSet_is h8 x) hi hyl (by rw [swaps_dc o.kind, hs])
      cases hn : isNil cond with
      | true =>
        rw [hn] at h10
        cases ifs' with
        | nil => rw [is_nil hn]; exact ptc_nil
        | cons => cases h10
      | false =>
        rw [hn] at h10
        cases ifs' with
        | nil => cases h10
        | cons c r => cases r with
          | nil => exact ptc_one (show PTv Φ _ WF c cond from ck_ok cond (o.e.blk scope s H Ca cl fp) h10) (not_nil hn)
          | cons => cases h10
theorem st_rse {c : String} {m : Str} {j : Nat} {p p2 pos pos' : Pos} (hc : X.calm = true) (tk : Takes X (We E)) (k : ClsOk X c) (hg : Gl X (Str.ofString c)) : PSt Φ F X E Z0 H0 (.Raise (some (.Call (.Name (Str.ofString c) p) [.Constant (.str m) j p2] [] pos)) none pos') (.rse c) := by
  obtain ⟨Ca, bmB, B, newId, initId, F1, q, gC, kC, r, hn⟩ := k.ok
  refine PS.imp (ps_raise hc tk (pmk_own F1 q gC kC r hg hn)) fun D σ H ⟨Z, env, s, hf⟩ => ?_
  unfold ex at hf
  have hf : EX X.mg E Z0 H0 c := hf
  exact hf Ca Z H gC s.ext
theorem slots_ne {N : List Str} {i j : Nat} {n m : Str} (nd : N.Nodup) (h1 : N[i]? = some n) (h2 : N[j]? = some m) (h : i ≠ j) : n ≠ m := fun z => by
  subst z
  exact h ((List.getElem?_inj (List.getElem?_eq_some_iff.mp h1).1 nd).mp (h1.trans h2.symm))
mutual
theorem ckm_ok : ∀ (t : Stm) {s : Stmt}, Sok Φ C X E → ckm t C s = true → PSt Φ F X E Z0 H0 s t
  | .asg t b x, s, o, h => by
    unfold ckm at h
    split at h <;> first | (cases h; done) | skip
    split at h
    · split at h <;> first | (cases h; done) | skip
      exact st_asg (asg_ok o h)
    · rename_i tg e pos ts
      simp only [Bool.and_eq_true] at h
      obtain ⟨h1, h2, h3, h4⟩ := h
      unfold isTup at h1
      split at h1 <;> first | (cases h1; done) | skip
      exact st_asgT (ck_ok x o.e h4) (ckg_ok o.e h3) swaps_tup (stores_none h2) rfl
  | .par is os xs, s, o, h => by
    unfold ckm at h
    split at h <;> first | (cases h; done) | skip
    split at h <;> first | (cases h; done) | skip
    split at h <;> first | (cases h; done) | skip
    split at h <;> first | (cases h; done) | skip
    rename_i x y _ _ _
    rename_i x y _ _ _
    rw [Bool.and_eq_true, Bool.and_eq_true, Bool.and_eq_true, Bool.and_eq_true, Bool.and_eq_true, Bool.and_eq_true, Bool.and_eq_true, Bool.or_eq_true] at h
    obtain ⟨h1, h2, h3, h6, h7, h11, h12, h⟩ := h
    have h1 := of_decide_eq_true h1
    have h2 := of_decide_eq_true h2
    have h3 := of_decide_eq_true h3
    have e1 : PEv Φ X (We E) _ x := ck_ok x o.e h11
    have e2 : PEv Φ X (We E) _ y := ck_ok y o.e h12
    rcases h with h | h
    · simp only [Bool.and_eq_true, decide_eq_true_eq, Bool.not_eq_true'] at h
      obtain ⟨h4, h5, h8, h9, h10⟩ := h
      rw [← o.e.sc] at h4 h5
      rw [← o.e.N] at h1 h2
      have hne := slots_ne o.e.nd h1 h2 h3
      exact st_par2 (fun _ _ => trivial) (ps_par o.e.calm o.e.nd h1 h2 h3 h4 h5 (pa_cons e1 (pa_cons e2 pa_nil (star_cons h7)) (star_cons h6)) (stores_two o.kind h6 h7 h4 h5 h8 hne h9 h10) swaps_tup) fun σ H Q h => h
    · simp only [Bool.and_eq_true] at h
      obtain ⟨h4, h5, h8⟩ := h
      obtain ⟨l1, l2⟩ := o.e.loc h5
      obtain ⟨l3, l4⟩ := o.e.loc h8
      rw [← o.e.N] at h1 h2
      rw [← o.e.sc] at h4
      exact st_parT o.e.calm o.e.nd h1 l1 l2 h2 l3 l4 e1 e2 h6 h7 (stores_cell (by simpa using h4))
  | .put i k x, s, o, h => by
    unfold ckm at h
    split at h <;> first | (cases h; done) | skip
    simp only [Bool.and_eq_true] at h
    obtain ⟨h1, h2, h3, h4, h5, h6⟩ := h
    obtain ⟨n1, n2⟩ := nmB_is h3
    refine st_put (by have := o.e.units; omega) (o.e.slot h1) (o.e.vis h2) n1 n2 (ck_ok k o.e h5) (ck_ok x o.e h6) (fun v => ?_) swaps_sub
    rename_i k' _ _ _
    cases k' <;> first | (cases h4; done) | rfl
  | .mut m i xs, s, o, h => by
    unfold ckm at h
    split at h
    · split at h <;> first | (cases h; done) | skip
      simp only [Bool.and_eq_true, decide_eq_true_eq] at h
      obtain ⟨h0, rfl, h1, h2, h3, h4⟩ := h
      split at h0 <;> first | (cases h0; done) | skip
      obtain ⟨n1, n2⟩ := nmB_is h3
      rw [← o.e.N] at h1
      exact st_clr h1 (o.e.vis h2) n1 n2 h4
    · split at h <;> first | (cases h; done) | skip
      simp only [Bool.and_eq_true, decide_eq_true_eq] at h
      obtain ⟨h0, rfl, h1, h2, h3, h4⟩ := h
      split at h0 <;> first | (cases h0; done) | skip
      rename_i x
      simp only [Bool.and_eq_true] at h0
      obtain ⟨n1, n2⟩ := nmB_is h3
      rw [← o.e.N] at h1
      exact st_ext h1 (o.e.vis h2) n1 n2 (ck_ok x o.e h0.2) h0.1 h4
    · split at h <;> first | (cases h; done) | skip
      simp only [Bool.and_eq_true, decide_eq_true_eq] at h
      obtain ⟨h0, rfl, h1, h2, h3, h4⟩ := h
      split at h0 <;> first | (cases h0; done) | skip
      rename_i x
      simp only [Bool.and_eq_true] at h0
      obtain ⟨n1, n2⟩ := nmB_is h3
      rw [← o.e.N] at h1
      exact st_upd h1 (o.e.vis h2) n1 n2 (ck_ok x o.e h0.2) h0.1 h4
    · split at h <;> first | (cases h; done) | skip
      simp only [Bool.and_eq_true, decide_eq_true_eq] at h
      obtain ⟨h0, rfl, h1, h2, h3, h4, h5, h6⟩ := h
      obtain ⟨n1, n2⟩ := nmB_is h3
      rw [← o.e.N] at h1
      have L := cks_ok xs o.e h6
      exact st_mut h0 h1 (o.e.vis h2) n1 n2 (L.as rfl) L.star h5 h4
  | .ret x, s, o, h => by
    unfold ckm at h
    split at h <;> first | (cases h; done) | skip
    · exact st_ret (ck_ok x o.e h)
    · split at h <;> first | (cases h; done) | skip
      exact st_retN
  | .retv i, s, o, h => by
    unfold ckm at h
    split at h <;> first | (cases h; done) | skip
    simp only [Bool.and_eq_true] at h
    obtain ⟨h1, h2, h3⟩ := h
    obtain ⟨n1, n2⟩ := nmB_is h3
    exact st_retv (o.e.slot h1) (o.e.vis h2) n1 n2
  | .iff c a b, s, o, h => by
    unfold ckm at h
    split at h <;> first | (cases h; done) | skip
    simp only [Bool.and_eq_true] at h
    obtain ⟨h1, h2, h3⟩ := h
    exact st_iff (show PTv Φ X (We E) _ c from ck_ok c o.e h1) (ckms_ok a o h2) (ckms_ok b o h3)
  | .for_ t k src b, s, o, h => by
    unfold ckm at h
    split at h <;> first | (cases h; done) | skip
    simp only [Bool.and_eq_true] at h
    obtain ⟨h1, h2, h3⟩ := h
    split at h1 <;> first | (cases h1; done) | skip
    rename_i es hw
    obtain ⟨_, w2, w3⟩ := wk_of o.e hw (cks_ok src o.e h1)
    exact st_for o.pass o.e.calm w2 (ckg_ok o.e h2) (ckms_ok b o h3) (fun x => w3 x _)
  | .whl c b, s, o, h => by
    unfold ckm at h
    split at h <;> first | (cases h; done) | skip
    simp only [Bool.and_eq_true] at h
    obtain ⟨h1, h2⟩ := h
    exact st_whl o.pass (show PTv Φ X (We E) _ c from ck_ok c o.e h1) (ckms_ok b o h2)
  | .rse c, s, o, h => by
    unfold ckm at h
    split at h <;> first | (cases h; done) | skip
    simp only [Bool.and_eq_true, decide_eq_true_eq] at h
    obtain ⟨rfl, h1, h2⟩ := h
    exact st_rse o.e.calm o.e.tk (o.cls c h1) (o.e.gl h2)
  | .exq x, s, o, h => by
    unfold ckm at h
    split at h <;> first | (cases h; done) | skip
    simp only [Bool.and_eq_true] at h
    exact st_exq (ck_ok x o.e h.2) (swaps_no h.1)
  | .putp i k j x y, s, o, h => by
    unfold ckm at h
    split at h <;> first | (cases h; done) | skip
    simp only [Bool.and_eq_true, decide_eq_true_eq] at h
    obtain ⟨h1, h2, h3, h4, h5, h6, h7, h8, h9⟩ := h
    obtain ⟨n1, n2⟩ := nmB_is h3
    obtain ⟨l1, l2⟩ := o.e.loc h5
    rw [← o.e.N] at h1 h4
    exact st_putp o.e.calm (by have := o.e.units; omega) o.e.nd h1 (o.e.vis h2) n1 n2 h4 l1 l2 h6 (ck_ok k o.e h8) h7 ((cks_ok [x, y] o.e h9).as rfl)
  | .tri _ _ _, s, o, h => by unfold ckm at h; cases h
  | .frz _, s, o, h => by unfold ckm at h; cases h
theorem ckms_ok : ∀ (ts : List Stm) {ss : List Stmt}, Sok Φ C X E → ckms ts C ss = true → PSu Φ F X E Z0 H0 ss ts
  | [], ss, o, h => by
    unfold ckms at h
    refine su_drop ?_
    cases hd : dropDoc ss with
    | nil => exact su_nil
    | cons s r => rw [hd] at h; cases h
  | t :: ts, ss, o, h => by
    unfold ckms at h
    split at h
    · rename_i hf
      unfold isFrz at hf
      split at hf <;> first | (cases hf; done) | skip
      exact su_frz (ckms_ok ts o h)
    · refine su_drop ?_
      split at h <;> first | (cases h; done) | skip
      rename_i s r hd
      simp only [Bool.and_eq_true] at h
      rw [hd]
      exact su_cons (ckm_ok t o h.1) (ckms_ok ts o h.2)
end
end
end Tdl
/-! TdDef: defs. -/
namespace Tdl
open PySem PySem.W L2 PySem.Spec PyProof.Rows
/-- what a module holds beside its defs -/
structure Mod (K : Frag) (mg : Str → Option Value) (csts : List (String × PyData)) (cls : List String) : Prop where
  csts : ∀ g d, csts.lookup g = some d → ∃ u v, mg (Str.ofString g) = some u ∧ RelV v u ∧ ∀ Z, Rep K Z v d
  cls : ∀ c, cls.contains c = true → ∃ (Ca : Addr) (bmB : List Value) (B newId initId : String), ExcBaseFacts B newId initId bmB ∧ PySem.W.excIn K Ca bmB newId = true ∧ mg (Str.ofString c) = some (.ref Ca) ∧ PySem.W.keepIn K (.ref Ca) = true ∧
    (PySem.W.subIn K (.ref Ca) (.type "BaseException") = some true ∧ PySem.W.typeIn K (.ref Ca) = some (.type "type")) ∧ (Str.ofString c == ("__debug__" : Str)) = false
  blt : ∀ b ∈ ["len", "list", "tuple", "all", "any", "sum", "min", "max", "sorted", "dict", "set", "isinstance", "int", "bool", "str", "range", "enumerate", "zip"], mg (Str.ofString b) = none
/-- a def of the text, as the own tree has it -/
structure DefOk (K : Frag) (mg : Str → Option Value) (fns : List String) (csts : List (String × PyData)) (cls : List String) (f : String) (d : Fn) (fa : Addr) (fd : FuncData) (ps : List Str) : Prop where
  gl : mg (Str.ofString f) = some (.ref fa)
  keep : keepIn K (.ref fa) = true
  np : ps.length = d.np
  binds : L2.Binds K fd ps []
  nm : (Str.ofString f == ("__debug__" : Str)) = false
  rec_ : ∃ (oc : Value) (od : Option Addr) (osl : Array (Option Value)) (name qual : Str) (params : Arguments) (body : List Stmt) (scope : Scope) (dV kV doc pm cdv ct : Value) (an : Option Addr),
    fd = PySem.W.fnOf name qual params body scope dV kV doc pm an cdv ct ∧ K.lookup fa = some ⟨oc, od, .func (PySem.W.fnOf name qual params body scope dV kV doc pm an cdv ct), osl⟩ ∧ PySem.W.codeIn K cdv qual = true ∧ FnScope (d.names.map Str.ofString) ps scope ∧
    ckms d.body ⟨d.names.map Str.ofString, scope, scope, fns, csts, cls⟩ body = true
theorem start_get {N : List Str} {vs : List V} {i : Nat} {v : V} (h : vs[i]? = some v) : (L2.start N vs)[i]? = some (some v) := by
  unfold L2.start
  rw [List.getElem?_append_left (by rw [List.length_map]; exact (List.getElem?_eq_some_iff.mp h).1), List.getElem?_map, h]
  rfl
theorem stt_start {K : Frag} {Z H : Hp} {vs : List V} {rs : List RV} {names : List String} {np : Nat} (i : Same Z H) (r : LRs K Z H vs rs) (hn : vs.length = np) (hl : np ≤ names.length) : Stt K Z H Z (rs.map SV.rv ++ List.replicate (names.length - np) .un) (L2.start (names.map Str.ofString) vs) H := by
  have hd : rs.length = np := by rw [← r.length]; exact hn
  have cs : ∀ (j : Nat) (sv : SV), (rs.map SV.rv ++ List.replicate (names.length - np) SV.un)[j]? = some sv → (∃ d, rs[j]? = some d ∧ sv = .rv d) ∨ sv = .un := fun j sv e => by
    by_cases hj : j < rs.length
    · rw [List.getElem?_append_left (by rw [List.length_map]; exact hj), List.getElem?_map, List.getElem?_eq_getElem hj] at e
      cases e
      exact .inl ⟨_, List.getElem?_eq_getElem hj, rfl⟩
    · rw [List.getElem?_append_right (by rw [List.length_map]; omega), List.getElem?_replicate] at e
      split at e <;> cases e
      exact .inr rfl
  have no : ∀ (j : Nat) (d : PyData), rs[j]? = some ⟨d, .ow⟩ → False := fun j d h => by
    obtain ⟨v, _, lr⟩ := r.get h
    exact lr
  refine ⟨⟨?_, fun j sv e => ?_⟩, Ext.refl i, fun j d e => ?_, fun j k d e a h1 => ?_, fun j d e => ?_⟩
  · unfold L2.start
    rw [List.length_append, List.length_append, List.length_map, List.length_map, List.length_replicate, List.length_replicate, List.length_map, hn, hd]
  · rcases cs j sv e with ⟨d, h1, rfl⟩ | rfl
    · obtain ⟨v, hv, rv⟩ := r.get h1
      obtain ⟨d, m⟩ := d
      cases m with
      | im => exact ⟨v, start_get hv, rv⟩
      | ow => exact (no j d h1).elim
      | bo => obtain ⟨a, rfl, o⟩ := rv; exact ⟨a, start_get hv, o⟩
    · trivial
  · rcases cs j _ e with ⟨d, h1, h2⟩ | h2 <;> cases h2
    exact (no j _ h1).elim
  · rcases cs j _ h1 with ⟨d, h1, h2⟩ | h2 <;> cases h2
    exact fun _ _ _ => (no j _ h1).elim
  · rcases cs j _ e with ⟨d, h1, h2⟩ | h2 <;> cases h2
    obtain ⟨v, hv, a, rfl, o⟩ := r.get h1
    exact ⟨a, start_get hv, o.nt⟩
/-- every def, called n deep at most -/
theorem defs_ok {P : Program} {w : World} {K : Frag} {mg : Str → Option Value} {base : Heap} {fns : List String} {csts : List (String × PyData)} {cls : List String} {Pg : String → Option Fn} {F : Nat} (M : Mod K mg csts cls)
    (hd : ∀ f, fns.contains f = true → ∃ d fa fd ps, Pg f = some d ∧ DefOk K mg fns csts cls f d fa fd ps) :
    ∀ n f d fa fd ps, Pg f = some d → DefOk K mg fns csts cls f d fa fd ps → FnOk P w K mg base (L2.CX P w) n fa fd ps (spF K mg ps.length (callF Pg F n f))
  | 0, f, d, fa, fd, ps, hp, D => ⟨fun vs H Q E h => h.1, fun A outer s H args us vs Q E hr e0 hb hv h => by
      obtain ⟨_, Z, ds, _, _, hf⟩ := h
      unfold callF at hf
      exact hf.elim⟩
  | n + 1, f, d, fa, fd, ps, hp, D => by
    obtain ⟨oc, od, osl, name, qual, params, body, scope, dV, kV, doc, pm, cdv, ct, an, rfl, lk, hcd, S, hck⟩ := D.rec_
    refine fn_of lk hcd S (fun vs H Q E h => h.1) fun A outer s H vs Q E hr hsp => ?_
    obtain ⟨hl, Z, ds, iz, rl, hf⟩ := hsp
    have hpl : d.np ≤ d.names.length := by
      have := congrArg List.length S.pre
      rw [List.length_take, List.length_map] at this
      have := D.np
      omega
    refine ⟨TSs (callF Pg F n) F K mg E Z H d.body, ckms_ok (E := E) d.body ?_ hck, ?_⟩
    · refine ⟨⟨rfl, S.nd, rfl, fun _ _ => rfl, rfl, ?_, takes_of (E := E) rfl rfl rfl rfl, fun g hg => ?_, M.csts, M.blt⟩, passes_of rfl, fun c hc => ?_, ?_⟩
      · have := hr.un
        show (A.deeper _).units + 128 < cLine
        omega
      · obtain ⟨d2, fa2, fd2, ps2, hp2, D2⟩ := hd g hg
        exact ⟨n, fa2, fd2, ps2, defs_ok M hd n g d2 fa2 fd2 ps2 hp2 D2, hr, D2.gl, D2.keep, D2.binds, D2.nm, fun args hne => by
          cases n with
          | zero => exact absurd rfl hne
          | succ n =>
            unfold callF at hne
            rw [hp2] at hne
            have hne : gd (args.length == d2.np) _ ≠ .err := hne
            cases q : (args.length == d2.np) with
            | true => rw [D2.np]; simpa using q
            | false => rw [q] at hne; exact absurd rfl hne⟩
      · obtain ⟨Ca, bmB, B, newId, initId, q1, q2, q3, q4, ⟨q5, q6⟩, q7⟩ := M.cls c hc
        exact ⟨⟨Ca, bmB, B, newId, initId, q1, q2, q3, q4, raises_own q5 q6, q7⟩⟩
      · show (if scope.kind.isAnnotationScope then ScopeKind.function else scope.kind) = .function
        rw [S.kind]
        rfl
    · unfold callF at hf
      rw [hp] at hf
      obtain ⟨_, hf⟩ := (show Fine _ _ (gd _ _) from hf).gd
      refine ⟨Z, _, stt_start iz rl (hl.trans D.np) hpl, hf.bd.mono (fun c h => h) fun fl h => ?_⟩
      have h : kR K Z H Q (out fl) := h
      cases fl with
      | nx env' => exact fun Z' σ' H' _ s' => h Z' H' .non s'.ext .non
      | rt r => exact fun Z' H' v x rr => h Z' H' v x rr
end Tdl
/-! TdLaw: from the head's facts to the law. -/
namespace Tdl
open PySem PySem.W L2 PySem.Spec PyProof.Rows
/-- a def of the text and its own tree -/
structure LD where
  f : String
  d : Fn
  st : Stmt
def LD.ps (x : LD) : List Str := (x.d.names.take x.d.np).map Str.ofString
def LD.dd (x : LD) : He.DefD := ⟨(Str.ofString x.f, none), Str.ofString x.f, Str.ofString x.f, defArgs x.st, defBody x.st, defScope x.st, [], []⟩
/-- all that is looked at -/
structure LL where
  ds : List LD
  csts : List (String × PyData)
  cls : List String
def blts : List String := ["len", "list", "tuple", "all", "any", "sum", "min", "max", "sorted", "dict", "set", "isinstance", "int", "bool", "str", "range", "enumerate", "zip"]
def cFa : String × PyData → List He.Fa
  | (g, .int i) => [.int (Str.ofString g) i]
  | (g, .str z) => [.str (Str.ofString g) z]
  | _ => []
def LL.fa (L : LL) : List He.Fa := (L.ds.map fun x => He.Fa.glo (Str.ofString x.f)) ++ (blts.map fun b => He.Fa.free (Str.ofString b)) ++ (L.csts.map cFa).flatten ++ (L.cls.map fun c => He.Fa.glo (Str.ofString c)) ++ L.cls.map fun c => He.Fa.exc (Str.ofString c)
def LL.fn (L : LL) : List He.DefD := L.ds.map LD.dd
def LL.fns (L : LL) : List String := L.ds.map (·.f)
def LL.prog (L : LL) : String → Option Fn := fun f => (L.ds.find? fun x => x.f == f).map (·.d)
def cOk : String × PyData → Bool
  | (_, .int _) => true
  | (_, .str _) => true
  | _ => false
def dbB (f : String) : Bool := !(Str.ofString f == ("__debug__" : Str))
/-- the text is as the own trees have it -/
def LD.ok (L : LL) (x : LD) : Bool := decide (x.ps.length = x.d.np) && (dbB x.f && (C8.scC (x.d.names.map Str.ofString) x.ps (defScope x.st) && ckms x.d.body ⟨x.d.names.map Str.ofString, defScope x.st, defScope x.st, L.fns, L.csts, L.cls⟩ (defBody x.st)))
def LL.ok (L : LL) : Bool := decide (L.ds.map (·.f)).Nodup && (L.csts.all cOk && (L.cls.all dbB && L.ds.all fun x => x.ok L))
/-- the arguments of every def are plain -/
def LD.Bnd (x : LD) : Prop := ∀ (kV doc pm : Value) (an : Option Addr) (cdv ct : Value) (us : List Value), us.length = x.ps.length → bindArgs (PySem.W.fnOf (Str.ofString x.f) (Str.ofString x.f) (defArgs x.st) (defBody x.st) (defScope x.st) .none kV doc pm an cdv ct) ⟨us, []⟩ = pure (x.ps.zip us)
section
variable {L : LL} {K : Frag} {h : Heap} {mg : Str → Option Value}
theorem look_mem {α : Type} {g : String} {d : α} : ∀ {l : List (String × α)}, l.lookup g = some d → (g, d) ∈ l
  | [], h => by cases h
  | (a, b) :: r, h => by
    rw [List.lookup_cons] at h
    cases q : (g == a) with
    | true =>
      rw [q] at h
      cases h
      rw [eq_of_beq q]
      exact List.mem_cons_self ..
    | false =>
      rw [q] at h
      exact List.mem_cons_of_mem _ (look_mem h)
theorem mod_ok (ok : L.ok = true) (X : K.In h) (G : h.Ns mainGlobals mg) (c : He.SaysD L.fa L.fn K) : Tdl.Mod K mg L.csts L.cls := by
  unfold LL.ok at ok
  simp only [Bool.and_eq_true] at ok
  obtain ⟨_, o1, o2, _⟩ := ok
  refine ⟨fun g d hd => ?_, fun cc hc => ?_, fun b hb => ?_⟩
  · have hm := look_mem hd
    have hk := List.all_eq_true.mp o1 _ hm
    have mem : ∀ f, f ∈ cFa (g, d) → f ∈ L.fa := fun f hf => by
      unfold LL.fa
      simp only [List.mem_append, List.mem_flatten, List.mem_map]
      exact .inl (.inl (.inr ⟨_, ⟨_, hm, rfl⟩, hf⟩))
    cases d <;> first | (cases hk; done) | skip
    · rename_i i
      obtain ⟨t, e⟩ := He.int_ok X G (c.facts (mem _ (List.mem_singleton.mpr rfl)))
      exact ⟨_, .int i, e, ⟨t, rfl⟩, fun Z => .int i⟩
    · rename_i z
      obtain ⟨t, e⟩ := He.str_ok X G (c.facts (mem _ (List.mem_singleton.mpr rfl)))
      exact ⟨_, .str z, e, ⟨t, rfl⟩, fun Z => .str z⟩
  · have hm : cc ∈ L.cls := by simpa using hc
    have g1 := He.glo_ok X G (c.facts (f := .glo (Str.ofString cc)) (by
      unfold LL.fa
      simp only [List.mem_append, List.mem_map]
      exact .inl (.inr ⟨_, hm, rfl⟩)))
    obtain ⟨q1, q2, q3, q4⟩ := He.exc_ok (c.facts (f := .exc (Str.ofString cc)) (by
      unfold LL.fa
      simp only [List.mem_append, List.mem_map]
      exact .inr ⟨_, hm, rfl⟩))
    have hn := List.all_eq_true.mp o2 _ hm
    unfold dbB at hn
    exact ⟨_, _, _, _, _, PySem.F.excBase_ValueError, q1, g1, q2, ⟨q3, q4⟩, by simpa using hn⟩
  · exact He.free_ok X G (c.facts (f := .free (Str.ofString b)) (by
      unfold LL.fa
      simp only [List.mem_append, List.mem_map]
      exact .inl (.inl (.inl (.inr ⟨b, hb, rfl⟩)))))
theorem def_ok (ok : L.ok = true) (X : K.In h) (G : h.Ns mainGlobals mg) (c : He.SaysD L.fa L.fn K) {x : LD} (hx : x ∈ L.ds) (hb : x.Bnd) : ∃ fd, DefOk K mg L.fns L.csts L.cls x.f x.d (He.ga K (Str.ofString x.f)) fd x.ps ∧ ∀ (s : Shared) (us : List Value), us.length = x.ps.length → BindsTo s fd ⟨us, []⟩ (x.ps.zip us) := by
  unfold LL.ok at ok
  simp only [Bool.and_eq_true] at ok
  obtain ⟨_, _, _, o3⟩ := ok
  have hk := List.all_eq_true.mp o3 _ hx
  unfold LD.ok at hk
  simp only [Bool.and_eq_true, decide_eq_true_eq] at hk
  obtain ⟨k1, k2, k3, k4⟩ := hk
  obtain ⟨fd, F⟩ := c.defs (d := x.dd) (List.mem_map.mpr ⟨x, hx, rfl⟩)
  have gl := He.glo_ok X G (c.facts (f := .glo (Str.ofString x.f)) (by
    unfold LL.fa
    simp only [List.mem_append, List.mem_map]
    exact .inl (.inl (.inl (.inl ⟨x, hx, rfl⟩)))))
  have ea : He.fAd K (x.dd).at_ = He.ga K (Str.ofString x.f) := rfl
  rw [ea] at F
  have bn : L2.Binds K fd x.ps [] := FunD.bindsN F hb
  have kp := F.kp
  have ba := fun (s : Shared) (us : List Value) (hl : us.length = x.ps.length) => FunD.bindsA F hb s us hl
  obtain ⟨oc, od, dV, kV, doc, pm, an, cdv, ct, osl, rfl, lk, hcd, _, _⟩ := F.ex
  unfold dbB at k2
  exact ⟨_, ⟨gl, kp, k1, bn, by simpa using k2, oc, od, osl, _, _, _, _, _, dV, kV, doc, pm, cdv, ct, an, rfl, lk, hcd, C8.fnScope_by k3, k4⟩, ba⟩
theorem prog_some (hL : L = L) {f : String} {d : Fn} (h : L.prog f = some d) : ∃ x, x ∈ L.ds ∧ x.f = f ∧ x.d = d := by
  unfold LL.prog at h
  cases e : L.ds.find? fun x => x.f == f with
  | none => rw [e] at h; cases h
  | some x =>
    rw [e] at h
    cases h
    exact ⟨x, List.mem_of_find?_eq_some e, by have := List.find?_some e; simpa using this, rfl⟩
theorem prog_of {f : String} (h : L.fns.contains f = true) : ∃ x, x ∈ L.ds ∧ x.f = f ∧ L.prog f = some x.d := by
  have hm : f ∈ L.fns := by simpa using h
  unfold LL.fns at hm
  obtain ⟨y, hy, e⟩ := List.mem_map.mp hm
  cases e2 : L.ds.find? fun x => x.f == f with
  | none =>
    have := List.find?_eq_none.mp e2 y hy
    rw [e] at this
    simp at this
  | some x =>
    refine ⟨x, List.mem_of_find?_eq_some e2, by have := List.find?_some e2; simpa using this, ?_⟩
    unfold LL.prog
    rw [e2]
    rfl
/-- every def keeps its promise -/
theorem all_ok {P : Program} {w : World} (ok : L.ok = true) (bn : ∀ x ∈ L.ds, x.Bnd) (X : K.In h) (G : h.Ns mainGlobals mg) (c : He.SaysD L.fa L.fn K) (F n : Nat) {x : LD} (hx : x ∈ L.ds) (hp : L.prog x.f = some x.d) :
    ∃ fd, (∀ (s : Shared) (us : List Value), us.length = x.ps.length → BindsTo s fd ⟨us, []⟩ (x.ps.zip us)) ∧ mg (Str.ofString x.f) = some (.ref (He.ga K (Str.ofString x.f))) ∧ x.ps.length = x.d.np ∧
      ∀ base : Heap, FnOk P w K mg base (L2.CX P w) n (He.ga K (Str.ofString x.f)) fd x.ps (spF K mg x.ps.length (callF L.prog F n x.f)) := by
  obtain ⟨fd, D, hb⟩ := def_ok ok X G c hx (bn x hx)
  refine ⟨fd, hb, D.gl, D.np, fun base => defs_ok (mod_ok ok X G c) (fun f hf => ?_) n x.f x.d _ fd x.ps hp D⟩
  · obtain ⟨y, hy, e, hyp⟩ := prog_of hf
    obtain ⟨fd2, D2, _⟩ := def_ok ok X G c hy (bn y hy)
    subst e
    exact ⟨y.d, _, fd2, y.ps, hyp, D2⟩
end
/-- the law says True of every script of at most 63 whole numbers -/
def Says (L : LL) (F n : Nat) : Prop := ∀ ns : List Int, ns.length ≤ 63 → callF L.prog F n "law" [.rv (im (.list (ns.map .int)))] = .ok (im (.bool true))
theorem ints_rep {K : Frag} {Z : Hp} : ∀ ns : List Int, RepL K Z (ns.map V.int) (ns.map PyData.int)
  | [] => .nil
  | n :: ns => .cons (.int n) (ints_rep ns)
theorem law_end {l : PySem.W.OpenLaw} {q : Program} {loose : List Str} {XP : (Str → Option Value) → Heap → Prop} {d : DefRec} {L : LL} {x : LD} {arg : Str} {F n : Nat} (hm : l.most = some 63) (hdf : d.params.defaults = []) (hr : Room n callerA) (ok : L.ok = true) (bn : ∀ x ∈ L.ds, x.Bnd) (hx : x ∈ L.ds) (hf : x.f = "law")
    (hp : L.prog x.f = some x.d) (ha : x.ps = [arg]) (hd : d.name = ("law" : Str)) (sy : Says L F n) : PySem.W.WalkO q loose XP (He.hookD 4 L.fa L.fn).says l.row.toRowW d [] (fun f vs => PySem.call f vs) := by
  refine Att.attach_call hm hdf fun w s₀ s₁ mg mb fa o pm cd doc a vs ns G Y ho hd' hcd hmg hobj hints hlen hg => ?_
  obtain ⟨K, KX, c⟩ := Y
  rw [hd] at hmg
  obtain ⟨fd, hb, g1, g2, hF⟩ := all_ok (P := l.prog) (w := w) ok bn KX G.T.g c F n hx hp
  rw [hf] at g1 hF
  cases hmg.symm.trans g1
  rw [ha] at hb hF
  refine law_call KX G.T.g G.T.b G.T.builtins G.T.nolimit hg hobj hints (by rw [sizeLine_eq]; omega) hr (fun base _ _ => hF base) (fun s u => hb s [u] rfl) (fun H hO hS => ⟨rfl, H, [im (.list (ns.map .int))], Same.refl _, .cons (show LR K H H _ (im (.list (ns.map .int))) from .lst hS (ints_rep ns)) .nil, ?_⟩) fun H e s' ⟨_, _, _, _, _, _, _, _, _, _, _, _, z⟩ => z
  rw [List.map_cons, List.map_nil, sy ns hlen]
  intro Z' H' v _ rr
  cases rr
  rfl
end Tdl
namespace Tdl.K68
open PySem
def d_is_word : Fn := ⟨1, ["thing", "sign"], [
    .ret (.bop true [(.isi (.var 0) .str), (.chn .le .le (.cst (.int 1)) (.blt .len [(.var 0)]) (.glb "LONGEST" (.int 6))), (.blt .all [(.lc [("sign", 1)] (.nm 1) .sq [(.var 0)] .nil (.cmp .isin (.var 1) (.glb "SMALL" (.str (Str.ofString "abcdefghijklmnopqrstuvwxyz")))))])])]⟩
def d_is_rising : Fn := ⟨1, ["things", "one", "other"], [
    .ret (.blt .all [(.lc [("one", 1), ("other", 2)] (.tp [(.nm 1), (.nm 2)]) .zp [(.var 0), (.slc (.var 0) (.cst (.int 1)) .nil)] .nil (.cmp .lt (.var 1) (.var 2)))])]⟩
def d_is_part : Fn := ⟨2, ["words", "thing", "word"], [
    .ret (.bop true [(.isi (.var 1) .tuple), (.blt .all [(.lc [("word", 2)] (.nm 2) .sq [(.var 1)] .nil (.bop true [(.call "is_word" [(.var 2)]), (.cmp .isin (.var 2) (.var 0))]))]), (.call "is_rising" [(.var 1)])])]⟩
def d_is_lesson : Fn := ⟨2, ["words", "thing"], [
    .iff (.bop false [(.nt (.isi (.var 1) .tuple)), (.cmp .ne (.blt .len [(.var 1)]) (.cst (.int 2))), (.nt (.call "is_part" [(.var 0), (.idx (.var 1) (.cst (.int 0)))])), (.nt (.call "is_part" [(.var 0), (.idx (.var 1) (.cst (.int 1)))]))]) [
      .ret (.cst (.bool false))] [],
    .ret (.cmp .ne (.idx (.var 1) (.cst (.int 1))) (.tup []))]⟩
def d_is_dictionary : Fn := ⟨1, ["thing", "part", "words", "lessons", "word", "lesson"], [
    .iff (.bop false [(.nt (.isi (.var 0) .tuple)), (.cmp .ne (.blt .len [(.var 0)]) (.cst (.int 2))), (.nt (.blt .all [(.lc [("part", 1)] (.nm 1) .sq [(.var 0)] .nil (.isi (.var 1) .tuple))]))]) [
      .ret (.cst (.bool false))] [],
    .asg (.tp [(.nm 2), (.nm 3)]) false (.var 0),
    .iff (.bop false [(.nt (.chn .le .le (.cst (.int 1)) (.blt .len [(.var 2)]) (.glb "MOST_WORDS" (.int 8)))), (.nt (.blt .all [(.lc [("word", 4)] (.nm 4) .sq [(.var 2)] .nil (.call "is_word" [(.var 4)]))])), (.nt (.call "is_rising" [(.var 2)]))]) [
      .ret (.cst (.bool false))] [],
    .iff (.bop false [(.cmp .gt (.blt .len [(.var 3)]) (.glb "MOST_LESSONS" (.int 12))), (.nt (.blt .all [(.lc [("lesson", 5)] (.nm 5) .sq [(.var 3)] .nil (.call "is_lesson" [(.var 2), (.var 5)]))]))]) [
      .ret (.cst (.bool false))] [],
    .ret (.call "is_rising" [(.var 3)])]⟩
def d_look_dictionary : Fn := ⟨1, ["thing"], [
    .iff (.nt (.call "is_dictionary" [(.var 0)])) [
      .rse "NoDictionary"] []]⟩
def d_lies_in : Fn := ⟨2, ["one", "other", "word"], [
    .ret (.blt .all [(.lc [("word", 2)] (.nm 2) .sq [(.var 0)] .nil (.cmp .isin (.var 2) (.var 1)))])]⟩
def d_both : Fn := ⟨2, ["one", "other", "word"], [
    .ret (.blt .tuple [(.blt .sorted [(.dc false [("word", 2)] (.nm 2) .sq [(.bin .add (.var 0) (.var 1))] (.var 2) (.cst (.bool true)))])])]⟩
def d_taught_now : Fn := ⟨2, ["lessons", "lot", "made", "need", "taught"], [
    .asg (.nm 2) false (.var 1),
    .for_ (.tp [(.nm 3), (.nm 4)]) .sq [(.var 0)] [
      .iff (.call "lies_in" [(.var 3), (.var 1)]) [
      .asg (.nm 2) false (.call "both" [(.var 2), (.var 4)])] []],
    .ret (.var 2)]⟩
def d_known_by : Fn := ⟨2, ["lessons", "lot", "then"], [
    .asg (.nm 2) false (.call "taught_now" [(.var 0), (.var 1)]),
    .whl (.cmp .ne (.var 2) (.var 1)) [
      .par [1, 2] [false, false] [(.var 2), (.call "taught_now" [(.var 0), (.var 2)])]],
    .ret (.var 1)]⟩
def d_lots_in : Fn := ⟨2, ["words", "many", "made", "at", "word", "more"], [
    .iff (.cmp .eq (.var 1) (.cst (.int 0))) [
      .ret (.lst [(.tup [])])] [],
    .asg (.nm 2) true (.lst []),
    .for_ (.tp [(.nm 3), (.nm 4)]) .en [(.var 0)] [
      .mut .ext 2 [(.lc [("more", 5)] (.nm 5) .sq [(.call "lots_in" [(.slc (.var 0) (.bin .add (.var 3) (.cst (.int 1))) .nil), (.bin .sub (.var 1) (.cst (.int 1)))])] .nil (.bin .add (.tup [(.var 4)]) (.var 5)))]],
    .retv 2]⟩
def d_all_lots : Fn := ⟨1, ["words", "many", "lot"], [
    .ret (.lc2 [("many", 1), ("lot", 2)] (.nm 1) .r1 [(.bin .add (.blt .len [(.var 0)]) (.cst (.int 1)))] (.nm 2) .sq [(.call "lots_in" [(.var 0), (.var 1)])] (.var 2))]⟩
def d_plain_closed_lots : Fn := ⟨1, ["dictionary", "lot"], [
    .ret (.blt .sorted [(.lc [("lot", 1)] (.nm 1) .sq [(.call "all_lots" [(.idx (.var 0) (.cst (.int 0)))])] (.cmp .eq (.call "taught_now" [(.idx (.var 0) (.cst (.int 1))), (.var 1)]) (.var 1)) (.var 1))])]⟩
def d_closed_lots : Fn := ⟨1, ["dictionary"], [
    .exq (.call "look_dictionary" [(.var 0)]),
    .ret (.call "plain_closed_lots" [(.var 0)])]⟩
def d_plain_starts : Fn := ⟨1, ["dictionary", "found", "lot", "there", "one"], [
    .asg (.nm 1) true (.emp true),
    .for_ (.nm 2) .sq [(.call "all_lots" [(.idx (.var 0) (.cst (.int 0)))])] [
      .asg (.nm 3) false (.call "known_by" [(.idx (.var 0) (.cst (.int 1))), (.var 2)]),
      .iff (.bop true [(.cmp .ne (.var 3) (.var 2)), (.blt .all [(.lcd [("one", 4)] (.nm 4) false 1 (.call "lies_in" [(.var 4), (.var 2)]) (.call "lies_in" [(.idx (.var 1) (.var 4)), (.var 2)]))])]) [
      .put 1 (.var 2) (.var 3)] []],
    .ret (.blt .sorted [(.var 1)])]⟩
def d_does_stand_for : Fn := ⟨2, ["lesson", "lot"], [
    .ret (.bop true [(.call "lies_in" [(.idx (.var 0) (.cst (.int 0))), (.var 1)]), (.nt (.call "lies_in" [(.idx (.var 0) (.cst (.int 1))), (.var 1)]))])]⟩
def d_matched : Fn := ⟨1, ["dictionary", "found", "lot", "lesson"], [
    .exq (.call "look_dictionary" [(.var 0)]),
    .asg (.nm 1) true (.lst []),
    .for_ (.nm 2) .sq [(.call "plain_starts" [(.var 0)])] [
      .mut .app 1 [(.tup [(.var 2), (.idx (.lc [("lesson", 3)] (.nm 3) .sq [(.idx (.var 0) (.cst (.int 1)))] (.call "does_stand_for" [(.var 3), (.var 2)]) (.var 3)) (.cst (.int 0)))])]],
    .retv 1]⟩
def d_is_matched : Fn := ⟨2, ["dictionary", "thing", "row"], [
    .exq (.call "look_dictionary" [(.var 0)]),
    .iff (.bop false [(.nt (.isi (.var 1) .list)), (.nt (.blt .all [(.lc [("row", 2)] (.nm 2) .sq [(.var 1)] .nil (.bop true [(.isi (.var 2) .tuple), (.cmp .eq (.blt .len [(.var 2)]) (.cst (.int 2)))]))]))]) [
      .ret (.cst (.bool false))] [],
    .iff (.nt (.blt .all [(.lc [("row", 2)] (.nm 2) .sq [(.var 1)] .nil (.bop true [(.isi (.idx (.var 2) (.cst (.int 0))) .tuple), (.isi (.idx (.var 2) (.cst (.int 1))) .tuple)]))])) [
      .ret (.cst (.bool false))] [],
    .iff (.cmp .ne (.lc [("row", 2)] (.nm 2) .sq [(.var 1)] .nil (.idx (.var 2) (.cst (.int 0)))) (.call "plain_starts" [(.var 0)])) [
      .ret (.cst (.bool false))] [],
    .ret (.blt .all [(.lc [("row", 2)] (.nm 2) .sq [(.var 1)] .nil (.bop true [(.cmp .isin (.idx (.var 2) (.cst (.int 1))) (.idx (.var 0) (.cst (.int 1)))), (.call "does_stand_for" [(.idx (.var 2) (.cst (.int 1))), (.idx (.var 2) (.cst (.int 0)))])]))])]⟩
def d_law_pick : Fn := ⟨3, ["_law_script", "_law_k", "_law_many", "_law_cell", "_law_rest", "_law_again", "_law_drawn"], [
    .asg (.nm 3) false (.ite (.cmp .ne (.var 0) (.lst [])) (.idx (.var 0) (.bin .mod (.var 1) (.blt .len [(.var 0)]))) (.cst (.int 0))),
    .par [4, 5] [false, false] [(.bin .fdiv (.var 3) (.bin .pow (.cst (.int 10)) (.cst (.int 18)))), (.bin .fdiv (.var 1) (.blt .max2 [(.blt .len [(.var 0)]), (.cst (.int 1))]))],
    .whl (.bop true [(.cmp .gt (.var 4) (.cst (.int 0))), (.cmp .gt (.var 5) (.cst (.int 0)))]) [
      .par [4, 5] [false, false] [(.bin .fdiv (.var 4) (.cst (.int 840))), (.bin .sub (.var 5) (.cst (.int 1)))]],
    .iff (.cmp .gt (.var 4) (.cst (.int 0))) [
      .ret (.bin .mod (.bin .mod (.var 4) (.cst (.int 840))) (.var 2))] [],
    .asg (.nm 6) false (.bin .mod (.bin .mul (.bin .add (.bin .mul (.var 3) (.cst (.int 31))) (.bin .mul (.cst (.int 6151)) (.bin .add (.var 1) (.cst (.int 1))))) (.cst (.int 40692))) (.cst (.int 2147483399))),
    .ret (.bin .mod (.bin .mod (.bin .add (.bin .mul (.var 6) (.var 6)) (.bin .fdiv (.var 6) (.cst (.int 31)))) (.cst (.int 2147483629))) (.var 2))]⟩
def d_law_dictionary : Fn := ⟨4, ["_law_script", "_law_at", "_law_most", "_law_lessons", "_law_words", "_law_found", "_law_k", "_law_here", "_law_many", "_law_need", "_law_j", "_law_taught"], [
    .asg (.nm 4) false (.slc (.tup [(.cst (.str (Str.ofString "wa"))), (.cst (.str (Str.ofString "wb"))), (.cst (.str (Str.ofString "wc"))), (.cst (.str (Str.ofString "wd"))), (.cst (.str (Str.ofString "we"))), (.cst (.str (Str.ofString "wf")))]) .nil (.bin .add (.cst (.int 2)) (.call "_law_pick" [(.var 0), (.var 1), (.bin .sub (.var 2) (.cst (.int 1)))]))),
    .asg (.nm 5) true (.lst []),
    .for_ (.nm 6) .r1 [(.call "_law_pick" [(.var 0), (.bin .add (.var 1) (.cst (.int 1))), (.bin .add (.var 3) (.cst (.int 1)))])] [
      .asg (.nm 7) false (.bin .add (.bin .add (.var 1) (.cst (.int 10))) (.bin .mul (.cst (.int 9)) (.var 6))),
      .asg (.nm 8) false (.idx (.lst [(.cst (.int 0)), (.cst (.int 1)), (.cst (.int 1)), (.cst (.int 2)), (.cst (.int 2)), (.cst (.int 3))]) (.call "_law_pick" [(.var 0), (.var 7), (.cst (.int 6))])),
      .asg (.nm 9) false (.lc [("_law_j", 10)] (.nm 10) .r1 [(.var 8)] .nil (.idx (.var 4) (.call "_law_pick" [(.var 0), (.bin .add (.bin .add (.var 7) (.cst (.int 1))) (.var 10)), (.blt .len [(.var 4)])]))),
      .asg (.nm 11) false (.lc [("_law_j", 10)] (.nm 10) .r1 [(.bin .add (.cst (.int 1)) (.call "_law_pick" [(.var 0), (.bin .add (.var 7) (.cst (.int 8))), (.cst (.int 2))]))] .nil (.idx (.var 4) (.call "_law_pick" [(.var 0), (.bin .add (.bin .add (.var 7) (.cst (.int 5))) (.var 10)), (.blt .len [(.var 4)])]))),
      .mut .app 5 [(.tup [(.blt .tuple [(.blt .sset [(.var 9)])]), (.blt .tuple [(.blt .sset [(.var 11)])])])]],
    .ret (.tup [(.var 4), (.blt .tuple [(.blt .sset [(.var 5)])])])]⟩
def d_law_lots : Fn := ⟨1, ["_law_words", "_law_found", "_law_word", "_law_lot"], [
    .asg (.nm 1) false (.lst [(.tup [])]),
    .for_ (.nm 2) .sq [(.var 0)] [
      .asg (.nm 1) false (.bin .add (.var 1) (.lc [("_law_lot", 3)] (.nm 3) .sq [(.var 1)] .nil (.bin .add (.var 3) (.tup [(.var 2)]))))],
    .ret (.var 1)]⟩
def d_law_odd : Fn := ⟨2, ["_law_script", "_law_at", "_law_some"], [
    .asg (.nm 2) false (.lst [(.cst .none), (.cst (.bool true)), (.cst (.str (Str.ofString ""))), (.cst (.str (Str.ofString "A"))), (.cst (.str (Str.ofString "5"))), (.lst [(.cst (.int 1))]), (.tup [(.cst .none)]), (.bin .sub (.neg (.cst (.int 1))) (.call "_law_pick" [(.var 0), (.var 1), (.cst (.int 9))])), (.cst (.str (Str.ofString "abcdefgh")))]),
    .ret (.bin .add (.var 2) (.lst [(.lst [(.lst [(.cst (.str (Str.ofString "a")))])]), (.bin .pow (.cst (.int 10)) (.cst (.int 9))), (.tup [(.cst (.str (Str.ofString "a"))), (.cst (.int 1))])]))]⟩
def d_law : Fn := ⟨1, ["_law_script", "_law_dictionary_here", "_law_rows", "_law_lessons", "_law_k", "_law_some", "_law_here", "_law_case", "_law_j", "_law_is_so", "_law_row", "_law_start", "_law_lesson", "_law_word", "_law_bad", "_law_thing"], [
    .asg (.nm 1) false (.call "_law_dictionary" [(.var 0), (.cst (.int 10)), (.cst (.int 5)), (.cst (.int 7))]),
    .par [2, 3] [false, false] [(.call "matched" [(.var 1)]), (.idx (.var 1) (.cst (.int 1)))],
    .for_ (.nm 4) .r1 [(.cst (.int 7))] [
      .par [5, 6] [true, false] [(.blt .list [(.var 2)]), (.bin .add (.cst (.int 100)) (.bin .mul (.cst (.int 9)) (.var 4)))],
      .asg (.nm 7) false (.ite (.bop true [(.cmp .gt (.var 4) (.cst (.int 0))), (.cmp .ne (.var 2) (.lst []))]) (.call "_law_pick" [(.var 0), (.var 6), (.cst (.int 5))]) (.cst (.int 9))),
      .asg (.nm 8) false (.call "_law_pick" [(.var 0), (.bin .add (.var 6) (.cst (.int 1))), (.blt .max2 [(.blt .len [(.var 2)]), (.cst (.int 1))])]),
      .iff (.cmp .eq (.var 7) (.cst (.int 0))) [
      .mut .pop 5 [(.var 8)]] [
      .iff (.cmp .lt (.var 7) (.cst (.int 3))) [
      .put 5 (.var 8) (.tup [(.idx (.idx (.var 5) (.var 8)) (.cst (.int 0))), (.idx (.var 3) (.call "_law_pick" [(.var 0), (.bin .add (.var 6) (.cst (.int 2))), (.blt .len [(.var 3)])]))])] [
      .iff (.cmp .eq (.var 7) (.cst (.int 3))) [
      .asg (.nm 5) true (.rev (.var 5))] [
      .iff (.cmp .eq (.var 7) (.cst (.int 4))) [
      .put 5 (.var 8) (.tup [(.slc (.idx (.var 1) (.cst (.int 0))) .nil (.call "_law_pick" [(.var 0), (.bin .add (.var 6) (.cst (.int 3))), (.cst (.int 4))])), (.idx (.idx (.var 5) (.var 8)) (.cst (.int 1)))])] []]]],
      .asg (.nm 9) false (.cmp .eq (.lc [("_law_row", 10)] (.nm 10) .sq [(.var 5)] .nil (.idx (.var 10) (.cst (.int 0)))) (.lc [("_law_row", 10)] (.nm 10) .sq [(.var 2)] .nil (.idx (.var 10) (.cst (.int 0))))),
      .for_ (.tp [(.nm 11), (.nm 12)]) .sq [(.var 5)] [
      .asg (.nm 9) false (.bop true [(.var 9), (.blt .all [(.lc [("_law_word", 13)] (.nm 13) .sq [(.idx (.var 12) (.cst (.int 0)))] .nil (.cmp .isin (.var 13) (.var 11)))])]),
      .asg (.nm 9) false (.bop true [(.var 9), (.nt (.blt .all [(.lc [("_law_word", 13)] (.nm 13) .sq [(.idx (.var 12) (.cst (.int 1)))] .nil (.cmp .isin (.var 13) (.var 11)))]))])],
      .iff (.cmp .ne (.call "is_matched" [(.var 1), (.var 5)]) (.var 9)) [
      .ret (.cst (.bool false))] []],
    .iff (.cmp .ne (.cmp .eq (.var 2) (.lst [])) (.cmp .eq (.call "closed_lots" [(.var 1)]) (.blt .sorted [(.call "_law_lots" [(.idx (.var 1) (.cst (.int 0)))])]))) [
      .ret (.cst (.bool false))] [],
    .asg (.nm 14) true (.bin .add (.call "_law_odd" [(.var 0), (.cst (.int 300))]) (.lst [(.bin .add (.blt .tuple [(.var 2)]) (.tup [(.cst (.int 1))])), (.bin .add (.var 2) (.lst [(.cst .none)])), (.bin .add (.var 2) (.lst [(.tup [(.tup []), (.tup [])])]))])),
    .mut .app 14 [(.bin .add (.lc [("_law_row", 10)] (.nm 10) .sq [(.var 2)] .nil (.tup [(.idx (.var 10) (.cst (.int 0))), (.cst .none)])) (.lst [(.cst (.int 1))]))],
    .mut .ext 14 [(.lst [(.bin .add (.lc [("_law_row", 10)] (.nm 10) .sq [(.var 2)] .nil (.tup [(.idx (.var 10) (.cst (.int 0))), (.tup [(.tup [(.cst (.str (Str.ofString "zz")))]), (.tup [(.cst (.str (Str.ofString "zz")))])])])) (.lst [(.tup [(.tup []), (.tup [])])])), (.bin .add (.lc [("_law_row", 10)] (.nm 10) .sq [(.var 2)] .nil (.slc (.var 10) .nil (.cst (.int 1)))) (.lst [(.tup [])]))])],
    .ret (.cmp .eq (.lc [("_law_thing", 15)] (.nm 15) .sq [(.var 14)] .nil (.call "is_matched" [(.var 1), (.var 15)])) (.bin .mul (.lst [(.cst (.bool false))]) (.blt .len [(.var 14)])))]⟩

open PySem.W L2 PySem.Spec PyProof.Rows
def tops : List Stmt := PySem.Challenge.pw_toldlots_k68_whole_matched_judged.main.body
def top (i : Nat) : Stmt := tops.getD i (.Pass ⟨0, 0, 0, 0⟩)
def l8 : LD := ⟨"is_word", d_is_word, top 8⟩
def l9 : LD := ⟨"is_rising", d_is_rising, top 9⟩
def l10 : LD := ⟨"is_part", d_is_part, top 10⟩
def l11 : LD := ⟨"is_lesson", d_is_lesson, top 11⟩
def l12 : LD := ⟨"is_dictionary", d_is_dictionary, top 12⟩
def l13 : LD := ⟨"look_dictionary", d_look_dictionary, top 13⟩
def l14 : LD := ⟨"lies_in", d_lies_in, top 14⟩
def l15 : LD := ⟨"both", d_both, top 15⟩
def l16 : LD := ⟨"taught_now", d_taught_now, top 16⟩
def l17 : LD := ⟨"known_by", d_known_by, top 17⟩
def l18 : LD := ⟨"lots_in", d_lots_in, top 18⟩
def l19 : LD := ⟨"all_lots", d_all_lots, top 19⟩
def l20 : LD := ⟨"plain_closed_lots", d_plain_closed_lots, top 20⟩
def l21 : LD := ⟨"closed_lots", d_closed_lots, top 21⟩
def l23 : LD := ⟨"plain_starts", d_plain_starts, top 23⟩
def l24 : LD := ⟨"does_stand_for", d_does_stand_for, top 24⟩
def l25 : LD := ⟨"matched", d_matched, top 25⟩
def l26 : LD := ⟨"is_matched", d_is_matched, top 26⟩
def l28 : LD := ⟨"_law_pick", d_law_pick, top 28⟩
def l29 : LD := ⟨"_law_dictionary", d_law_dictionary, top 29⟩
def l30 : LD := ⟨"_law_lots", d_law_lots, top 30⟩
def l31 : LD := ⟨"_law_odd", d_law_odd, top 31⟩
def l32 : LD := ⟨"law", d_law, top 32⟩
def LK : LL := ⟨[l8, l9, l10, l11, l12, l13, l14, l15, l16, l17, l18, l19, l20, l21, l23, l24, l25, l26, l28, l29, l30, l31, l32], [("SMALL", .str (Str.ofString "abcdefghijklmnopqrstuvwxyz")), ("LONGEST", .int 6), ("MOST_WORDS", .int 8), ("MOST_LESSONS", .int 12)], ["ToldError", "NoDictionary"]⟩
theorem lok : LK.ok = true := by decide +kernel
theorem b8 : l8.Bnd := fun _ _ _ _ _ _ us hl => match us, hl with | [_], _ => rfl
theorem b9 : l9.Bnd := fun _ _ _ _ _ _ us hl => match us, hl with | [_], _ => rfl
theorem b10 : l10.Bnd := fun _ _ _ _ _ _ us hl => match us, hl with | [_, _], _ => rfl
theorem b11 : l11.Bnd := fun _ _ _ _ _ _ us hl => match us, hl with | [_, _], _ => rfl
theorem b12 : l12.Bnd := fun _ _ _ _ _ _ us hl => match us, hl with | [_], _ => rfl
theorem b13 : l13.Bnd := fun _ _ _ _ _ _ us hl => match us, hl with | [_], _ => rfl
theorem b14 : l14.Bnd := fun _ _ _ _ _ _ us hl => match us, hl with | [_, _], _ => rfl
theorem b15 : l15.Bnd := fun _ _ _ _ _ _ us hl => match us, hl with | [_, _], _ => rfl
theorem b16 : l16.Bnd := fun _ _ _ _ _ _ us hl => match us, hl with | [_, _], _ => rfl
theorem b17 : l17.Bnd := fun _ _ _ _ _ _ us hl => match us, hl with | [_, _], _ => rfl
theorem b18 : l18.Bnd := fun _ _ _ _ _ _ us hl => match us, hl with | [_, _], _ => rfl
theorem b19 : l19.Bnd := fun _ _ _ _ _ _ us hl => match us, hl with | [_], _ => rfl
theorem b20 : l20.Bnd := fun _ _ _ _ _ _ us hl => match us, hl with | [_], _ => rfl
theorem b21 : l21.Bnd := fun _ _ _ _ _ _ us hl => match us, hl with | [_], _ => rfl
theorem b23 : l23.Bnd := fun _ _ _ _ _ _ us hl => match us, hl with | [_], _ => rfl
theorem b24 : l24.Bnd := fun _ _ _ _ _ _ us hl => match us, hl with | [_, _], _ => rfl
theorem b25 : l25.Bnd := fun _ _ _ _ _ _ us hl => match us, hl with | [_], _ => rfl
theorem b26 : l26.Bnd := fun _ _ _ _ _ _ us hl => match us, hl with | [_, _], _ => rfl
theorem b28 : l28.Bnd := fun _ _ _ _ _ _ us hl => match us, hl with | [_, _, _], _ => rfl
theorem b29 : l29.Bnd := fun _ _ _ _ _ _ us hl => match us, hl with | [_, _, _, _], _ => rfl
theorem b30 : l30.Bnd := fun _ _ _ _ _ _ us hl => match us, hl with | [_], _ => rfl
theorem b31 : l31.Bnd := fun _ _ _ _ _ _ us hl => match us, hl with | [_, _], _ => rfl
theorem b32 : l32.Bnd := fun _ _ _ _ _ _ us hl => match us, hl with | [_], _ => rfl
theorem bn : ∀ x ∈ LK.ds, x.Bnd := by
  intro x hx
  simp only [LK, List.mem_cons, List.not_mem_nil, or_false] at hx
  rcases hx with rfl | rfl | rfl | rfl | rfl | rfl | rfl | rfl | rfl | rfl | rfl | rfl | rfl | rfl | rfl | rfl | rfl | rfl | rfl | rfl | rfl | rfl | rfl
  · exact b8
  · exact b9
  · exact b10
  · exact b11
  · exact b12
  · exact b13
  · exact b14
  · exact b15
  · exact b16
  · exact b17
  · exact b18
  · exact b19
  · exact b20
  · exact b21
  · exact b23
  · exact b24
  · exact b25
  · exact b26
  · exact b28
  · exact b29
  · exact b30
  · exact b31
  · exact b32
end Tdl.K68
namespace Tdl.K68
open PySem PySem.W L2 PySem.Spec PyProof.Rows
abbrev R : PySem.W.OpenRow := PySem.W.OpenLaw.row PySem.Challenge.rw_toldlots_k68_whole_matched_judged
abbrev hk : PySem.W.Hook := He.hookD 4 LK.fa LK.fn
def ob (s : PySem.W.SharedT) : He.AlD := He.obsDG 4 LK.fa LK.fn (HandSHeadRun.getT s)
theorem ob_eq (s : PySem.W.SharedT) : ob s = hk.obs s.abs := He.obsDG_eq (HandSHeadRun.getT_eq s)
def names : List Str := (["ToldError", "NoDictionary", "SMALL", "LONGEST", "MOST_WORDS", "MOST_LESSONS", "is_word", "is_rising", "is_part", "is_lesson", "is_dictionary", "look_dictionary", "lies_in", "both", "taught_now", "known_by", "lots_in", "all_lots", "plain_closed_lots", "closed_lots", "plain_starts", "does_stand_for", "matched", "is_matched", "_law_pick", "_law_dictionary", "_law_lots", "_law_odd"] : List String).map Str.ofString
theorem run (w : World) : HandSHeadRun.RunEq R (PySem.W.view R.prog [32]) hk ob 3000 names w := by
  intro os
  kernel_rfl
end Tdl.K68
open PySem PySem.W PySem.Calls PyProof.Rows
theorem Tdl.K68.holds (sy : Tdl.Says Tdl.K68.LK 100000 40) : PySem.Challenge.rw_toldlots_k68_whole_matched_judged.Holds := by
  w_on; o_law
  refine HandSHeadRun.head_any (r := OpenLaw.row PySem.Challenge.rw_toldlots_k68_whole_matched_judged) (q := view (OpenLaw.row PySem.Challenge.rw_toldlots_k68_whole_matched_judged).prog [32]) (H := Tdl.K68.hk) (ob := Tdl.K68.ob) (M := 3000) (loose := Tdl.K68.names) (d := HandSHeadRun.topDef (OpenLaw.row PySem.Challenge.rw_toldlots_k68_whole_matched_judged).prog 32) (kwd := []) Tdl.K68.ob_eq
    (by kernel_rfl) (fun s => by kernel_rfl) Tdl.K68.run (by kernel_rfl) (by kernel_rfl) (by kernel_rfl) (by rfl) (by first | assumption | decide +kernel) (by decide +kernel) ⟨rfl, rfl, rfl, rfl, rfl, by decide +kernel⟩ ?hw ?hc
  case hw => w_witness2
  case hc => exact Tdl.law_end (l := PySem.Challenge.rw_toldlots_k68_whole_matched_judged) (x := Tdl.K68.l32) (arg := "_law_script") rfl (by kernel_rfl) ⟨rfl, by decide, by decide⟩ Tdl.K68.lok Tdl.K68.bn (by simp [Tdl.K68.LK]) rfl (by kernel_rfl) (by kernel_rfl) (by kernel_rfl) sy
/-! TpAst: the own trees of the defs. -/
namespace Tdl.A
open PySem
/-- is_word: k01 k02 k04 k05 k07 k08 k10 k11 k13 k14 k17 k20 k45 k50 k52 k54 k60 k61 k64 k66 k68 k80 k85 k90 k99 -/
def is_word : Fn := ⟨1, ["thing", "sign"], [
    .ret (.bop true [(.isi (.var 0) .str), (.chn .le .le (.cst (.int 1)) (.blt .len [(.var 0)]) (.glb "LONGEST" (.int 6))), (.blt .all [(.lc [("sign", 1)] (.nm 1) .sq [(.var 0)] .nil (.cmp .isin (.var 1) (.glb "SMALL" (.str (Str.ofString "abcdefghijklmnopqrstuvwxyz")))))])])]⟩
/-- is_rising: k01 k02 k04 k05 k07 k08 k10 k11 k13 k14 k17 k20 k45 k50 k52 k54 k60 k61 k64 k66 k68 k80 k85 k90 k99 -/
def is_rising : Fn := ⟨1, ["things", "one", "other"], [
    .ret (.blt .all [(.lc [("one", 1), ("other", 2)] (.tp [(.nm 1), (.nm 2)]) .zp [(.var 0), (.slc (.var 0) (.cst (.int 1)) .nil)] .nil (.cmp .lt (.var 1) (.var 2)))])]⟩
/-- is_part: k01 k02 k04 k05 k07 k08 k10 k11 k13 k14 k17 k20 k45 k50 k52 k54 k60 k61 k64 k66 k68 k80 k85 k90 k99 -/
def is_part : Fn := ⟨2, ["words", "thing", "word"], [
    .ret (.bop true [(.isi (.var 1) .tuple), (.blt .all [(.lc [("word", 2)] (.nm 2) .sq [(.var 1)] .nil (.bop true [(.call "is_word" [(.var 2)]), (.cmp .isin (.var 2) (.var 0))]))]), (.call "is_rising" [(.var 1)])])]⟩
/-- is_lesson: k01 k02 k04 k05 k07 k08 k10 k11 k13 k14 k17 k20 k45 k50 k52 k54 k60 k61 k64 k66 k68 k80 k85 k90 k99 -/
def is_lesson : Fn := ⟨2, ["words", "thing"], [
    .iff (.bop false [(.nt (.isi (.var 1) .tuple)), (.cmp .ne (.blt .len [(.var 1)]) (.cst (.int 2))), (.nt (.call "is_part" [(.var 0), (.idx (.var 1) (.cst (.int 0)))])), (.nt (.call "is_part" [(.var 0), (.idx (.var 1) (.cst (.int 1)))]))]) [
      .ret (.cst (.bool false))] [],
    .ret (.cmp .ne (.idx (.var 1) (.cst (.int 1))) (.tup []))]⟩
/-- is_dictionary: k01 k02 k04 k05 k07 k08 k10 k11 k13 k14 k17 k20 k45 k50 k52 k54 k60 k61 k64 k66 k68 k80 k85 k90 k99 -/
def is_dictionary : Fn := ⟨1, ["thing", "part", "words", "lessons", "word", "lesson"], [
    .iff (.bop false [(.nt (.isi (.var 0) .tuple)), (.cmp .ne (.blt .len [(.var 0)]) (.cst (.int 2))), (.nt (.blt .all [(.lc [("part", 1)] (.nm 1) .sq [(.var 0)] .nil (.isi (.var 1) .tuple))]))]) [
      .ret (.cst (.bool false))] [],
    .asg (.tp [(.nm 2), (.nm 3)]) false (.var 0),
    .iff (.bop false [(.nt (.chn .le .le (.cst (.int 1)) (.blt .len [(.var 2)]) (.glb "MOST_WORDS" (.int 8)))), (.nt (.blt .all [(.lc [("word", 4)] (.nm 4) .sq [(.var 2)] .nil (.call "is_word" [(.var 4)]))])), (.nt (.call "is_rising" [(.var 2)]))]) [
      .ret (.cst (.bool false))] [],
    .iff (.bop false [(.cmp .gt (.blt .len [(.var 3)]) (.glb "MOST_LESSONS" (.int 12))), (.nt (.blt .all [(.lc [("lesson", 5)] (.nm 5) .sq [(.var 3)] .nil (.call "is_lesson" [(.var 2), (.var 5)]))]))]) [
      .ret (.cst (.bool false))] [],
    .ret (.call "is_rising" [(.var 3)])]⟩
/-- look_dictionary: k01 k02 k04 k05 k07 k08 k10 k11 k13 k14 k17 k20 k45 k50 k52 k54 k60 k61 k64 k66 k68 k80 k85 k90 k99 -/
def look_dictionary : Fn := ⟨1, ["thing"], [
    .iff (.nt (.call "is_dictionary" [(.var 0)])) [
      .rse "NoDictionary"] []]⟩
/-- is_lot_of: k01 k02 k04 k05 k07 k08 k10 k11 k13 k14 k17 k20 k45 k50 k60 k61 k66 k80 k85 k90 k99 -/
def is_lot_of : Fn := ⟨2, ["dictionary", "thing"], [
    .ret (.call "is_part" [(.idx (.var 0) (.cst (.int 0))), (.var 1)])]⟩
/-- is_lot: k01 -/
def is_lot : Fn := ⟨2, ["dictionary", "thing"], [
    .exq (.call "look_dictionary" [(.var 0)]),
    .ret (.call "is_lot_of" [(.var 0), (.var 1)])]⟩
/-- look_lot: k01 k02 k04 k05 k07 k08 k11 k13 k14 k17 k20 k45 k50 k60 k61 k66 k80 k85 k90 k99 -/
def look_lot : Fn := ⟨2, ["dictionary", "thing"], [
    .iff (.nt (.call "is_lot_of" [(.var 0), (.var 1)])) [
      .rse "NoLot"] []]⟩
/-- lies_in: k01 k02 k04 k05 k07 k08 k10 k11 k13 k14 k17 k45 k50 k52 k54 k60 k64 k66 k68 k80 k85 k90 k99 -/
def lies_in : Fn := ⟨2, ["one", "other", "word"], [
    .ret (.blt .all [(.lc [("word", 2)] (.nm 2) .sq [(.var 0)] .nil (.cmp .isin (.var 2) (.var 1)))])]⟩
/-- both: k01 k02 k04 k05 k07 k08 k10 k11 k13 k14 k17 k45 k50 k52 k54 k60 k64 k66 k68 k80 k85 k90 k99 -/
def both : Fn := ⟨2, ["one", "other", "word"], [
    .ret (.blt .tuple [(.blt .sorted [(.dc false [("word", 2)] (.nm 2) .sq [(.bin .add (.var 0) (.var 1))] (.var 2) (.cst (.bool true)))])])]⟩
/-- taught_now: k01 k02 k04 k05 k07 k08 k10 k11 k13 k14 k17 k45 k50 k52 k54 k60 k64 k66 k68 k80 k85 k90 k99 -/
def taught_now : Fn := ⟨2, ["lessons", "lot", "made", "need", "taught"], [
    .asg (.nm 2) false (.var 1),
    .for_ (.tp [(.nm 3), (.nm 4)]) .sq [(.var 0)] [
      .iff (.call "lies_in" [(.var 3), (.var 1)]) [
      .asg (.nm 2) false (.call "both" [(.var 2), (.var 4)])] []],
    .ret (.var 2)]⟩
/-- known_by: k01 k02 k04 k05 k07 k08 k10 k11 k14 k17 k45 k50 k52 k54 k60 k66 k68 k80 k85 k90 k99 -/
def known_by : Fn := ⟨2, ["lessons", "lot", "then"], [
    .asg (.nm 2) false (.call "taught_now" [(.var 0), (.var 1)]),
    .whl (.cmp .ne (.var 2) (.var 1)) [
      .par [1, 2] [false, false] [(.var 2), (.call "taught_now" [(.var 0), (.var 2)])]],
    .ret (.var 1)]⟩
/-- known: k01 k02 k05 k11 k14 k17 k50 k66 k99 -/
def known : Fn := ⟨2, ["dictionary", "lot"], [
    .exq (.call "look_dictionary" [(.var 0)]),
    .exq (.call "look_lot" [(.var 0), (.var 1)]),
    .ret (.call "known_by" [(.idx (.var 0) (.cst (.int 1))), (.var 1)])]⟩
/-- is_closed: k01 k02 k66 -/
def is_closed : Fn := ⟨2, ["dictionary", "lot"], [
    .exq (.call "look_dictionary" [(.var 0)]),
    .exq (.call "look_lot" [(.var 0), (.var 1)]),
    .ret (.cmp .eq (.call "taught_now" [(.idx (.var 0) (.cst (.int 1))), (.var 1)]) (.var 1))]⟩
/-- lots_in: k01 k02 k04 k05 k07 k08 k10 k11 k13 k14 k45 k50 k52 k54 k64 k66 k68 k80 k85 k90 k99 -/
def lots_in : Fn := ⟨2, ["words", "many", "made", "at", "word", "more"], [
    .iff (.cmp .eq (.var 1) (.cst (.int 0))) [
      .ret (.lst [(.tup [])])] [],
    .asg (.nm 2) true (.lst []),
    .for_ (.tp [(.nm 3), (.nm 4)]) .en [(.var 0)] [
      .mut .ext 2 [(.lc [("more", 5)] (.nm 5) .sq [(.call "lots_in" [(.slc (.var 0) (.bin .add (.var 3) (.cst (.int 1))) .nil), (.bin .sub (.var 1) (.cst (.int 1)))])] .nil (.bin .add (.tup [(.var 4)]) (.var 5)))]],
    .retv 2]⟩
/-- all_lots: k01 k02 k04 k05 k07 k08 k10 k11 k14 k45 k50 k54 k64 k66 k68 k80 k85 k90 k99 -/
def all_lots : Fn := ⟨1, ["words", "many", "lot"], [
    .ret (.lc2 [("many", 1), ("lot", 2)] (.nm 1) .r1 [(.bin .add (.blt .len [(.var 0)]) (.cst (.int 1)))] (.nm 2) .sq [(.call "lots_in" [(.var 0), (.var 1)])] (.var 2))]⟩
/-- plain_closed_lots: k01 k02 k45 k64 k66 k68 k80 k85 k90 k99 -/
def plain_closed_lots : Fn := ⟨1, ["dictionary", "lot"], [
    .ret (.blt .sorted [(.lc [("lot", 1)] (.nm 1) .sq [(.call "all_lots" [(.idx (.var 0) (.cst (.int 0)))])] (.cmp .eq (.call "taught_now" [(.idx (.var 0) (.cst (.int 1))), (.var 1)]) (.var 1)) (.var 1))])]⟩
/-- closed_lots: k01 k02 k45 k66 k68 k85 k90 -/
def closed_lots : Fn := ⟨1, ["dictionary"], [
    .exq (.call "look_dictionary" [(.var 0)]),
    .ret (.call "plain_closed_lots" [(.var 0)])]⟩
/-- _law_drawn: k01 k02 k04 k05 k07 k08 k10 k11 k13 k14 k17 k20 k45 -/
def law_drawn : Fn := ⟨3, ["_law_script", "_law_k", "_law_many", "_law_cell", "_law_turn", "_law_rest"], [
    .asg (.nm 3) false (.bin .mul (.cst (.int 7)) (.var 1)),
    .iff (.cmp .ne (.var 0) (.lst [])) [
      .asg (.nm 3) false (.idx (.var 0) (.bin .mod (.var 1) (.blt .len [(.var 0)]))),
      .asg (.nm 4) false (.bin .fdiv (.var 1) (.blt .len [(.var 0)])),
      .iff (.bop true [(.cmp .ge (.var 3) (.bin .pow (.cst (.int 10)) (.cst (.int 18)))), (.cmp .lt (.var 4) (.cst (.int 60)))]) [
      .asg (.nm 5) false (.bin .fdiv (.var 3) (.bin .pow (.cst (.int 10)) (.cst (.int 18)))),
      .whl (.bop true [(.cmp .gt (.var 5) (.cst (.int 0))), (.cmp .gt (.var 4) (.cst (.int 0)))]) [
      .asg (.nm 5) false (.bin .fdiv (.var 5) (.cst (.int 1000000))),
      .asg (.nm 4) false (.bin .sub (.var 4) (.cst (.int 1)))],
      .iff (.cmp .gt (.var 5) (.cst (.int 0))) [
      .ret (.bin .mod (.bin .mod (.var 5) (.cst (.int 1000000))) (.var 2))] []] [],
      .asg (.nm 3) false (.bin .add (.var 3) (.bin .mul (.cst (.int 6553)) (.bin .fdiv (.var 1) (.blt .len [(.var 0)]))))] [],
    .asg (.nm 3) false (.bin .mod (.bin .add (.bin .mul (.bin .mod (.var 3) (.cst (.int 2147483563))) (.cst (.int 69069))) (.bin .mul (.cst (.int 104723)) (.bin .add (.var 1) (.cst (.int 1))))) (.cst (.int 2147483563))),
    .asg (.nm 3) false (.bin .mod (.bin .add (.bin .mul (.var 3) (.var 3)) (.bin .fdiv (.var 3) (.cst (.int 3)))) (.cst (.int 2147483399))),
    .ret (.bin .mod (.bin .fdiv (.bin .mod (.bin .add (.bin .mul (.var 3) (.var 3)) (.bin .fdiv (.var 3) (.cst (.int 7)))) (.cst (.int 2147483647))) (.cst (.int 11))) (.var 2))]⟩
/-- _law_dictionary: k01 k02 k04 k08 k10 k11 k13 k14 k17 k20 k45 -/
def law_dictionary : Fn := ⟨3, ["_law_script", "_law_at", "_law_most", "_law_words", "_law_lessons", "_law_k", "_law_here", "_law_many", "_law_need", "_law_n", "_law_more", "_law_taught"], [
    .asg (.nm 3) false (.slc (.lst [(.cst (.str (Str.ofString "art"))), (.cst (.str (Str.ofString "bee"))), (.cst (.str (Str.ofString "cot"))), (.cst (.str (Str.ofString "dew"))), (.cst (.str (Str.ofString "elm"))), (.cst (.str (Str.ofString "fig")))]) .nil (.bin .add (.cst (.int 1)) (.call "_law_drawn" [(.var 0), (.var 1), (.var 2)]))),
    .asg (.nm 4) true (.lst []),
    .for_ (.nm 5) .r1 [(.call "_law_drawn" [(.var 0), (.bin .add (.var 1) (.cst (.int 1))), (.cst (.int 8))])] [
      .par [6, 7] [false, false] [(.bin .add (.bin .add (.var 1) (.cst (.int 2))) (.bin .mul (.cst (.int 7)) (.var 5))), (.blt .len [(.var 3)])],
      .asg (.nm 8) false (.lc [("_law_n", 9)] (.nm 9) .r1 [(.bin .fdiv (.call "_law_drawn" [(.var 0), (.var 6), (.cst (.int 7))]) (.cst (.int 2)))] .nil (.idx (.var 3) (.call "_law_drawn" [(.var 0), (.bin .add (.bin .add (.var 6) (.cst (.int 1))) (.var 9)), (.var 7)]))),
      .asg (.nm 10) false (.bin .add (.cst (.int 1)) (.bin .fdiv (.call "_law_drawn" [(.var 0), (.bin .add (.var 6) (.cst (.int 4))), (.cst (.int 5))]) (.cst (.int 4)))),
      .asg (.nm 11) false (.lc [("_law_n", 9)] (.nm 9) .r1 [(.var 10)] .nil (.idx (.var 3) (.call "_law_drawn" [(.var 0), (.bin .add (.bin .add (.var 6) (.cst (.int 5))) (.var 9)), (.var 7)]))),
      .mut .app 4 [(.tup [(.blt .tuple [(.blt .sset [(.var 8)])]), (.blt .tuple [(.blt .sset [(.var 11)])])])]],
    .ret (.tup [(.blt .tuple [(.var 3)]), (.blt .tuple [(.blt .sset [(.var 4)])])])]⟩
/-- _law_dictionary: k05 -/
def law_dictionary_k05 : Fn := ⟨3, ["_law_script", "_law_at", "_law_most", "_law_words_here", "_law_lessons", "_law_k", "_law_here", "_law_many", "_law_need", "_law_n", "_law_more", "_law_taught"], [
    .asg (.nm 3) false (.slc (.lst [(.cst (.str (Str.ofString "art"))), (.cst (.str (Str.ofString "bee"))), (.cst (.str (Str.ofString "cot"))), (.cst (.str (Str.ofString "dew"))), (.cst (.str (Str.ofString "elm"))), (.cst (.str (Str.ofString "fig")))]) .nil (.bin .add (.cst (.int 1)) (.call "_law_drawn" [(.var 0), (.var 1), (.var 2)]))),
    .asg (.nm 4) true (.lst []),
    .for_ (.nm 5) .r1 [(.call "_law_drawn" [(.var 0), (.bin .add (.var 1) (.cst (.int 1))), (.cst (.int 8))])] [
      .par [6, 7] [false, false] [(.bin .add (.bin .add (.var 1) (.cst (.int 2))) (.bin .mul (.cst (.int 7)) (.var 5))), (.blt .len [(.var 3)])],
      .asg (.nm 8) false (.lc [("_law_n", 9)] (.nm 9) .r1 [(.bin .fdiv (.call "_law_drawn" [(.var 0), (.var 6), (.cst (.int 7))]) (.cst (.int 2)))] .nil (.idx (.var 3) (.call "_law_drawn" [(.var 0), (.bin .add (.bin .add (.var 6) (.cst (.int 1))) (.var 9)), (.var 7)]))),
      .asg (.nm 10) false (.bin .add (.cst (.int 1)) (.bin .fdiv (.call "_law_drawn" [(.var 0), (.bin .add (.var 6) (.cst (.int 4))), (.cst (.int 5))]) (.cst (.int 4)))),
      .asg (.nm 11) false (.lc [("_law_n", 9)] (.nm 9) .r1 [(.var 10)] .nil (.idx (.var 3) (.call "_law_drawn" [(.var 0), (.bin .add (.bin .add (.var 6) (.cst (.int 5))) (.var 9)), (.var 7)]))),
      .mut .app 4 [(.tup [(.blt .tuple [(.blt .sset [(.var 8)])]), (.blt .tuple [(.blt .sset [(.var 11)])])])]],
    .ret (.tup [(.blt .tuple [(.var 3)]), (.blt .tuple [(.blt .sset [(.var 4)])])])]⟩
/-- _law_dictionary: k07 -/
def law_dictionary_k07 : Fn := ⟨3, ["_law_script", "_law_at", "_law_most_here", "_law_words", "_law_lessons", "_law_k", "_law_here", "_law_many", "_law_need", "_law_n", "_law_more", "_law_taught"], [
    .asg (.nm 3) false (.slc (.lst [(.cst (.str (Str.ofString "art"))), (.cst (.str (Str.ofString "bee"))), (.cst (.str (Str.ofString "cot"))), (.cst (.str (Str.ofString "dew"))), (.cst (.str (Str.ofString "elm"))), (.cst (.str (Str.ofString "fig")))]) .nil (.bin .add (.cst (.int 1)) (.call "_law_drawn" [(.var 0), (.var 1), (.var 2)]))),
    .asg (.nm 4) true (.lst []),
    .for_ (.nm 5) .r1 [(.call "_law_drawn" [(.var 0), (.bin .add (.var 1) (.cst (.int 1))), (.cst (.int 8))])] [
      .par [6, 7] [false, false] [(.bin .add (.bin .add (.var 1) (.cst (.int 2))) (.bin .mul (.cst (.int 7)) (.var 5))), (.blt .len [(.var 3)])],
      .asg (.nm 8) false (.lc [("_law_n", 9)] (.nm 9) .r1 [(.bin .fdiv (.call "_law_drawn" [(.var 0), (.var 6), (.cst (.int 7))]) (.cst (.int 2)))] .nil (.idx (.var 3) (.call "_law_drawn" [(.var 0), (.bin .add (.bin .add (.var 6) (.cst (.int 1))) (.var 9)), (.var 7)]))),
      .asg (.nm 10) false (.bin .add (.cst (.int 1)) (.bin .fdiv (.call "_law_drawn" [(.var 0), (.bin .add (.var 6) (.cst (.int 4))), (.cst (.int 5))]) (.cst (.int 4)))),
      .asg (.nm 11) false (.lc [("_law_n", 9)] (.nm 9) .r1 [(.var 10)] .nil (.idx (.var 3) (.call "_law_drawn" [(.var 0), (.bin .add (.bin .add (.var 6) (.cst (.int 5))) (.var 9)), (.var 7)]))),
      .mut .app 4 [(.tup [(.blt .tuple [(.blt .sset [(.var 8)])]), (.blt .tuple [(.blt .sset [(.var 11)])])])]],
    .ret (.tup [(.blt .tuple [(.var 3)]), (.blt .tuple [(.blt .sset [(.var 4)])])])]⟩
/-- _law_dictionary: k50 k52 k54 k60 k61 k66 k68 k80 k90 k99 -/
def law_dictionary_k50 : Fn := ⟨4, ["_law_script", "_law_at", "_law_most", "_law_lessons", "_law_words", "_law_found", "_law_k", "_law_here", "_law_many", "_law_need", "_law_j", "_law_taught"], [
    .asg (.nm 4) false (.slc (.tup [(.cst (.str (Str.ofString "wa"))), (.cst (.str (Str.ofString "wb"))), (.cst (.str (Str.ofString "wc"))), (.cst (.str (Str.ofString "wd"))), (.cst (.str (Str.ofString "we"))), (.cst (.str (Str.ofString "wf")))]) .nil (.bin .add (.cst (.int 2)) (.call "_law_pick" [(.var 0), (.var 1), (.bin .sub (.var 2) (.cst (.int 1)))]))),
    .asg (.nm 5) true (.lst []),
    .for_ (.nm 6) .r1 [(.call "_law_pick" [(.var 0), (.bin .add (.var 1) (.cst (.int 1))), (.bin .add (.var 3) (.cst (.int 1)))])] [
      .asg (.nm 7) false (.bin .add (.bin .add (.var 1) (.cst (.int 10))) (.bin .mul (.cst (.int 9)) (.var 6))),
      .asg (.nm 8) false (.idx (.lst [(.cst (.int 0)), (.cst (.int 1)), (.cst (.int 1)), (.cst (.int 2)), (.cst (.int 2)), (.cst (.int 3))]) (.call "_law_pick" [(.var 0), (.var 7), (.cst (.int 6))])),
      .asg (.nm 9) false (.lc [("_law_j", 10)] (.nm 10) .r1 [(.var 8)] .nil (.idx (.var 4) (.call "_law_pick" [(.var 0), (.bin .add (.bin .add (.var 7) (.cst (.int 1))) (.var 10)), (.blt .len [(.var 4)])]))),
      .asg (.nm 11) false (.lc [("_law_j", 10)] (.nm 10) .r1 [(.bin .add (.cst (.int 1)) (.call "_law_pick" [(.var 0), (.bin .add (.var 7) (.cst (.int 8))), (.cst (.int 2))]))] .nil (.idx (.var 4) (.call "_law_pick" [(.var 0), (.bin .add (.bin .add (.var 7) (.cst (.int 5))) (.var 10)), (.blt .len [(.var 4)])]))),
      .mut .app 5 [(.tup [(.blt .tuple [(.blt .sset [(.var 9)])]), (.blt .tuple [(.blt .sset [(.var 11)])])])]],
    .ret (.tup [(.var 4), (.blt .tuple [(.blt .sset [(.var 5)])])])]⟩
/-- _law_dictionary: k64 -/
def law_dictionary_k64 : Fn := ⟨4, ["_law_script", "_law_at", "_law_most_here", "_law_lessons", "_law_words", "_law_found", "_law_k", "_law_here", "_law_many", "_law_need", "_law_j", "_law_taught"], [
    .asg (.nm 4) false (.slc (.tup [(.cst (.str (Str.ofString "wa"))), (.cst (.str (Str.ofString "wb"))), (.cst (.str (Str.ofString "wc"))), (.cst (.str (Str.ofString "wd"))), (.cst (.str (Str.ofString "we"))), (.cst (.str (Str.ofString "wf")))]) .nil (.bin .add (.cst (.int 2)) (.call "_law_pick" [(.var 0), (.var 1), (.bin .sub (.var 2) (.cst (.int 1)))]))),
    .asg (.nm 5) true (.lst []),
    .for_ (.nm 6) .r1 [(.call "_law_pick" [(.var 0), (.bin .add (.var 1) (.cst (.int 1))), (.bin .add (.var 3) (.cst (.int 1)))])] [
      .asg (.nm 7) false (.bin .add (.bin .add (.var 1) (.cst (.int 10))) (.bin .mul (.cst (.int 9)) (.var 6))),
      .asg (.nm 8) false (.idx (.lst [(.cst (.int 0)), (.cst (.int 1)), (.cst (.int 1)), (.cst (.int 2)), (.cst (.int 2)), (.cst (.int 3))]) (.call "_law_pick" [(.var 0), (.var 7), (.cst (.int 6))])),
      .asg (.nm 9) false (.lc [("_law_j", 10)] (.nm 10) .r1 [(.var 8)] .nil (.idx (.var 4) (.call "_law_pick" [(.var 0), (.bin .add (.bin .add (.var 7) (.cst (.int 1))) (.var 10)), (.blt .len [(.var 4)])]))),
      .asg (.nm 11) false (.lc [("_law_j", 10)] (.nm 10) .r1 [(.bin .add (.cst (.int 1)) (.call "_law_pick" [(.var 0), (.bin .add (.var 7) (.cst (.int 8))), (.cst (.int 2))]))] .nil (.idx (.var 4) (.call "_law_pick" [(.var 0), (.bin .add (.bin .add (.var 7) (.cst (.int 5))) (.var 10)), (.blt .len [(.var 4)])]))),
      .mut .app 5 [(.tup [(.blt .tuple [(.blt .sset [(.var 9)])]), (.blt .tuple [(.blt .sset [(.var 11)])])])]],
    .ret (.tup [(.var 4), (.blt .tuple [(.blt .sset [(.var 5)])])])]⟩
/-- _law_lots: k01 k02 k04 k07 k08 k10 k11 k13 k14 k20 k45 -/
def law_lots : Fn := ⟨1, ["_law_words", "_law_lots_here", "_law_word", "_law_lot"], [
    .asg (.nm 1) false (.lst [(.tup [])]),
    .for_ (.nm 2) .sq [(.var 0)] [
      .asg (.nm 1) false (.bin .add (.var 1) (.lc [("_law_lot", 3)] (.nm 3) .sq [(.var 1)] .nil (.bin .add (.var 3) (.tup [(.var 2)]))))],
    .ret (.srt "_law_lot" 3 (.var 1) (.tup [(.blt .len [(.var 3)]), (.var 3)]))]⟩
/-- _law_lots: k05 -/
def law_lots_k05 : Fn := ⟨1, ["_law_words_here", "_law_lots_here", "_law_word", "_law_lot"], [
    .asg (.nm 1) false (.lst [(.tup [])]),
    .for_ (.nm 2) .sq [(.var 0)] [
      .asg (.nm 1) false (.bin .add (.var 1) (.lc [("_law_lot", 3)] (.nm 3) .sq [(.var 1)] .nil (.bin .add (.var 3) (.tup [(.var 2)]))))],
    .ret (.srt "_law_lot" 3 (.var 1) (.tup [(.blt .len [(.var 3)]), (.var 3)]))]⟩
/-- _law_lots: k50 k52 k54 k64 k66 k68 -/
def law_lots_k50 : Fn := ⟨1, ["_law_words", "_law_found", "_law_word", "_law_lot"], [
    .asg (.nm 1) false (.lst [(.tup [])]),
    .for_ (.nm 2) .sq [(.var 0)] [
      .asg (.nm 1) false (.bin .add (.var 1) (.lc [("_law_lot", 3)] (.nm 3) .sq [(.var 1)] .nil (.bin .add (.var 3) (.tup [(.var 2)]))))],
    .ret (.var 1)]⟩
/-- _law_no: k01 -/
def law_no : Fn := ⟨3, ["_law_way", "_law_dictionary_here", "_law_lot", "e"], [
    .tri [
      .iff (.cmp .lt (.var 0) (.cst (.int 3))) [
      .exq (.calli ["known", "is_closed", "is_lot"] (.var 0) [(.var 1), (.var 2)])] [
      .exq (.call "closed_lots" [(.var 1)])]] 3 [
      .ret (.mth .index (.lst [(.isx 3 "NoDictionary"), (.isx 3 "NoLot")]) [(.cst (.bool true))])],
    .ret (.cst .none)]⟩
/-- _law_no: k04 -/
def law_no_k04 : Fn := ⟨4, ["_law_way", "_law_dictionary_here", "_law_lot", "_law_word", "e"], [
    .tri [
      .iff (.cmp .lt (.var 0) (.cst (.int 2))) [
      .exq (.calli ["learning", "circle_for"] (.var 0) [(.var 1), (.var 2), (.var 3)])] [
      .iff (.cmp .eq (.var 0) (.cst (.int 2))) [
      .exq (.call "is_learning" [(.var 1), (.var 2), (.var 3), (.cst .none)])] [
      .iff (.cmp .eq (.var 0) (.cst (.int 3))) [
      .exq (.call "greatest_circle" [(.var 1), (.var 2)])] [
      .exq (.call "is_circle" [(.var 1), (.var 2)])]]]] 4 [
      .ret (.mth .index (.lst [(.isx 4 "NoDictionary"), (.isx 4 "NoLot"), (.isx 4 "NoWord")]) [(.cst (.bool true))])],
    .ret (.cst .none)]⟩
/-- _law_no: k07 -/
def law_no_k07 : Fn := ⟨3, ["_law_way", "_law_dictionary_here", "_law_lot", "e"], [
    .tri [
      .iff (.cmp .lt (.var 0) (.cst (.int 5))) [
      .exq (.calli ["least_ground", "grounds", "always", "most_apart", "gap"] (.var 0) [(.var 1)])] [
      .exq (.calli ["is_ground", "are_apart", "missed"] (.bin .sub (.var 0) (.cst (.int 5))) [(.var 1), (.var 2)])]] 3 [
      .ret (.mth .index (.lst [(.isx 3 "NoDictionary"), (.isx 3 "NoLot")]) [(.cst (.bool true))])],
    .ret (.cst .none)]⟩
/-- _law_no: k10 -/
def law_no_k10 : Fn := ⟨4, ["_law_way", "_law_dictionary_here", "_law_one", "_law_other", "e"], [
    .tri [
      .iff (.cmp .lt (.var 0) (.cst (.int 3))) [
      .exq (.calli ["supports", "surely", "perhaps"] (.var 0) [(.var 1), (.var 2)])] [
      .iff (.cmp .lt (.var 0) (.cst (.int 5))) [
      .exq (.calli ["is_support", "do_need"] (.bin .sub (.var 0) (.cst (.int 3))) [(.var 1), (.var 2), (.var 3)])] [
      .exq (.call "kin" [(.var 1)])]]] 4 [
      .ret (.mth .index (.lst [(.isx 4 "NoDictionary"), (.isx 4 "NoWord")]) [(.cst (.bool true))])],
    .ret (.cst .none)]⟩
/-- _law_no: k13 -/
def law_no_k13 : Fn := ⟨4, ["_law_way", "_law_dictionary_here", "_law_one", "_law_other", "e", "_law_flags"], [
    .tri [
      .iff (.cmp .eq (.var 0) (.cst (.int 0))) [
      .exq (.call "days" [(.var 1), (.var 2)])] [
      .iff (.cmp .eq (.var 0) (.cst (.int 1))) [
      .exq (.call "day_of" [(.var 1), (.var 2), (.var 3)])] [
      .iff (.cmp .eq (.var 0) (.cst (.int 2))) [
      .exq (.call "quickest" [(.var 1), (.var 2)])] [
      .exq (.call "is_by" [(.var 1), (.var 2), (.var 3)])]]]] 4 [
      .asg (.nm 5) false (.lst [(.isx 4 "NoDictionary"), (.isx 4 "NoLot")]),
      .ret (.mth .index (.bin .add (.var 5) (.lst [(.isx 4 "NoWord"), (.isx 4 "NoNumber")])) [(.cst (.bool true))])],
    .ret (.cst .none)]⟩
/-- _law_no: k20 -/
def law_no_k20 : Fn := ⟨3, ["_law_way", "_law_dictionary_here", "_law_one", "e"], [
    .tri [
      .iff (.cmp .eq (.var 0) (.cst (.int 0))) [
      .exq (.call "dictionary_text" [(.var 1)])] [
      .exq (.calli ["lot_text", "read_lot"] (.bin .sub (.var 0) (.cst (.int 1))) [(.var 1), (.var 2)])]] 3 [
      .ret (.mth .index (.lst [(.isx 3 "NoDictionary"), (.isx 3 "NoLot"), (.isx 3 "NoText")]) [(.cst (.bool true))])],
    .ret (.cst .none)]⟩
/-- _law_bad: k01 -/
def law_bad : Fn := ⟨1, ["_law_dictionary_here", "_law_words", "_law_lessons", "_law_first", "_law_found", "_law_some", "_law_bad_here", "_law_good", "_law_many", "_law_one", "_law_other"], [
    .asg (.tp [(.nm 1), (.nm 2)]) false (.var 0),
    .asg (.nm 3) false (.idx (.var 1) (.cst (.int 0))),
    .asg (.nm 4) true (.lst [(.cst .none), (.tup []), (.tup [(.var 1)]), (.bin .add (.var 0) (.tup [(.cst (.int 0))])), (.blt .list [(.var 0)]), (.tup [(.blt .list [(.var 1)]), (.var 2)])]),
    .asg (.nm 4) true (.bin .add (.var 4) (.lst [(.tup [(.var 1), (.blt .list [(.var 2)])]), (.tup [(.tup []), (.tup [])])])),
    .asg (.nm 4) true (.bin .add (.var 4) (.lst [(.tup [(.bin .add (.var 1) (.var 1)), (.var 2)]), (.tup [(.bin .add (.tup [(.cst (.str (Str.ofString "Art")))]) (.slc (.var 1) (.cst (.int 1)) .nil)), (.tup [])]), (.tup [(.tup [(.cst (.str (Str.ofString "abcdefg")))]), (.tup [])])])),
    .asg (.nm 4) true (.bin .add (.var 4) (.lst [(.tup [(.tup [(.cst (.int 7))]), (.tup [])]), (.tup [(.tup [(.cst (.str (Str.ofString "b"))), (.cst (.str (Str.ofString "a")))]), (.tup [])])])),
    .mut .app 4 [(.tup [(.blt .tuple [(.cst (.str (Str.ofString "abcdefghi")))]), (.tup [])])],
    .asg (.nm 5) false (.lst [(.tup [(.tup []), (.tup [])]), (.tup [(.tup [(.var 3)]), (.tup [])]), (.tup [(.var 3), (.tup [(.var 3)])]), (.tup [(.tup [(.var 3)]), (.var 3)]), (.tup [(.tup [(.var 3), (.var 3)]), (.tup [(.var 3)])])]),
    .asg (.nm 5) false (.bin .add (.var 5) (.lst [(.tup [(.tup [(.var 3)]), (.tup [(.var 3), (.var 3)])]), (.tup [(.tup [(.var 3)]), (.tup [(.cst (.str (Str.ofString "zz")))])]), (.tup [(.tup [(.cst (.str (Str.ofString "zz")))]), (.tup [(.var 3)])]), (.tup [(.tup [(.var 3)])])])),
    .for_ (.nm 6) .sq [(.bin .add (.var 5) (.lst [(.tup [(.tup [(.var 3)]), (.tup [(.var 3)]), (.tup [])]), (.lst [(.tup [(.var 3)]), (.tup [(.var 3)])]), (.cst .none)]))] [
      .mut .app 4 [(.tup [(.var 1), (.tup [(.var 6)])])]],
    .asg (.nm 7) false (.tup [(.tup []), (.tup [(.var 3)])]),
    .asg (.nm 4) true (.bin .add (.var 4) (.lst [(.tup [(.var 1), (.tup [(.var 7), (.var 7)])]), (.tup [(.var 1), (.tup [(.tup [(.tup [(.var 3)]), (.tup [(.var 3)])]), (.var 7)])])])),
    .asg (.nm 8) false (.lst [(.tup [(.tup []), (.tup [(.cst (.str (Str.ofString "a")))])])]),
    .for_ (.nm 9) .sq [(.cst (.str (Str.ofString "abc")))] [
      .asg (.nm 8) false (.bin .add (.var 8) (.lc [("_law_other", 10)] (.nm 10) .sq [(.cst (.str (Str.ofString "abcd")))] .nil (.tup [(.tup [(.var 9)]), (.tup [(.var 10)])])))],
    .ret (.bin .add (.var 4) (.lst [(.tup [(.blt .tuple [(.cst (.str (Str.ofString "abcd")))]), (.blt .tuple [(.var 8)])])]))]⟩
/-- law: k01 -/
def law_k01 : Fn := ⟨1, ["_law_script", "_law_dictionary_here", "_law_bad_here", "_law_way", "_law_many", "_law_one", "_law_other", "_law_lot", "_law_first"], [
    .asg (.nm 1) false (.call "_law_dictionary" [(.var 0), (.cst (.int 10)), (.cst (.int 6))]),
    .iff (.cmp .nz (.call "is_dictionary" [(.var 1)]) (.cst (.bool true))) [
      .ret (.cst (.bool false))] [],
    .for_ (.nm 2) .sq [(.call "_law_bad" [(.var 1)])] [
      .iff (.cmp .nz (.call "is_dictionary" [(.var 2)]) (.cst (.bool false))) [
      .ret (.cst (.bool false))] [],
      .iff (.cmp .ne (.lc [("_law_way", 3)] (.nm 3) .r1 [(.cst (.int 4))] .nil (.call "_law_no" [(.var 3), (.var 2), (.cst .none)])) (.bin .mul (.lst [(.cst (.int 0))]) (.cst (.int 4)))) [
      .ret (.cst (.bool false))] []],
    .asg (.nm 4) false (.lst []),
    .for_ (.nm 5) .sq [(.cst (.str (Str.ofString "abcd")))] [
      .asg (.nm 4) false (.bin .add (.var 4) (.lc [("_law_other", 6)] (.nm 6) .sq [(.cst (.str (Str.ofString "abcd")))] .nil (.tup [(.tup [(.var 5)]), (.tup [(.var 6)])])))],
    .iff (.cmp .nz (.call "is_dictionary" [(.tup [(.blt .tuple [(.cst (.str (Str.ofString "abcdefgh")))]), (.blt .tuple [(.slc (.var 4) .nil (.cst (.int 12)))])])]) (.cst (.bool true))) [
      .ret (.cst (.bool false))] [],
    .iff (.cmp .nz (.call "is_dictionary" [(.tup [(.tup [(.cst (.str (Str.ofString "a")))]), (.tup [])])]) (.cst (.bool true))) [
      .ret (.cst (.bool false))] [],
    .for_ (.nm 7) .sq [(.call "_law_lots" [(.idx (.var 1) (.cst (.int 0)))])] [
      .iff (.bop false [(.cmp .nz (.call "is_lot" [(.var 1), (.var 7)]) (.cst (.bool true))), (.cmp .nz (.call "_law_no" [(.cst (.int 0)), (.var 1), (.var 7)]) (.cst .none))]) [
      .ret (.cst (.bool false))] []],
    .asg (.nm 8) false (.idx (.idx (.var 1) (.cst (.int 0))) (.cst (.int 0))),
    .for_ (.nm 2) .sq [(.tup [(.cst .none), (.lst []), (.lst [(.var 8)]), (.tup [(.var 8), (.var 8)]), (.tup [(.cst (.str (Str.ofString "zz")))]), (.tup [(.cst .none)]), (.var 8), (.bin .add (.idx (.var 1) (.cst (.int 0))) (.tup [(.var 8)])), (.cst (.int 7))])] [
      .iff (.cmp .nz (.call "is_lot" [(.var 1), (.var 2)]) (.cst (.bool false))) [
      .ret (.cst (.bool false))] [],
      .iff (.cmp .ne (.lc [("_law_way", 3)] (.nm 3) .r1 [(.cst (.int 2))] .nil (.call "_law_no" [(.var 3), (.var 1), (.var 2)])) (.lst [(.cst (.int 1)), (.cst (.int 1))])) [
      .ret (.cst (.bool false))] []],
    .ret (.bop false [(.cmp .lt (.blt .len [(.idx (.var 1) (.cst (.int 0)))]) (.cst (.int 2))), (.cmp .iz (.call "is_lot" [(.var 1), (.rev (.idx (.var 1) (.cst (.int 0))))]) (.cst (.bool false)))])]⟩
/-- law: k02 -/
def law_k02 : Fn := ⟨1, ["_law_script", "_law_dictionary_here", "_law_words", "_law_lessons", "_law_lots_here", "_law_told", "_law_lot", "_law_closed", "_law_word", "_law_k", "_law_one", "_law_other", "_law_n", "_law_common", "_law_joined"], [
    .asg (.nm 1) false (.call "_law_dictionary" [(.var 0), (.cst (.int 10)), (.cst (.int 5))]),
    .asg (.tp [(.nm 2), (.nm 3)]) false (.var 1),
    .asg (.nm 4) false (.call "_law_lots" [(.var 2)]),
    .asg (.nm 5) false (.blt .dictT [(.lc [("_law_lot", 6)] (.nm 6) .sq [(.var 4)] .nil (.tup [(.var 6), (.call "known" [(.var 1), (.var 6)])]))]),
    .asg (.nm 7) false (.blt .sorted [(.lc [("_law_lot", 6)] (.nm 6) .sq [(.var 4)] (.cmp .eq (.call "_law_known" [(.var 1), (.var 6)]) (.var 6)) (.var 6))]),
    .iff (.bop false [(.cmp .ne (.call "closed_lots" [(.var 1)]) (.var 7)), (.cmp .nin (.var 2) (.var 7))]) [
      .ret (.cst (.bool false))] [],
    .for_ (.nm 6) .sq [(.var 4)] [
      .iff (.cmp .ne (.idx (.var 5) (.var 6)) (.call "_law_known" [(.var 1), (.var 6)])) [
      .ret (.cst (.bool false))] [],
      .iff (.cmp .ne (.call "is_closed" [(.var 1), (.var 6)]) (.cmp .isin (.var 6) (.var 7))) [
      .ret (.cst (.bool false))] [],
      .iff (.bop false [(.cmp .ne (.idx (.var 5) (.idx (.var 5) (.var 6))) (.idx (.var 5) (.var 6))), (.cmp .ne (.lc [("_law_word", 8)] (.nm 8) .sq [(.var 6)] (.cmp .nin (.var 8) (.idx (.var 5) (.var 6))) (.var 8)) (.lst []))]) [
      .ret (.cst (.bool false))] []],
    .for_ (.nm 9) .r1 [(.cst (.int 8))] [
      .asg (.tp [(.nm 10), (.nm 11)]) false (.lc [("_law_n", 12)] (.nm 12) .r1 [(.cst (.int 2))] .nil (.idx (.var 4) (.call "_law_drawn" [(.var 0), (.bin .add (.bin .add (.cst (.int 80)) (.bin .mul (.cst (.int 2)) (.var 9))) (.var 12)), (.blt .len [(.var 4)])]))),
      .asg (.nm 13) false (.blt .tuple [(.lc [("_law_word", 8)] (.nm 8) .sq [(.var 10)] (.cmp .isin (.var 8) (.var 11)) (.var 8))]),
      .asg (.nm 14) false (.blt .tuple [(.blt .sset [(.bin .add (.var 10) (.var 11))])]),
      .iff (.cmp .ne (.lc [("_law_word", 8)] (.nm 8) .sq [(.idx (.var 5) (.var 13))] (.bop false [(.cmp .nin (.var 8) (.idx (.var 5) (.var 10))), (.cmp .nin (.var 8) (.idx (.var 5) (.var 11)))]) (.var 8)) (.lst [])) [
      .ret (.cst (.bool false))] [],
      .iff (.cmp .ne (.lc [("_law_word", 8)] (.nm 8) .sq [(.idx (.var 5) (.var 10))] (.cmp .nin (.var 8) (.idx (.var 5) (.var 14))) (.var 8)) (.lst [])) [
      .ret (.cst (.bool false))] [],
      .iff (.cmp .ne (.idx (.var 5) (.blt .tuple [(.blt .sset [(.bin .add (.idx (.var 5) (.var 10)) (.idx (.var 5) (.var 11)))])])) (.idx (.var 5) (.var 14))) [
      .ret (.cst (.bool false))] [],
      .iff (.bop true [(.cmp .isin (.var 10) (.var 7)), (.cmp .isin (.var 11) (.var 7)), (.cmp .nin (.var 13) (.var 7))]) [
      .ret (.cst (.bool false))] []],
    .ret (.call "_law_grown" [(.var 0), (.var 2), (.var 3), (.var 4), (.var 5), (.var 7)])]⟩
/-- law: k04 -/
def law_k04 : Fn := ⟨1, ["_law_script", "_law_dictionary_here", "_law_words", "_law_lots_here", "_law_lot", "_law_k", "_law_word", "_law_told", "_law_free", "_law_one", "_law_other", "_law_some", "_law_have", "_law_odd", "_law_no_lot", "_law_way"], [
    .asg (.nm 1) false (.call "_law_dictionary" [(.var 0), (.cst (.int 10)), (.cst (.int 4))]),
    .par [2, 3] [false, false] [(.idx (.var 1) (.cst (.int 0))), (.call "_law_lots" [(.idx (.var 1) (.cst (.int 0)))])],
    .for_ (.nm 4) .sq [(.var 3)] [
      .iff (.cmp .ne (.call "is_circle" [(.var 1), (.var 4)]) (.call "_law_circle" [(.var 1), (.var 4)])) [
      .ret (.cst (.bool false))] []],
    .for_ (.nm 5) .r1 [(.cst (.int 3))] [
      .par [4, 6] [false, false] [(.idx (.var 3) (.call "_law_drawn" [(.var 0), (.bin .add (.cst (.int 70)) (.bin .mul (.cst (.int 2)) (.var 5))), (.blt .len [(.var 3)])])), (.idx (.var 2) (.call "_law_drawn" [(.var 0), (.bin .add (.cst (.int 71)) (.bin .mul (.cst (.int 2)) (.var 5))), (.blt .len [(.var 2)])]))],
      .asg (.nm 7) false (.call "learning" [(.var 1), (.var 4), (.var 6)]),
      .iff (.cmp .ne (.var 7) (.call "_law_shortest" [(.var 1), (.var 4), (.var 6)])) [
      .ret (.cst (.bool false))] [],
      .iff (.nt (.call "_law_papers" [(.var 0), (.var 1), (.var 4), (.var 6), (.var 7)])) [
      .ret (.cst (.bool false))] [],
      .iff (.bop true [(.cmp .nz (.var 7) (.cst .none)), (.cmp .nz (.call "is_learning" [(.var 1), (.var 4), (.var 6), (.var 7)]) (.cst (.bool true)))]) [
      .ret (.cst (.bool false))] [],
      .asg (.nm 8) false (.lc [("_law_one", 9)] (.nm 9) .sq [(.var 3)] (.bop true [(.cmp .isin (.var 6) (.var 9)), (.cmp .eq (.lc [("_law_other", 10)] (.nm 10) .sq [(.var 9)] (.cmp .isin (.var 10) (.var 4)) (.var 10)) (.lst []))]) (.var 9)),
      .asg (.nm 11) false (.lc [("_law_one", 9)] (.nm 9) .sq [(.var 8)] (.call "_law_circle" [(.var 1), (.var 9)]) (.var 9)),
      .iff (.cmp .ne (.call "circle_for" [(.var 1), (.var 4), (.var 6)]) (.ite (.cmp .ne (.var 11) (.lst [])) (.idx (.var 11) (.cst (.int 0))) (.cst .none))) [
      .ret (.cst (.bool false))] [],
      .asg (.nm 12) false (.call "_law_known" [(.var 1), (.var 4)]),
      .iff (.cmp .ne (.call "greatest_circle" [(.var 1), (.var 4)]) (.blt .tuple [(.lc [("_law_one", 9)] (.nm 9) .sq [(.var 2)] (.cmp .nin (.var 9) (.var 12)) (.var 9))])) [
      .ret (.cst (.bool false))] []],
    .asg (.nm 13) false (.idx (.lst [(.cst .none), (.cst (.str (Str.ofString ""))), (.cst (.str (Str.ofString "zz"))), (.cst (.str (Str.ofString "Art"))), (.cst (.int 7))]) (.call "_law_drawn" [(.var 0), (.cst (.int 1)), (.cst (.int 5))])),
    .asg (.nm 14) false (.idx (.lst [(.cst .none), (.lst []), (.tup [(.cst (.str (Str.ofString "zz")))]), (.cst (.str (Str.ofString "art"))), (.tup [(.idx (.var 2) (.cst (.int 0))), (.idx (.var 2) (.cst (.int 0)))])]) (.call "_law_drawn" [(.var 0), (.cst (.int 2)), (.cst (.int 5))])),
    .asg (.nm 7) false (.lc [("_law_way", 15)] (.nm 15) .r1 [(.cst (.int 5))] .nil (.call "_law_no" [(.var 15), (.slc (.var 1) .nil (.cst (.int 1))), (.var 14), (.var 13)])),
    .asg (.nm 7) false (.bin .add (.var 7) (.lc [("_law_way", 15)] (.nm 15) .r1 [(.cst (.int 4))] .nil (.call "_law_no" [(.var 15), (.var 1), (.var 14), (.var 13)]))),
    .ret (.cmp .eq (.bin .add (.var 7) (.lc [("_law_way", 15)] (.nm 15) .r1 [(.cst (.int 3))] .nil (.call "_law_no" [(.var 15), (.var 1), (.tup []), (.var 13)]))) (.bin .add (.bin .add (.bin .mul (.lst [(.cst (.int 0))]) (.cst (.int 5))) (.bin .mul (.lst [(.cst (.int 1))]) (.cst (.int 4)))) (.bin .mul (.lst [(.cst (.int 2))]) (.cst (.int 3)))))]⟩
/-- law: k05 -/
def law_k05 : Fn := ⟨1, ["_law_script", "_law_dictionary_here", "_law_words_here", "_law_lots_here", "_law_circles", "_law_lot", "_law_k", "_law_one", "_law_other", "_law_n", "_law_have", "_law_rest", "_law_ring", "_law_word"], [
    .asg (.nm 1) false (.call "_law_dictionary" [(.var 0), (.cst (.int 10)), (.cst (.int 5))]),
    .par [2, 3] [false, false] [(.idx (.var 1) (.cst (.int 0))), (.call "_law_lots" [(.idx (.var 1) (.cst (.int 0)))])],
    .asg (.nm 4) false (.lc [("_law_lot", 5)] (.nm 5) .sq [(.var 3)] (.call "is_circle" [(.var 1), (.var 5)]) (.var 5)),
    .for_ (.nm 6) .r1 [(.cst (.int 6))] [
      .iff (.cmp .ne (.var 4) (.lst [])) [
      .asg (.tp [(.nm 7), (.nm 8)]) false (.lc [("_law_n", 9)] (.nm 9) .r1 [(.cst (.int 2))] .nil (.idx (.var 4) (.call "_law_drawn" [(.var 0), (.bin .add (.bin .add (.cst (.int 70)) (.bin .mul (.cst (.int 2)) (.var 6))) (.var 9)), (.blt .len [(.var 4)])]))),
      .iff (.cmp .nz (.call "is_circle" [(.var 1), (.blt .tuple [(.blt .sset [(.bin .add (.var 7) (.var 8))])])]) (.cst (.bool true))) [
      .ret (.cst (.bool false))] []] []],
    .for_ (.nm 6) .r1 [(.cst (.int 4))] [
      .asg (.nm 5) false (.idx (.var 3) (.call "_law_drawn" [(.var 0), (.bin .add (.cst (.int 90)) (.var 6)), (.blt .len [(.var 3)])])),
      .par [10, 11] [false, false] [(.call "known" [(.var 1), (.var 5)]), (.call "greatest_circle" [(.var 1), (.var 5)])],
      .iff (.bop false [(.cmp .ne (.blt .tuple [(.blt .sorted [(.bin .add (.var 10) (.var 11))])]) (.var 2)), (.cmp .ne (.cmp .ne (.var 11) (.tup [])) (.cmp .isin (.var 11) (.var 4)))]) [
      .ret (.cst (.bool false))] [],
      .iff (.nt (.call "_law_words" [(.var 1), (.var 5), (.var 10), (.var 11), (.var 4)])) [
      .ret (.cst (.bool false))] [],
      .for_ (.nm 12) .sq [(.var 4)] [
      .iff (.bop true [(.cmp .eq (.lc [("_law_word", 13)] (.nm 13) .sq [(.var 12)] (.cmp .isin (.var 13) (.var 5)) (.var 13)) (.lst [])), (.cmp .ne (.lc [("_law_word", 13)] (.nm 13) .sq [(.var 12)] (.cmp .isin (.var 13) (.var 10)) (.var 13)) (.lst []))]) [
      .ret (.cst (.bool false))] []]],
    .ret (.cst (.bool true))]⟩
/-- law: k07 -/
def law_k07 : Fn := ⟨1, ["_law_script", "_law_dictionary_here", "_law_words", "_law_lots_here", "_law_some", "_law_lot", "_law_rings", "_law_free", "_law_ring", "_law_word", "_law_few", "_law_one", "_law_odd", "_law_told", "_law_way"], [
    .asg (.nm 1) false (.call "_law_dictionary" [(.var 0), (.cst (.int 10)), (.cst (.int 4))]),
    .par [2, 3] [false, false] [(.idx (.var 1) (.cst (.int 0))), (.call "_law_lots" [(.idx (.var 1) (.cst (.int 0)))])],
    .asg (.nm 4) false (.lc [("_law_lot", 5)] (.nm 5) .sq [(.var 3)] (.cmp .eq (.call "_law_known" [(.var 1), (.var 5)]) (.var 2)) (.var 5)),
    .asg (.nm 6) false (.lc [("_law_lot", 5)] (.nm 5) .sq [(.var 3)] (.call "_law_circle" [(.var 1), (.var 5)]) (.var 5)),
    .for_ (.nm 5) .sq [(.var 3)] [
      .iff (.cmp .ne (.call "is_ground" [(.var 1), (.var 5)]) (.cmp .isin (.var 5) (.var 4))) [
      .ret (.cst (.bool false))] [],
      .asg (.nm 7) false (.lc [("_law_ring", 8)] (.nm 8) .sq [(.var 6)] (.cmp .eq (.lc [("_law_word", 9)] (.nm 9) .sq [(.var 8)] (.cmp .isin (.var 9) (.var 5)) (.var 9)) (.lst [])) (.var 8)),
      .iff (.cmp .ne (.call "missed" [(.var 1), (.var 5)]) (.ite (.cmp .ne (.var 7) (.lst [])) (.idx (.var 7) (.cst (.int 0))) (.cst .none))) [
      .ret (.cst (.bool false))] []],
    .asg (.nm 10) true (.lst []),
    .for_ (.nm 5) .sq [(.var 4)] [
      .iff (.cmp .eq (.lc [("_law_one", 11)] (.nm 11) .sq [(.var 4)] (.bop true [(.cmp .ne (.var 11) (.var 5)), (.cmp .eq (.lc [("_law_word", 9)] (.nm 9) .sq [(.var 11)] (.cmp .nin (.var 9) (.var 5)) (.var 9)) (.lst []))]) (.var 11)) (.lst [])) [
      .mut .app 10 [(.var 5)]] []],
    .iff (.bop false [(.cmp .ne (.call "least_ground" [(.var 1)]) (.idx (.var 4) (.cst (.int 0)))), (.cmp .ne (.call "grounds" [(.var 1)]) (.blt .sorted [(.var 10)]))]) [
      .ret (.cst (.bool false))] [],
    .iff (.cmp .ne (.call "always" [(.var 1)]) (.blt .tuple [(.lc [("_law_word", 9)] (.nm 9) .sq [(.var 2)] (.cmp .eq (.lc [("_law_lot", 5)] (.nm 5) .sq [(.var 4)] (.cmp .nin (.var 9) (.var 5)) (.var 5)) (.lst [])) (.var 9))])) [
      .ret (.cst (.bool false))] [],
    .iff (.nt (.call "_law_circles" [(.var 0), (.var 1), (.var 3), (.var 6), (.blt .len [(.idx (.var 4) (.cst (.int 0)))])])) [
      .ret (.cst (.bool false))] [],
    .asg (.nm 12) false (.idx (.lst [(.cst .none), (.lst []), (.tup [(.cst (.str (Str.ofString "zz")))]), (.cst (.str (Str.ofString "art"))), (.tup [(.idx (.var 2) (.cst (.int 0))), (.idx (.var 2) (.cst (.int 0)))])]) (.call "_law_drawn" [(.var 0), (.cst (.int 1)), (.cst (.int 5))])),
    .asg (.nm 13) false (.lc [("_law_way", 14)] (.nm 14) .r1 [(.cst (.int 8))] .nil (.call "_law_no" [(.var 14), (.slc (.var 1) .nil (.cst (.int 1))), (.var 12)])),
    .iff (.cmp .ne (.bin .add (.var 13) (.lst [(.call "_law_no" [(.cst (.int 7)), (.var 1), (.var 12)])])) (.bin .add (.bin .mul (.lst [(.cst (.int 0))]) (.cst (.int 8))) (.lst [(.cst (.int 1))]))) [
      .ret (.cst (.bool false))] [],
    .ret (.cmp .iz (.call "is_ground" [(.var 1), (.var 12)]) (.cst (.bool false)))]⟩
/-- law: k08 -/
def law_k08 : Fn := ⟨1, ["_law_script", "_law_dictionary_here", "_law_words", "_law_lots_here", "_law_circles", "_law_lot", "_law_free", "_law_ring", "_law_word", "_law_one", "_law_least", "_law_some", "_law_apart", "_law_kept"], [
    .asg (.nm 1) false (.call "_law_dictionary" [(.var 0), (.cst (.int 10)), (.cst (.int 5))]),
    .par [2, 3] [false, false] [(.idx (.var 1) (.cst (.int 0))), (.call "_law_lots" [(.idx (.var 1) (.cst (.int 0)))])],
    .asg (.nm 4) false (.lc [("_law_lot", 5)] (.nm 5) .sq [(.var 3)] (.call "is_circle" [(.var 1), (.var 5)]) (.var 5)),
    .for_ (.nm 5) .sq [(.var 3)] [
      .asg (.nm 6) false (.lc [("_law_ring", 7)] (.nm 7) .sq [(.var 4)] (.cmp .eq (.lc [("_law_word", 8)] (.nm 8) .sq [(.var 7)] (.cmp .isin (.var 8) (.var 5)) (.var 8)) (.lst [])) (.var 7)),
      .asg (.nm 7) false (.call "missed" [(.var 1), (.var 5)]),
      .iff (.bop false [(.cmp .ne (.call "is_ground" [(.var 1), (.var 5)]) (.cmp .eq (.var 6) (.lst []))), (.cmp .ne (.cmp .iz (.var 7) (.cst .none)) (.cmp .eq (.var 6) (.lst [])))]) [
      .ret (.cst (.bool false))] [],
      .iff (.cmp .nz (.var 7) (.cst .none)) [
      .iff (.bop false [(.cmp .nin (.var 7) (.var 6)), (.cmp .ne (.lc [("_law_one", 9)] (.nm 9) .sq [(.var 6)] (.cmp .lt (.blt .len [(.var 9)]) (.blt .len [(.var 7)])) (.var 9)) (.lst []))]) [
      .ret (.cst (.bool false))] []] [],
      .iff (.cmp .ne (.cmp .eq (.call "greatest_circle" [(.var 1), (.var 5)]) (.tup [])) (.cmp .eq (.var 6) (.lst []))) [
      .ret (.cst (.bool false))] []],
    .par [10, 11] [false, false] [(.call "least_ground" [(.var 1)]), (.call "grounds" [(.var 1)])],
    .asg (.nm 12) false (.call "most_apart" [(.var 1)]),
    .iff (.bop false [(.cmp .nin (.var 10) (.var 11)), (.cmp .ne (.blt .min [(.lc [("_law_lot", 5)] (.nm 5) .sq [(.var 11)] .nil (.blt .len [(.var 5)]))]) (.blt .len [(.var 10)]))]) [
      .ret (.cst (.bool false))] [],
    .iff (.cmp .nz (.call "are_apart" [(.var 1), (.var 12)]) (.cst (.bool true))) [
      .ret (.cst (.bool false))] [],
    .iff (.bop false [(.cmp .gt (.blt .len [(.var 12)]) (.blt .len [(.var 10)])), (.cmp .ne (.call "gap" [(.var 1)]) (.bin .sub (.blt .len [(.var 10)]) (.blt .len [(.var 12)])))]) [
      .ret (.cst (.bool false))] [],
    .iff (.cmp .ne (.cmp .eq (.var 12) (.lst [])) (.cmp .eq (.var 4) (.lst []))) [
      .ret (.cst (.bool false))] [],
    .iff (.nt (.call "_law_own" [(.var 1), (.var 11)])) [
      .ret (.cst (.bool false))] [],
    .asg (.nm 13) false (.call "always" [(.var 1)]),
    .iff (.cmp .ne (.lc [("_law_word", 8)] (.nm 8) .sq [(.var 2)] (.cmp .ne (.cmp .isin (.var 8) (.var 13)) (.call "is_circle" [(.var 1), (.tup [(.var 8)])])) (.var 8)) (.lst [])) [
      .ret (.cst (.bool false))] [],
    .ret (.call "_law_three" [(.var 0)])]⟩
/-- law: k10 -/
def law_k10 : Fn := ⟨1, ["_law_script", "_law_dictionary_here", "_law_words", "_law_lots_here", "_law_have", "_law_lot", "_law_word", "_law_good", "_law_due", "_law_one", "_law_other", "_law_each", "_law_some", "_law_bad", "_law_odd", "_law_told", "_law_way"], [
    .asg (.nm 1) false (.call "_law_dictionary" [(.var 0), (.cst (.int 10)), (.cst (.int 5))]),
    .par [2, 3] [false, false] [(.idx (.var 1) (.cst (.int 0))), (.call "_law_lots" [(.idx (.var 1) (.cst (.int 0)))])],
    .asg (.nm 4) false (.blt .dictT [(.lc [("_law_lot", 5)] (.nm 5) .sq [(.var 3)] .nil (.tup [(.var 5), (.call "_law_known" [(.var 1), (.var 5)])]))]),
    .for_ (.nm 6) .sq [(.var 2)] [
      .asg (.nm 7) false (.lc [("_law_lot", 5)] (.nm 5) .sq [(.var 3)] (.bop true [(.cmp .isin (.var 6) (.idx (.var 4) (.var 5))), (.cmp .nin (.var 6) (.var 5))]) (.var 5)),
      .asg (.nm 8) true (.lst []),
      .for_ (.nm 5) .sq [(.var 7)] [
      .iff (.cmp .eq (.lc [("_law_one", 9)] (.nm 9) .sq [(.var 7)] (.bop true [(.cmp .ne (.var 9) (.var 5)), (.cmp .eq (.lc [("_law_other", 10)] (.nm 10) .sq [(.var 9)] (.cmp .nin (.var 10) (.var 5)) (.var 10)) (.lst []))]) (.var 9)) (.lst [])) [
      .mut .app 8 [(.var 5)]] []],
      .iff (.cmp .ne (.call "supports" [(.var 1), (.var 6)]) (.blt .sorted [(.var 8)])) [
      .ret (.cst (.bool false))] [],
      .for_ (.nm 5) .sq [(.var 3)] [
      .iff (.cmp .ne (.call "is_support" [(.var 1), (.var 6), (.var 5)]) (.cmp .isin (.var 5) (.var 8))) [
      .ret (.cst (.bool false))] []],
      .asg (.nm 11) false (.blt .tuple [(.lc [("_law_one", 9)] (.nm 9) .sq [(.var 2)] (.cmp .eq (.lc [("_law_lot", 5)] (.nm 5) .sq [(.var 8)] (.cmp .nin (.var 9) (.var 5)) (.var 5)) (.lst [])) (.var 9))]),
      .asg (.nm 12) false (.blt .tuple [(.lc [("_law_one", 9)] (.nm 9) .sq [(.var 2)] (.cmp .ne (.lc [("_law_lot", 5)] (.nm 5) .sq [(.var 8)] (.cmp .isin (.var 9) (.var 5)) (.var 5)) (.lst [])) (.var 9))]),
      .iff (.cmp .ne (.call "surely" [(.var 1), (.var 6)]) (.ite (.cmp .ne (.var 8) (.lst [])) (.var 11) (.cst .none))) [
      .ret (.cst (.bool false))] [],
      .iff (.cmp .ne (.call "perhaps" [(.var 1), (.var 6)]) (.var 12)) [
      .ret (.cst (.bool false))] [],
      .for_ (.nm 10) .sq [(.var 2)] [
      .iff (.cmp .ne (.call "do_need" [(.var 1), (.var 6), (.var 10)]) (.cmp .isin (.var 6) (.idx (.var 4) (.tup [(.var 10)])))) [
      .ret (.cst (.bool false))] []],
      .for_ (.nm 13) .sq [(.tup [(.cst .none), (.lst []), (.tup [(.cst (.str (Str.ofString "zz")))]), (.var 6), (.lst [(.var 6)]), (.tup [(.var 6), (.var 6)])])] [
      .iff (.cmp .nz (.call "is_support" [(.var 1), (.var 6), (.var 13)]) (.cst (.bool false))) [
      .ret (.cst (.bool false))] []]],
    .iff (.nt (.call "_law_kin" [(.var 1), (.var 4)])) [
      .ret (.cst (.bool false))] [],
    .asg (.nm 14) false (.idx (.lst [(.cst .none), (.cst (.str (Str.ofString ""))), (.cst (.str (Str.ofString "zz"))), (.cst (.str (Str.ofString "Art"))), (.cst (.int 7)), (.tup [(.cst (.str (Str.ofString "art")))])]) (.call "_law_drawn" [(.var 0), (.cst (.int 1)), (.cst (.int 6))])),
    .asg (.nm 15) false (.lc [("_law_way", 16)] (.nm 16) .r1 [(.cst (.int 6))] .nil (.call "_law_no" [(.var 16), (.slc (.var 1) .nil (.cst (.int 1))), (.var 14), (.var 14)])),
    .asg (.nm 15) false (.bin .add (.var 15) (.lc [("_law_way", 16)] (.nm 16) .r1 [(.cst (.int 5))] .nil (.call "_law_no" [(.var 16), (.var 1), (.var 14), (.var 14)]))),
    .ret (.cmp .eq (.bin .add (.var 15) (.lst [(.call "_law_no" [(.cst (.int 4)), (.var 1), (.idx (.var 2) (.cst (.int 0))), (.var 14)])])) (.bin .add (.bin .mul (.lst [(.cst (.int 0))]) (.cst (.int 6))) (.bin .mul (.lst [(.cst (.int 1))]) (.cst (.int 6)))))]⟩
/-- law: k11 -/
def law_k11 : Fn := ⟨1, ["_law_script", "_law_dictionary_here", "_law_words", "_law_lots_here", "_law_word", "_law_some", "_law_must", "_law_may", "_law_lot", "_law_within", "_law_one", "_law_other", "_law_have", "_law_k", "_law_less"], [
    .asg (.nm 1) false (.call "_law_dictionary" [(.var 0), (.cst (.int 10)), (.cst (.int 5))]),
    .par [2, 3] [false, false] [(.idx (.var 1) (.cst (.int 0))), (.call "_law_lots" [(.idx (.var 1) (.cst (.int 0)))])],
    .for_ (.nm 4) .sq [(.var 2)] [
      .par [5, 6, 7] [false, false, false] [(.call "supports" [(.var 1), (.var 4)]), (.call "surely" [(.var 1), (.var 4)]), (.call "perhaps" [(.var 1), (.var 4)])],
      .iff (.cmp .ne (.cmp .eq (.var 5) (.lst [])) (.cmp .iz (.var 6) (.cst .none))) [
      .ret (.cst (.bool false))] [],
      .iff (.bop false [(.cmp .ne (.cmp .eq (.var 5) (.lst [])) (.cmp .isin (.var 4) (.call "always" [(.var 1)]))), (.cmp .isin (.var 4) (.var 7))]) [
      .ret (.cst (.bool false))] [],
      .iff (.cmp .ne (.cmp .eq (.var 5) (.lst [])) (.call "is_circle" [(.var 1), (.tup [(.var 4)])])) [
      .ret (.cst (.bool false))] [],
      .for_ (.nm 8) .sq [(.var 3)] [
      .asg (.nm 9) false (.lc [("_law_one", 10)] (.nm 10) .sq [(.var 5)] (.cmp .eq (.lc [("_law_other", 11)] (.nm 11) .sq [(.var 10)] (.cmp .nin (.var 11) (.var 8)) (.var 11)) (.lst [])) (.var 10)),
      .asg (.nm 12) false (.call "known" [(.var 1), (.var 8)]),
      .iff (.cmp .ne (.cmp .isin (.var 4) (.var 12)) (.bop false [(.cmp .isin (.var 4) (.var 8)), (.cmp .ne (.var 9) (.lst []))])) [
      .ret (.cst (.bool false))] [],
      .iff (.bop true [(.cmp .nin (.var 4) (.var 8)), (.cmp .ne (.var 9) (.lst [])), (.cmp .ne (.lc [("_law_one", 10)] (.nm 10) .sq [(.var 6)] (.cmp .nin (.var 10) (.var 12)) (.var 10)) (.lst []))]) [
      .ret (.cst (.bool false))] []],
      .for_ (.nm 8) .sq [(.var 5)] [
      .iff (.cmp .nz (.call "is_support" [(.var 1), (.var 4), (.var 8)]) (.cst (.bool true))) [
      .ret (.cst (.bool false))] [],
      .iff (.cmp .ne (.lc [("_law_one", 10)] (.nm 10) .sq [(.var 8)] (.cmp .nin (.var 10) (.var 7)) (.var 10)) (.lst [])) [
      .ret (.cst (.bool false))] [],
      .iff (.cmp .ne (.lc [("_law_one", 10)] (.nm 10) .sq [(.var 6)] (.cmp .nin (.var 10) (.var 8)) (.var 10)) (.lst [])) [
      .ret (.cst (.bool false))] [],
      .for_ (.nm 13) .r1 [(.blt .len [(.var 8)])] [
      .asg (.nm 14) false (.bin .add (.slc (.var 8) .nil (.var 13)) (.slc (.var 8) (.bin .add (.var 13) (.cst (.int 1))) .nil)),
      .iff (.cmp .nz (.call "is_support" [(.var 1), (.var 4), (.var 14)]) (.cst (.bool false))) [
      .ret (.cst (.bool false))] []]],
      .iff (.cmp .ne (.cmp .eq (.var 5) (.lst [(.tup [])])) (.cmp .isin (.var 4) (.call "known" [(.var 1), (.tup [])]))) [
      .ret (.cst (.bool false))] []],
    .ret (.call "_law_kin" [(.var 1)])]⟩
/-- law: k13 -/
def law_k13 : Fn := ⟨1, ["_law_script", "_law_dictionary_here", "_law_words", "_law_lots_here", "_law_last_here", "_law_lot", "_law_rows", "_law_word", "_law_on", "_law_day", "_law_row", "_law_many", "_law_some", "_law_bad", "_law_odd", "_law_number", "_law_told", "_law_way"], [
    .asg (.nm 1) false (.call "_law_dictionary" [(.var 0), (.cst (.int 10)), (.cst (.int 5))]),
    .par [2, 3] [false, false] [(.idx (.var 1) (.cst (.int 0))), (.call "_law_lots" [(.idx (.var 1) (.cst (.int 0)))])],
    .asg (.nm 4) false (.blt .dictT [(.lc [("_law_lot", 5)] (.nm 5) .sq [(.var 3)] .nil (.tup [(.var 5), (.call "_law_last" [(.var 1), (.var 5)])]))]),
    .for_ (.nm 5) .sq [(.var 3)] [
      .asg (.nm 6) false (.call "_law_days" [(.var 1), (.var 5)]),
      .iff (.cmp .ne (.call "days" [(.var 1), (.var 5)]) (.var 6)) [
      .ret (.cst (.bool false))] [],
      .for_ (.nm 7) .sq [(.var 2)] [
      .asg (.nm 8) false (.lc [("_law_day", 9), ("_law_row", 10)] (.tp [(.nm 9), (.nm 10)]) .en [(.var 6)] (.cmp .isin (.var 7) (.var 10)) (.var 9)),
      .iff (.cmp .ne (.call "day_of" [(.var 1), (.var 5), (.var 7)]) (.ite (.cmp .ne (.var 8) (.lst [])) (.idx (.var 8) (.cst (.int 0))) (.cst .none))) [
      .ret (.cst (.bool false))] []],
      .asg (.nm 9) false (.call "_law_drawn" [(.var 0), (.cst (.int 80)), (.cst (.int 9))]),
      .iff (.cmp .ne (.call "is_by" [(.var 1), (.var 5), (.var 9)]) (.bop true [(.cmp .nz (.idx (.var 4) (.var 5)) (.cst .none)), (.cmp .le (.idx (.var 4) (.var 5)) (.var 9))])) [
      .ret (.cst (.bool false))] []],
    .for_ (.nm 11) .r1 [(.bin .add (.blt .len [(.var 2)]) (.cst (.int 2)))] [
      .asg (.nm 12) false (.blt .sorted [(.lc [("_law_lot", 5)] (.nm 5) .sq [(.var 3)] (.bop true [(.cmp .eq (.blt .len [(.var 5)]) (.var 11)), (.cmp .nz (.idx (.var 4) (.var 5)) (.cst .none))]) (.tup [(.idx (.var 4) (.var 5)), (.var 5)]))]),
      .iff (.cmp .ne (.call "quickest" [(.var 1), (.var 11)]) (.ite (.cmp .ne (.var 12) (.lst [])) (.idx (.var 12) (.cst (.int 0))) (.cst .none))) [
      .ret (.cst (.bool false))] []],
    .for_ (.nm 13) .sq [(.tup [(.cst .none), (.lst []), (.tup [(.cst (.str (Str.ofString "zz")))]), (.blt .list [(.var 2)]), (.idx (.var 2) (.cst (.int 0))), (.cst (.int 7))])] [
      .iff (.cmp .nz (.call "is_by" [(.var 1), (.var 13), (.cst (.int 8))]) (.cst (.bool false))) [
      .ret (.cst (.bool false))] []],
    .asg (.nm 14) false (.idx (.lst [(.cst .none), (.lst []), (.tup [(.cst (.str (Str.ofString "zz")))]), (.cst (.str (Str.ofString "zz")))]) (.call "_law_drawn" [(.var 0), (.cst (.int 1)), (.cst (.int 4))])),
    .asg (.nm 15) false (.idx (.lst [(.neg (.cst (.int 1))), (.cst (.int 9)), (.cst .none), (.cst (.bool true)), (.cst (.str (Str.ofString "1")))]) (.call "_law_drawn" [(.var 0), (.cst (.int 2)), (.cst (.int 5))])),
    .asg (.nm 16) false (.lc [("_law_way", 17)] (.nm 17) .r1 [(.cst (.int 4))] .nil (.call "_law_no" [(.var 17), (.slc (.var 1) .nil (.cst (.int 1))), (.var 14), (.var 15)])),
    .asg (.nm 16) false (.bin .add (.var 16) (.lc [("_law_way", 17)] (.nm 17) .r1 [(.cst (.int 4))] .nil (.call "_law_no" [(.var 17), (.var 1), (.var 14), (.var 15)]))),
    .ret (.cmp .eq (.bin .add (.var 16) (.lst [(.call "_law_no" [(.cst (.int 1)), (.var 1), (.tup []), (.var 14)]), (.call "_law_no" [(.cst (.int 2)), (.var 1), (.var 15), (.cst (.int 0))])])) (.bin .add (.bin .mul (.lst [(.cst (.int 0))]) (.cst (.int 4))) (.lst [(.cst (.int 1)), (.cst (.int 1)), (.cst (.int 3)), (.cst (.int 3)), (.cst (.int 2)), (.cst (.int 3))])))]⟩
/-- law: k14 -/
def law_k14 : Fn := ⟨1, ["_law_script", "_law_dictionary_here", "_law_words", "_law_lots_here", "_law_k", "_law_lot", "_law_more", "_law_rows", "_law_have", "_law_flat", "_law_row", "_law_on", "_law_word", "_law_times", "_law_need", "_law_taught", "_law_one", "_law_due", "_law_sooner"], [
    .asg (.nm 1) false (.call "_law_dictionary" [(.var 0), (.cst (.int 10)), (.cst (.int 5))]),
    .par [2, 3] [false, false] [(.idx (.var 1) (.cst (.int 0))), (.call "_law_lots" [(.idx (.var 1) (.cst (.int 0)))])],
    .for_ (.nm 4) .r1 [(.cst (.int 5))] [
      .asg (.nm 5) false (.idx (.var 3) (.call "_law_drawn" [(.var 0), (.bin .add (.cst (.int 70)) (.bin .mul (.cst (.int 2)) (.var 4))), (.blt .len [(.var 3)])])),
      .asg (.nm 6) false (.blt .tuple [(.blt .sset [(.bin .add (.var 5) (.idx (.var 3) (.call "_law_drawn" [(.var 0), (.bin .add (.cst (.int 71)) (.bin .mul (.cst (.int 2)) (.var 4))), (.blt .len [(.var 3)])])))])]),
      .par [7, 8] [false, false] [(.call "days" [(.var 1), (.var 5)]), (.call "known" [(.var 1), (.var 5)])],
      .asg (.nm 9) true (.lst []),
      .for_ (.nm 10) .sq [(.var 7)] [
      .mut .ext 9 [(.var 10)]],
      .iff (.bop false [(.cmp .ne (.blt .tuple [(.blt .sorted [(.var 9)])]) (.var 8)), (.cmp .ne (.idx (.var 7) (.cst (.int 0))) (.var 5)), (.cmp .isin (.tup []) (.slc (.var 7) (.cst (.int 1)) .nil))]) [
      .ret (.cst (.bool false))] [],
      .asg (.nm 11) false (.blt .dictT [(.lc [("_law_word", 12)] (.nm 12) .sq [(.var 2)] .nil (.tup [(.var 12), (.call "day_of" [(.var 1), (.var 5), (.var 12)])]))]),
      .for_ (.nm 12) .sq [(.var 2)] [
      .asg (.nm 13) true (.lst []),
      .for_ (.tp [(.nm 14), (.nm 15)]) .sq [(.idx (.var 1) (.cst (.int 1)))] [
      .iff (.bop true [(.cmp .isin (.var 12) (.var 15)), (.cmp .eq (.lc [("_law_one", 16)] (.nm 16) .sq [(.var 14)] (.cmp .iz (.idx (.var 11) (.var 16)) (.cst .none)) (.var 16)) (.lst []))]) [
      .mut .app 13 [(.bin .add (.cst (.int 1)) (.blt .max [(.bin .add (.lst [(.cst (.int 0))]) (.lc [("_law_one", 16)] (.nm 16) .sq [(.var 14)] .nil (.idx (.var 11) (.var 16))))]))]] []],
      .asg (.nm 17) false (.ite (.cmp .isin (.var 12) (.var 5)) (.cst (.int 0)) (.ite (.cmp .ne (.var 13) (.lst [])) (.blt .min [(.var 13)]) (.cst .none))),
      .iff (.bop false [(.cmp .ne (.idx (.var 11) (.var 12)) (.var 17)), (.cmp .ne (.cmp .iz (.idx (.var 11) (.var 12)) (.cst .none)) (.cmp .nin (.var 12) (.var 8)))]) [
      .ret (.cst (.bool false))] [],
      .iff (.cmp .nz (.idx (.var 11) (.var 12)) (.cst .none)) [
      .asg (.nm 18) false (.call "day_of" [(.var 1), (.var 6), (.var 12)]),
      .iff (.bop false [(.cmp .iz (.var 18) (.cst .none)), (.cmp .gt (.var 18) (.idx (.var 11) (.var 12)))]) [
      .ret (.cst (.bool false))] [],
      .iff (.cmp .lt (.blt .len [(.call "learning" [(.var 1), (.var 5), (.var 12)])]) (.idx (.var 11) (.var 12))) [
      .ret (.cst (.bool false))] []] []],
      .iff (.cmp .ne (.call "is_ground" [(.var 1), (.var 5)]) (.cmp .iz (.call "is_by" [(.var 1), (.var 5), (.cst (.int 8))]) (.cst (.bool true)))) [
      .ret (.cst (.bool false))] [],
      .iff (.bop true [(.call "is_ground" [(.var 1), (.var 5)]), (.cmp .nz (.call "is_by" [(.var 1), (.var 5), (.bin .sub (.blt .len [(.var 7)]) (.cst (.int 1)))]) (.cst (.bool true)))]) [
      .ret (.cst (.bool false))] [],
      .iff (.bop true [(.cmp .gt (.blt .len [(.var 7)]) (.cst (.int 1))), (.cmp .nz (.call "is_by" [(.var 1), (.var 5), (.bin .sub (.blt .len [(.var 7)]) (.cst (.int 2)))]) (.cst (.bool false)))]) [
      .ret (.cst (.bool false))] []],
    .ret (.call "_law_quick" [(.var 1)])]⟩
/-- law: k20 -/
def law_k20 : Fn := ⟨1, ["_law_script", "_law_dictionary_here", "_law_text_here", "_law_lots_here", "_law_lot", "_law_due", "_law_way", "_law_whole", "_law_k", "_law_at", "_law_place", "_law_sign", "_law_put", "_law_spoilt", "_law_odd", "_law_bad", "_law_told"], [
    .asg (.nm 1) false (.call "_law_dictionary" [(.var 0), (.cst (.int 10)), (.cst (.int 6))]),
    .par [2, 3] [false, false] [(.call "_law_text" [(.var 1)]), (.call "_law_lots" [(.idx (.var 1) (.cst (.int 0)))])],
    .asg (.nm 4) false (.idx (.var 3) (.call "_law_drawn" [(.var 0), (.cst (.int 1)), (.blt .len [(.var 3)])])),
    .asg (.nm 5) false (.call "_law_line" [(.var 4)]),
    .iff (.bop false [(.cmp .ne (.call "dictionary_text" [(.var 1)]) (.var 2)), (.cmp .ne (.call "read_dictionary" [(.var 2)]) (.var 1))]) [
      .ret (.cst (.bool false))] [],
    .iff (.cmp .ne (.call "lot_text" [(.var 1), (.var 4)]) (.var 5)) [
      .ret (.cst (.bool false))] [],
    .iff (.cmp .ne (.call "read_lot" [(.var 1), (.var 5)]) (.var 4)) [
      .ret (.cst (.bool false))] [],
    .for_ (.tp [(.nm 6), (.nm 7)]) .en [(.tup [(.var 2), (.var 5)])] [
      .for_ (.nm 8) .r1 [(.cst (.int 10))] [
      .asg (.nm 9) false (.bin .add (.bin .add (.cst (.int 80)) (.bin .mul (.cst (.int 50)) (.var 6))) (.bin .mul (.cst (.int 5)) (.var 8))),
      .par [10, 11] [false, false] [(.call "_law_drawn" [(.var 0), (.var 9), (.bin .add (.blt .len [(.var 7)]) (.cst (.int 1)))]), (.idx (.cst (.str (Str.ofString " abcort-,\nZ"))) (.call "_law_drawn" [(.var 0), (.bin .add (.var 9) (.cst (.int 1))), (.cst (.int 11))]))],
      .asg (.nm 12) false (.ite (.cmp .eq (.call "_law_drawn" [(.var 0), (.bin .add (.var 9) (.cst (.int 2))), (.cst (.int 3))]) (.cst (.int 0))) (.cst (.str (Str.ofString ""))) (.var 11)),
      .asg (.nm 13) false (.bin .add (.bin .add (.slc (.var 7) .nil (.var 10)) (.var 12)) (.slc (.var 7) (.bin .add (.var 10) (.call "_law_drawn" [(.var 0), (.bin .add (.var 9) (.cst (.int 3))), (.cst (.int 2))])) .nil)),
      .iff (.cmp .nin (.call "_law_again" [(.var 6), (.var 1), (.var 13)]) (.tup [(.cst .none), (.var 13)])) [
      .ret (.cst (.bool false))] []]],
    .par [14, 15] [false, false] [(.idx (.lst [(.cst .none), (.lst []), (.tup [(.cst (.str (Str.ofString "zz")))]), (.cst (.int 7))]) (.call "_law_drawn" [(.var 0), (.cst (.int 2)), (.cst (.int 4))])), (.slc (.var 1) .nil (.cst (.int 1)))],
    .asg (.nm 16) false (.lst [(.call "_law_no" [(.cst (.int 0)), (.var 15), (.cst (.int 0))]), (.call "_law_no" [(.cst (.int 1)), (.var 15), (.var 14)]), (.call "_law_no" [(.cst (.int 2)), (.var 15), (.var 14)])]),
    .asg (.nm 16) false (.bin .add (.var 16) (.lst [(.call "_law_no" [(.cst (.int 1)), (.var 1), (.var 14)])])),
    .ret (.bop true [(.call "_law_none" []), (.cmp .eq (.var 16) (.lst [(.cst (.int 0)), (.cst (.int 0)), (.cst (.int 0)), (.cst (.int 1))]))])]⟩
/-- law: k54 -/
def law_k54 : Fn := ⟨1, ["_law_script", "_law_dictionary_here", "_law_other", "_law_table", "_law_found", "_law_lot", "_law_one", "_law_is_so", "_law_start", "_law_word", "_law_rows", "_law_told", "_law_some", "_law_pairs", "_law_pair", "_law_lesson", "_law_due", "_law_row"], [
    .asg (.nm 1) false (.call "_law_dictionary" [(.var 0), (.cst (.int 10)), (.cst (.int 5)), (.cst (.int 6))]),
    .par [2, 3] [false, false] [(.call "_law_reworded" [(.var 0), (.cst (.int 100)), (.var 1)]), (.call "_law_tables" [(.var 1)])],
    .asg (.nm 4) true (.emp true),
    .for_ (.nm 5) .sq [(.srt "_law_one" 6 (.var 3) (.tup [(.blt .len [(.var 6)]), (.var 6)]))] [
      .asg (.nm 7) false (.cmp .ne (.idx (.var 3) (.var 5)) (.var 5)),
      .for_ (.nm 8) .sq [(.var 4)] [
      .iff (.bop true [(.cmp .lt (.blt .len [(.var 8)]) (.blt .len [(.var 5)])), (.blt .all [(.lc [("_law_word", 9)] (.nm 9) .sq [(.var 8)] .nil (.cmp .isin (.var 9) (.var 5)))])]) [
      .asg (.nm 7) false (.bop true [(.var 7), (.blt .all [(.lc [("_law_word", 9)] (.nm 9) .sq [(.idx (.var 3) (.var 8))] .nil (.cmp .isin (.var 9) (.var 5)))])])] []],
      .iff (.var 7) [
      .put 4 (.var 5) (.cst (.bool true))] []],
    .iff (.bop false [(.cmp .ne (.call "starts" [(.var 1)]) (.blt .sorted [(.var 4)])), (.cmp .ne (.call "starts" [(.var 2)]) (.blt .sorted [(.var 4)]))]) [
      .ret (.cst (.bool false))] [],
    .asg (.nm 10) true (.lst []),
    .for_ (.nm 8) .sq [(.blt .sorted [(.var 4)])] [
      .mut .app 10 [(.tup [(.var 8), (.blt .tuple [(.lc [("_law_word", 9)] (.nm 9) .sq [(.idx (.var 3) (.var 8))] (.cmp .nin (.var 9) (.var 8)) (.var 9))])])]],
    .asg (.nm 11) false (.call "canonical" [(.var 1)]),
    .iff (.bop false [(.cmp .ne (.var 11) (.tup [(.idx (.var 1) (.cst (.int 0))), (.blt .tuple [(.var 10)])])), (.cmp .ne (.call "canonical" [(.var 2)]) (.var 11)), (.cmp .ne (.call "canonical" [(.var 11)]) (.var 11))]) [
      .ret (.cst (.bool false))] [],
    .iff (.bop false [(.nt (.call "is_dictionary" [(.var 11)])), (.nt (.call "are_alike" [(.var 11), (.var 1)])), (.cmp .ne (.call "idle_lessons" [(.var 11)]) (.lst []))]) [
      .ret (.cst (.bool false))] [],
    .for_ (.nm 12) .sq [(.tup [(.var 1), (.var 2), (.var 11)])] [
      .iff (.cmp .lt (.blt .len [(.idx (.var 12) (.cst (.int 1)))]) (.blt .len [(.var 10)])) [
      .ret (.cst (.bool false))] [],
      .asg (.nm 13) false (.call "matched" [(.var 12)]),
      .iff (.bop false [(.cmp .ne (.lc [("_law_pair", 14)] (.nm 14) .sq [(.var 13)] .nil (.idx (.var 14) (.cst (.int 0)))) (.blt .sorted [(.var 4)])), (.cmp .nz (.call "is_matched" [(.var 12), (.var 13)]) (.cst (.bool true)))]) [
      .ret (.cst (.bool false))] [],
      .iff (.cmp .ne (.blt .lset [(.lc [("_law_pair", 14)] (.nm 14) .sq [(.var 13)] .nil (.idx (.var 14) (.cst (.int 1))))]) (.blt .len [(.var 13)])) [
      .ret (.cst (.bool false))] [],
      .for_ (.tp [(.nm 8), (.nm 15)]) .sq [(.var 13)] [
      .asg (.nm 16) false (.lc [("_law_row", 17)] (.nm 17) .sq [(.idx (.var 12) (.cst (.int 1)))] (.call "_law_stands" [(.var 17), (.var 8)]) (.var 17)),
      .iff (.cmp .ne (.var 15) (.idx (.var 16) (.cst (.int 0)))) [
      .ret (.cst (.bool false))] []]],
    .ret (.bop false [(.cmp .gt (.blt .len [(.idx (.var 1) (.cst (.int 1)))]) (.cst (.int 8))), (.cmp .ge (.blt .len [(.call "least_kept" [(.var 1)])]) (.blt .len [(.var 10)]))])]⟩
/-- law: k61 -/
def law_k61 : Fn := ⟨1, ["_law_script", "_law_dictionary_here", "_law_words", "_law_lot_here", "_law_lengths_here", "_law_k", "_law_here", "_law_word", "_law_row", "_law_case", "_law_at", "_law_j"], [
    .asg (.nm 1) false (.call "_law_dictionary" [(.var 0), (.cst (.int 10)), (.cst (.int 5)), (.cst (.int 6))]),
    .asg (.nm 2) false (.idx (.var 1) (.cst (.int 0))),
    .asg (.nm 3) false (.call "_law_lot" [(.var 0), (.cst (.int 100)), (.var 2)]),
    .asg (.nm 4) false (.call "_law_lengths" [(.var 1), (.var 3)]),
    .for_ (.nm 5) .r1 [(.cst (.int 8))] [
      .asg (.nm 6) false (.bin .add (.cst (.int 200)) (.bin .mul (.cst (.int 20)) (.var 5))),
      .par [7, 8] [false, true] [(.idx (.var 2) (.call "_law_pick" [(.var 0), (.var 6), (.blt .len [(.var 2)])])), (.lst [])],
      .iff (.bop true [(.cmp .isin (.var 7) (.var 4)), (.cmp .lt (.idx (.var 4) (.var 7)) (.cst (.int 9)))]) [
      .asg (.nm 8) true (.call "_law_short" [(.var 1), (.var 4), (.var 3), (.var 7)])] [],
      .asg (.nm 9) false (.call "_law_pick" [(.var 0), (.bin .add (.var 6) (.cst (.int 1))), (.cst (.int 5))]),
      .iff (.bop true [(.cmp .eq (.var 9) (.cst (.int 0))), (.cmp .ne (.var 8) (.lst []))]) [
      .put 8 (.call "_law_pick" [(.var 0), (.bin .add (.var 6) (.cst (.int 2))), (.blt .len [(.var 8)])]) (.idx (.var 2) (.call "_law_pick" [(.var 0), (.bin .add (.var 6) (.cst (.int 3))), (.blt .len [(.var 2)])]))] [
      .iff (.cmp .eq (.var 9) (.cst (.int 1))) [
      .asg (.nm 10) false (.call "_law_pick" [(.var 0), (.bin .add (.var 6) (.cst (.int 4))), (.bin .add (.blt .len [(.var 8)]) (.cst (.int 1)))]),
      .asg (.nm 8) true (.bin .add (.bin .add (.slc (.var 8) .nil (.var 10)) (.lst [(.idx (.var 2) (.call "_law_pick" [(.var 0), (.bin .add (.var 6) (.cst (.int 5))), (.blt .len [(.var 2)])]))])) (.slc (.var 8) (.var 10) .nil))] [
      .iff (.cmp .eq (.var 9) (.cst (.int 2))) [
      .asg (.nm 8) true (.lc [("_law_j", 11)] (.nm 11) .r1 [(.call "_law_pick" [(.var 0), (.bin .add (.var 6) (.cst (.int 12))), (.cst (.int 5))])] .nil (.idx (.var 2) (.call "_law_pick" [(.var 0), (.bin .add (.bin .add (.var 6) (.cst (.int 6))) (.var 11)), (.blt .len [(.var 2)])])))] [
      .iff (.cmp .eq (.var 9) (.cst (.int 3))) [
      .asg (.nm 8) true (.slc (.var 8) (.cst (.int 1)) .nil)] []]]],
      .iff (.cmp .ne (.call "is_telling" [(.var 1), (.var 3), (.var 7), (.var 8)]) (.call "_law_is_told" [(.var 1), (.var 3), (.var 7), (.var 8)])) [
      .ret (.cst (.bool false))] []],
    .ret (.call "_law_weights" [(.var 0), (.var 1), (.var 3), (.var 4)])]⟩
/-- law: k64 -/
def law_k64 : Fn := ⟨1, ["_law_script", "_law_dictionary_here", "_law_words", "_law_shut", "_law_lot", "_law_answers", "_law_k", "_law_word", "_law_lots_here", "_law_said", "_law_due", "_law_every", "_law_most_here"], [
    .asg (.nm 1) false (.call "_law_dictionary" [(.var 0), (.cst (.int 10)), (.cst (.int 5)), (.cst (.int 5))]),
    .par [2, 3] [false, true] [(.idx (.var 1) (.cst (.int 0))), (.lst [])],
    .for_ (.nm 4) .sq [(.call "_law_lots" [(.idx (.var 1) (.cst (.int 0)))])] [
      .iff (.cmp .eq (.call "_law_known" [(.idx (.var 1) (.cst (.int 1))), (.var 4)]) (.var 4)) [
      .mut .app 3 [(.var 4)]] []],
    .asg (.nm 5) true (.lst []),
    .for_ (.tp [(.nm 6), (.nm 7)]) .en [(.var 2)] [
      .iff (.cmp .eq (.call "_law_pick" [(.var 0), (.bin .add (.cst (.int 100)) (.var 6)), (.cst (.int 3))]) (.cst (.int 0))) [
      .mut .app 5 [(.tup [(.var 7), (.idx (.lst [(.cst (.str (Str.ofString "yes"))), (.cst (.str (Str.ofString "no")))]) (.call "_law_pick" [(.var 0), (.bin .add (.cst (.int 110)) (.var 6)), (.cst (.int 2))]))])]] []],
    .frz 5,
    .asg (.nm 5) true (.ite (.cmp .eq (.call "_law_pick" [(.var 0), (.cst (.int 120)), (.cst (.int 2))]) (.cst (.int 0))) (.rev (.var 5)) (.var 5)),
    .asg (.nm 8) false (.lc [("_law_lot", 4)] (.nm 4) .sq [(.blt .sorted [(.var 3)])] (.blt .all [(.lc [("_law_word", 7), ("_law_said", 9)] (.tp [(.nm 7), (.nm 9)]) .sq [(.var 5)] .nil (.cmp .eq (.cmp .isin (.var 7) (.var 4)) (.cmp .eq (.var 9) (.cst (.str (Str.ofString "yes"))))))]) (.var 4)),
    .frz 5,
    .iff (.bop false [(.cmp .ne (.call "fitting" [(.var 1), (.var 5)]) (.var 8)), (.cmp .ne (.call "next_question" [(.var 1), (.var 5)]) (.call "_law_next" [(.var 2), (.var 8)]))]) [
      .ret (.cst (.bool false))] [],
    .asg (.nm 10) false (.cst .none),
    .iff (.cmp .ne (.var 8) (.lst [])) [
      .asg (.nm 11) false (.blt .tuple [(.lc [("_law_word", 7)] (.nm 7) .sq [(.var 2)] (.blt .all [(.lc [("_law_lot", 4)] (.nm 4) .sq [(.var 8)] .nil (.cmp .isin (.var 7) (.var 4)))]) (.var 7))]),
      .asg (.nm 10) false (.tup [(.var 11), (.blt .tuple [(.lc [("_law_word", 7)] (.nm 7) .sq [(.var 2)] (.nt (.blt .any [(.lc [("_law_lot", 4)] (.nm 4) .sq [(.var 8)] .nil (.cmp .isin (.var 7) (.var 4)))])) (.var 7))])])] [],
    .frz 5,
    .iff (.cmp .ne (.call "sure_of" [(.var 1), (.var 5)]) (.var 10)) [
      .ret (.cst (.bool false))] [],
    .frz 3,
    .asg (.nm 12) false (.call "_law_most" [(.var 1), (.var 3)]),
    .ret (.bop true [(.cmp .nz (.var 12) (.cst .none)), (.call "_law_bounds" [(.var 0), (.var 1), (.var 3), (.var 12)])])]⟩
/-- law: k68 -/
def law_k68 : Fn := ⟨1, ["_law_script", "_law_dictionary_here", "_law_rows", "_law_lessons", "_law_k", "_law_some", "_law_here", "_law_case", "_law_j", "_law_is_so", "_law_row", "_law_start", "_law_lesson", "_law_word", "_law_bad", "_law_thing"], [
    .asg (.nm 1) false (.call "_law_dictionary" [(.var 0), (.cst (.int 10)), (.cst (.int 5)), (.cst (.int 7))]),
    .par [2, 3] [false, false] [(.call "matched" [(.var 1)]), (.idx (.var 1) (.cst (.int 1)))],
    .for_ (.nm 4) .r1 [(.cst (.int 7))] [
      .par [5, 6] [true, false] [(.blt .list [(.var 2)]), (.bin .add (.cst (.int 100)) (.bin .mul (.cst (.int 9)) (.var 4)))],
      .asg (.nm 7) false (.ite (.bop true [(.cmp .gt (.var 4) (.cst (.int 0))), (.cmp .ne (.var 2) (.lst []))]) (.call "_law_pick" [(.var 0), (.var 6), (.cst (.int 5))]) (.cst (.int 9))),
      .asg (.nm 8) false (.call "_law_pick" [(.var 0), (.bin .add (.var 6) (.cst (.int 1))), (.blt .max2 [(.blt .len [(.var 2)]), (.cst (.int 1))])]),
      .iff (.cmp .eq (.var 7) (.cst (.int 0))) [
      .mut .pop 5 [(.var 8)]] [
      .iff (.cmp .lt (.var 7) (.cst (.int 3))) [
      .put 5 (.var 8) (.tup [(.idx (.idx (.var 5) (.var 8)) (.cst (.int 0))), (.idx (.var 3) (.call "_law_pick" [(.var 0), (.bin .add (.var 6) (.cst (.int 2))), (.blt .len [(.var 3)])]))])] [
      .iff (.cmp .eq (.var 7) (.cst (.int 3))) [
      .asg (.nm 5) true (.rev (.var 5))] [
      .iff (.cmp .eq (.var 7) (.cst (.int 4))) [
      .put 5 (.var 8) (.tup [(.slc (.idx (.var 1) (.cst (.int 0))) .nil (.call "_law_pick" [(.var 0), (.bin .add (.var 6) (.cst (.int 3))), (.cst (.int 4))])), (.idx (.idx (.var 5) (.var 8)) (.cst (.int 1)))])] []]]],
      .asg (.nm 9) false (.cmp .eq (.lc [("_law_row", 10)] (.nm 10) .sq [(.var 5)] .nil (.idx (.var 10) (.cst (.int 0)))) (.lc [("_law_row", 10)] (.nm 10) .sq [(.var 2)] .nil (.idx (.var 10) (.cst (.int 0))))),
      .for_ (.tp [(.nm 11), (.nm 12)]) .sq [(.var 5)] [
      .asg (.nm 9) false (.bop true [(.var 9), (.blt .all [(.lc [("_law_word", 13)] (.nm 13) .sq [(.idx (.var 12) (.cst (.int 0)))] .nil (.cmp .isin (.var 13) (.var 11)))])]),
      .asg (.nm 9) false (.bop true [(.var 9), (.nt (.blt .all [(.lc [("_law_word", 13)] (.nm 13) .sq [(.idx (.var 12) (.cst (.int 1)))] .nil (.cmp .isin (.var 13) (.var 11)))]))])],
      .iff (.cmp .ne (.call "is_matched" [(.var 1), (.var 5)]) (.var 9)) [
      .ret (.cst (.bool false))] []],
    .iff (.cmp .ne (.cmp .eq (.var 2) (.lst [])) (.cmp .eq (.call "closed_lots" [(.var 1)]) (.blt .sorted [(.call "_law_lots" [(.idx (.var 1) (.cst (.int 0)))])]))) [
      .ret (.cst (.bool false))] [],
    .asg (.nm 14) true (.bin .add (.call "_law_odd" [(.var 0), (.cst (.int 300))]) (.lst [(.bin .add (.blt .tuple [(.var 2)]) (.tup [(.cst (.int 1))])), (.bin .add (.var 2) (.lst [(.cst .none)])), (.bin .add (.var 2) (.lst [(.tup [(.tup []), (.tup [])])]))])),
    .mut .app 14 [(.bin .add (.lc [("_law_row", 10)] (.nm 10) .sq [(.var 2)] .nil (.tup [(.idx (.var 10) (.cst (.int 0))), (.cst .none)])) (.lst [(.cst (.int 1))]))],
    .mut .ext 14 [(.lst [(.bin .add (.lc [("_law_row", 10)] (.nm 10) .sq [(.var 2)] .nil (.tup [(.idx (.var 10) (.cst (.int 0))), (.tup [(.tup [(.cst (.str (Str.ofString "zz")))]), (.tup [(.cst (.str (Str.ofString "zz")))])])])) (.lst [(.tup [(.tup []), (.tup [])])])), (.bin .add (.lc [("_law_row", 10)] (.nm 10) .sq [(.var 2)] .nil (.slc (.var 10) .nil (.cst (.int 1)))) (.lst [(.tup [])]))])],
    .ret (.cmp .eq (.lc [("_law_thing", 15)] (.nm 15) .sq [(.var 14)] .nil (.call "is_matched" [(.var 1), (.var 15)])) (.bin .mul (.lst [(.cst (.bool false))]) (.blt .len [(.var 14)])))]⟩
/-- law: k80 -/
def law_k80 : Fn := ⟨1, ["_law_script", "_law_dictionary_here", "_law_names", "_law_words", "_law_k", "_law_word", "_law_other", "_law_lot_here", "_law_more", "_law_answers", "_law_one", "_law_said", "_law_answer", "_law_rows", "_law_two", "_law_mine", "_law_yours"], [
    .par [1, 2] [false, true] [(.call "_law_dictionary" [(.var 0), (.cst (.int 10)), (.cst (.int 5)), (.cst (.int 6))]), (.emp true)],
    .asg (.nm 3) false (.idx (.var 1) (.cst (.int 0))),
    .for_ (.tp [(.nm 4), (.nm 5)]) .en [(.var 3)] [
      .put 2 (.var 5) (.bin .add (.idx (.cst (.str (Str.ofString "bdfhjl"))) (.var 4)) (.bin .mul (.idx (.cst (.str (Str.ofString "mz"))) (.call "_law_pick" [(.var 0), (.bin .add (.cst (.int 100)) (.var 4)), (.cst (.int 2))])) (.call "_law_pick" [(.var 0), (.cst (.int 110)), (.cst (.int 4))])))],
    .frz 2,
    .par [6, 7] [false, false] [(.call "_law_named" [(.var 1), (.var 2)]), (.call "_law_lot" [(.var 0), (.cst (.int 120)), (.var 3)])],
    .frz 2,
    .par [8, 5] [false, false] [(.call "_law_named" [(.var 7), (.var 2)]), (.idx (.var 3) (.call "_law_pick" [(.var 0), (.cst (.int 130)), (.blt .len [(.var 3)])]))],
    .asg (.nm 9) false (.lc [("_law_one", 10)] (.nm 10) .sq [(.slc (.var 3) .nil (.call "_law_pick" [(.var 0), (.cst (.int 131)), (.cst (.int 3))]))] .nil (.tup [(.var 10), (.ite (.cmp .isin (.var 10) (.var 7)) (.cst (.str (Str.ofString "yes"))) (.cst (.str (Str.ofString "no"))))])),
    .asg (.nm 11) false (.lc [("_law_one", 10), ("_law_answer", 12)] (.tp [(.nm 10), (.nm 12)]) .sq [(.var 9)] .nil (.tup [(.idx (.var 2) (.var 10)), (.var 12)])),
    .asg (.nm 13) true (.lst [(.tup [(.call "starts" [(.var 1)]), (.call "starts" [(.var 6)])]), (.tup [(.call "canonical" [(.var 1)]), (.call "canonical" [(.var 6)])])]),
    .mut .app 13 [(.tup [(.call "matched" [(.var 1)]), (.call "matched" [(.var 6)])])],
    .mut .app 13 [(.tup [(.call "idle_lessons" [(.var 1)]), (.call "idle_lessons" [(.var 6)])])],
    .mut .app 13 [(.tup [(.call "least_kept" [(.var 1)]), (.call "least_kept" [(.var 6)])])],
    .mut .app 13 [(.tup [(.call "told_out" [(.var 1), (.var 7), (.var 5)]), (.call "told_out" [(.var 6), (.var 8), (.idx (.var 2) (.var 5))])])],
    .mut .app 13 [(.tup [(.call "weights" [(.var 1), (.var 7)]), (.call "weights" [(.var 6), (.var 8)])])],
    .mut .app 13 [(.tup [(.call "fitting" [(.var 1), (.var 9)]), (.call "fitting" [(.var 6), (.var 11)])])],
    .mut .app 13 [(.tup [(.call "sure_of" [(.var 1), (.var 9)]), (.call "sure_of" [(.var 6), (.var 11)])])],
    .mut .app 13 [(.tup [(.call "next_question" [(.var 1), (.var 9)]), (.call "next_question" [(.var 6), (.var 11)])])],
    .mut .app 13 [(.tup [(.call "most_questions" [(.var 1)]), (.call "most_questions" [(.var 6)])])],
    .asg (.nm 14) false (.call "_law_reworded" [(.var 0), (.cst (.int 200)), (.var 1)]),
    .frz 2,
    .mut .app 13 [(.tup [(.call "parting" [(.var 1), (.tup [(.var 3), (.slc (.idx (.var 14) (.cst (.int 1))) (.cst (.int 1)) .nil)])]), (.call "parting" [(.var 6), (.call "_law_named" [(.tup [(.var 3), (.slc (.idx (.var 14) (.cst (.int 1))) (.cst (.int 1)) .nil)]), (.var 2)])])])],
    .frz 2,
    .ret (.blt .all [(.lc [("_law_mine", 15), ("_law_yours", 16)] (.tp [(.nm 15), (.nm 16)]) .sq [(.var 13)] .nil (.cmp .eq (.call "_law_named" [(.var 15), (.var 2)]) (.var 16)))])]⟩
/-- law: k85 -/
def law_k85 : Fn := ⟨1, ["_law_script", "_law_names", "_law_row", "_law_ring", "_law_lesson", "_law_pair"], [
    .asg (.nm 1) false (.tup [(.cst (.str (Str.ofString "wa"))), (.cst (.str (Str.ofString "wb"))), (.cst (.str (Str.ofString "wc"))), (.cst (.str (Str.ofString "wd")))]),
    .asg (.nm 2) false (.tup [(.var 1), (.tup [(.tup [(.tup [(.cst (.str (Str.ofString "wa")))]), (.tup [(.cst (.str (Str.ofString "wb")))])]), (.tup [(.tup [(.cst (.str (Str.ofString "wb")))]), (.tup [(.cst (.str (Str.ofString "wc")))])]), (.tup [(.tup [(.cst (.str (Str.ofString "wc")))]), (.tup [(.cst (.str (Str.ofString "wd")))])])])]),
    .iff (.bop false [(.cmp .ne (.call "starts" [(.var 2)]) (.lst [(.tup [(.cst (.str (Str.ofString "wa")))]), (.tup [(.cst (.str (Str.ofString "wb")))]), (.tup [(.cst (.str (Str.ofString "wc")))])])), (.cmp .ne (.call "least_kept" [(.var 2)]) (.idx (.var 2) (.cst (.int 1))))]) [
      .ret (.cst (.bool false))] [],
    .iff (.cmp .ne (.call "canonical" [(.var 2)]) (.tup [(.var 1), (.tup [(.tup [(.tup [(.cst (.str (Str.ofString "wa")))]), (.tup [(.cst (.str (Str.ofString "wb"))), (.cst (.str (Str.ofString "wc"))), (.cst (.str (Str.ofString "wd")))])]), (.tup [(.tup [(.cst (.str (Str.ofString "wb")))]), (.tup [(.cst (.str (Str.ofString "wc"))), (.cst (.str (Str.ofString "wd")))])]), (.tup [(.tup [(.cst (.str (Str.ofString "wc")))]), (.tup [(.cst (.str (Str.ofString "wd")))])])])])) [
      .ret (.cst (.bool false))] [],
    .iff (.bop false [(.cmp .ne (.call "told_length" [(.var 2), (.tup [(.cst (.str (Str.ofString "wa")))]), (.cst (.str (Str.ofString "wd")))]) (.cst (.int 4))), (.cmp .ne (.call "told_out" [(.var 2), (.tup [(.cst (.str (Str.ofString "wa")))]), (.cst (.str (Str.ofString "wd")))]) (.lst [(.cst (.str (Str.ofString "wa"))), (.cst (.str (Str.ofString "wb"))), (.cst (.str (Str.ofString "wc"))), (.cst (.str (Str.ofString "wd")))]))]) [
      .ret (.cst (.bool false))] [],
    .iff (.cmp .ne (.call "closed_lots" [(.var 2)]) (.lst [(.tup []), (.tup [(.cst (.str (Str.ofString "wa"))), (.cst (.str (Str.ofString "wb"))), (.cst (.str (Str.ofString "wc"))), (.cst (.str (Str.ofString "wd")))]), (.tup [(.cst (.str (Str.ofString "wb"))), (.cst (.str (Str.ofString "wc"))), (.cst (.str (Str.ofString "wd")))]), (.tup [(.cst (.str (Str.ofString "wc"))), (.cst (.str (Str.ofString "wd")))]), (.tup [(.cst (.str (Str.ofString "wd")))])])) [
      .ret (.cst (.bool false))] [],
    .iff (.bop false [(.cmp .ne (.call "most_questions" [(.var 2)]) (.cst (.int 3))), (.cmp .ne (.call "least_questions" [(.var 2)]) (.cst (.int 3))), (.cmp .ne (.call "next_question" [(.var 2), (.lst [])]) (.cst (.str (Str.ofString "wb"))))]) [
      .ret (.cst (.bool false))] [],
    .asg (.nm 3) false (.tup [(.slc (.var 1) .nil (.cst (.int 3))), (.tup [(.tup [(.tup [(.cst (.str (Str.ofString "wa"))), (.cst (.str (Str.ofString "wb")))]), (.tup [(.cst (.str (Str.ofString "wc")))])]), (.tup [(.tup [(.cst (.str (Str.ofString "wa"))), (.cst (.str (Str.ofString "wc")))]), (.tup [(.cst (.str (Str.ofString "wb")))])]), (.tup [(.tup [(.cst (.str (Str.ofString "wb"))), (.cst (.str (Str.ofString "wc")))]), (.tup [(.cst (.str (Str.ofString "wa")))])])])]),
    .iff (.bop false [(.cmp .ne (.call "starts" [(.var 3)]) (.lst [(.tup [(.cst (.str (Str.ofString "wa"))), (.cst (.str (Str.ofString "wb")))]), (.tup [(.cst (.str (Str.ofString "wa"))), (.cst (.str (Str.ofString "wc")))]), (.tup [(.cst (.str (Str.ofString "wb"))), (.cst (.str (Str.ofString "wc")))])])), (.cmp .ne (.call "idle_lessons" [(.var 3)]) (.lst []))]) [
      .ret (.cst (.bool false))] [],
    .iff (.cmp .ne (.call "matched" [(.var 3)]) (.lc [("_law_lesson", 4)] (.nm 4) .sq [(.idx (.var 3) (.cst (.int 1)))] .nil (.tup [(.idx (.var 4) (.cst (.int 0))), (.var 4)]))) [
      .ret (.cst (.bool false))] [],
    .asg (.nm 5) false (.tup [(.slc (.var 1) .nil (.cst (.int 2))), (.tup [(.tup [(.tup [(.cst (.str (Str.ofString "wa")))]), (.tup [(.cst (.str (Str.ofString "wb")))])]), (.tup [(.tup [(.cst (.str (Str.ofString "wb")))]), (.tup [(.cst (.str (Str.ofString "wa")))])])])]),
    .iff (.bop false [(.cmp .ne (.call "weights" [(.var 5), (.tup [])]) (.lst [(.tup [(.cst (.str (Str.ofString "wa"))), (.cst (.int 0))]), (.tup [(.cst (.str (Str.ofString "wb"))), (.cst (.int 0))])])), (.cmp .nz (.call "are_weights" [(.var 5), (.tup []), (.lst [(.tup [(.cst (.str (Str.ofString "wa"))), (.cst (.int 7))]), (.tup [(.cst (.str (Str.ofString "wb"))), (.cst (.int 8))])])]) (.cst (.bool true)))]) [
      .ret (.cst (.bool false))] [],
    .iff (.bop false [(.call "are_weights" [(.var 5), (.tup []), (.lst [(.tup [(.cst (.str (Str.ofString "wa"))), (.cst (.int 7))]), (.tup [(.cst (.str (Str.ofString "wb"))), (.cst (.int 9))])])]), (.cmp .nz (.call "told_out" [(.var 5), (.tup []), (.cst (.str (Str.ofString "wa")))]) (.cst .none))]) [
      .ret (.cst (.bool false))] [],
    .ret (.call "_law_grown" [(.var 0), (.var 1), (.var 2), (.var 3)])]⟩
/-- law: k90 -/
def law_k90 : Fn := ⟨1, ["_law_script", "_law_dictionary_here", "_law_lot_here", "_law_words", "_law_word", "_law_answers", "_law_told", "_law_one", "_law_again", "_law_k", "_law_rows", "_law_pairs", "_law_some", "_law_same", "_law_row", "_law_kept"], [
    .asg (.nm 1) false (.call "_law_dictionary" [(.var 0), (.cst (.int 10)), (.cst (.int 5)), (.cst (.int 6))]),
    .par [2, 3] [false, false] [(.call "_law_lot" [(.var 0), (.cst (.int 100)), (.idx (.var 1) (.cst (.int 0)))]), (.idx (.var 1) (.cst (.int 0)))],
    .par [4, 5] [false, false] [(.idx (.var 3) (.call "_law_pick" [(.var 0), (.cst (.int 110)), (.blt .len [(.var 3)])])), (.lst [(.tup [(.idx (.var 3) (.cst (.int 0))), (.cst (.str (Str.ofString "yes")))])])],
    .asg (.nm 6) true (.call "_law_lists" [(.var 1), (.var 2), (.var 4), (.var 5)]),
    .iff (.nt (.blt .all [(.lc [("_law_one", 7)] (.nm 7) .sq [(.var 6)] .nil (.isi (.var 7) .list))])) [
      .ret (.cst (.bool false))] [],
    .asg (.nm 8) false (.lc [("_law_one", 7)] (.nm 7) .sq [(.var 6)] .nil (.blt .list [(.var 7)])),
    .for_ (.tp [(.nm 9), (.nm 7)]) .en [(.var 6)] [
      .iff (.cmp .eq (.call "_law_pick" [(.var 0), (.bin .add (.cst (.int 200)) (.var 9)), (.cst (.int 2))]) (.cst (.int 0))) [
      .mut .clr 7 []] [
      .mut .app 7 [(.cst (.str (Str.ofString "x")))]]],
    .iff (.bop false [(.cmp .ne (.call "_law_lists" [(.var 1), (.var 2), (.var 4), (.var 5)]) (.var 8)), (.cmp .ne (.var 5) (.lst [(.tup [(.idx (.var 3) (.cst (.int 0))), (.cst (.str (Str.ofString "yes")))])]))]) [
      .ret (.cst (.bool false))] [],
    .par [10, 11] [false, false] [(.call "weights" [(.var 1), (.var 2)]), (.call "matched" [(.var 1)])],
    .par [12, 13] [false, false] [(.blt .list [(.var 10)]), (.blt .list [(.var 11)])],
    .iff (.bop false [(.cmp .nz (.call "are_weights" [(.var 1), (.var 2), (.var 10)]) (.cst (.bool true))), (.cmp .nz (.call "is_matched" [(.var 1), (.var 11)]) (.cst (.bool true)))]) [
      .ret (.cst (.bool false))] [],
    .asg (.nm 14) false (.bop false [(.call "told_out" [(.var 1), (.var 2), (.var 4)]), (.lst [(.var 4)])]),
    .asg (.nm 15) false (.blt .list [(.var 14)]),
    .exq (.call "is_telling" [(.var 1), (.var 2), (.var 4), (.var 14)]),
    .asg (.nm 6) true (.lst [(.call "are_alike" [(.var 1), (.var 1)]), (.call "can_strike" [(.var 1), (.tup [])]), (.call "is_telling" [(.var 1), (.var 2), (.var 4), (.var 14)])]),
    .mut .app 6 [(.call "is_parting" [(.var 1), (.var 1), (.tup [])])],
    .ret (.bop true [(.cmp .eq (.var 10) (.var 12)), (.cmp .eq (.var 11) (.var 13)), (.cmp .eq (.var 14) (.var 15)), (.blt .all [(.lc [("_law_one", 7)] (.nm 7) .sq [(.var 6)] .nil (.isi (.var 7) .bool))])])]⟩
/-- law: k99 -/
def law_k99 : Fn := ⟨1, ["_law_script", "_law_dictionary_here", "_law_other", "_law_words", "_law_lot_here", "_law_table", "_law_have", "_law_kept", "_law_numbers", "_law_word", "_law_row", "_law_answers", "_law_sure"], [
    .asg (.nm 1) false (.call "_law_dictionary" [(.var 0), (.cst (.int 10)), (.cst (.int 5)), (.cst (.int 6))]),
    .par [2, 3] [false, false] [(.call "_law_reworded" [(.var 0), (.cst (.int 100)), (.var 1)]), (.idx (.var 1) (.cst (.int 0)))],
    .par [4, 5] [false, false] [(.call "_law_lot" [(.var 0), (.cst (.int 150)), (.var 3)]), (.call "canonical" [(.var 1)])],
    .asg (.nm 6) false (.call "known" [(.var 1), (.var 4)]),
    .iff (.bop false [(.nt (.call "are_alike" [(.var 1), (.var 2)])), (.cmp .ne (.call "canonical" [(.var 2)]) (.var 5)), (.cmp .nz (.call "parting" [(.var 2), (.var 5)]) (.cst .none))]) [
      .ret (.cst (.bool false))] [],
    .asg (.nm 7) false (.tup [(.var 3), (.call "least_kept" [(.var 1)])]),
    .iff (.bop false [(.cmp .ne (.call "known" [(.var 5), (.var 4)]) (.var 6)), (.cmp .ne (.call "plain_known" [(.var 2), (.var 4)]) (.var 6)), (.cmp .ne (.call "known" [(.var 7), (.var 4)]) (.var 6))]) [
      .ret (.cst (.bool false))] [],
    .iff (.bop false [(.cmp .gt (.blt .len [(.idx (.var 5) (.cst (.int 1)))]) (.blt .min2 [(.blt .len [(.idx (.var 1) (.cst (.int 1)))]), (.blt .len [(.idx (.var 2) (.cst (.int 1)))])])), (.cmp .ne (.blt .len [(.idx (.var 5) (.cst (.int 1)))]) (.blt .len [(.call "starts" [(.var 1)])]))]) [
      .ret (.cst (.bool false))] [],
    .asg (.nm 8) false (.blt .dict [(.call "weights" [(.var 1), (.var 4)])]),
    .for_ (.nm 9) .sq [(.var 3)] [
      .asg (.nm 10) false (.call "told_out" [(.var 1), (.var 4), (.var 9)]),
      .iff (.bop false [(.cmp .ne (.cmp .iz (.var 10) (.cst .none)) (.cmp .nin (.var 9) (.var 6))), (.cmp .ne (.cmp .iz (.call "learning" [(.var 1), (.var 4), (.var 9)]) (.cst .none)) (.cmp .iz (.var 10) (.cst .none)))]) [
      .ret (.cst (.bool false))] [],
      .iff (.cmp .iz (.var 10) (.cst .none)) [
      .iff (.cmp .nz (.call "is_circle" [(.var 1), (.call "circle_for" [(.var 1), (.var 4), (.var 9)])]) (.cst (.bool true))) [
      .ret (.cst (.bool false))] []] [
      .iff (.bop false [(.cmp .ne (.blt .len [(.var 10)]) (.idx (.var 8) (.var 9))), (.nt (.call "is_telling" [(.var 1), (.var 4), (.var 9), (.var 10)]))]) [
      .ret (.cst (.bool false))] []]],
    .asg (.nm 11) true (.lst []),
    .frz 11,
    .whl (.cmp .nz (.call "next_question" [(.var 1), (.var 11)]) (.cst .none)) [
      .frz 11,
      .asg (.nm 9) false (.call "next_question" [(.var 1), (.var 11)]),
      .mut .app 11 [(.tup [(.var 9), (.ite (.cmp .isin (.var 9) (.var 6)) (.cst (.str (Str.ofString "yes"))) (.cst (.str (Str.ofString "no"))))])]],
    .frz 11,
    .iff (.bop false [(.cmp .ne (.call "fitting" [(.var 1), (.var 11)]) (.lst [(.var 6)])), (.cmp .gt (.blt .len [(.var 11)]) (.call "most_questions" [(.var 1)]))]) [
      .ret (.cst (.bool false))] [],
    .frz 11,
    .asg (.nm 12) false (.call "sure_of" [(.var 1), (.var 11)]),
    .iff (.cmp .ne (.var 12) (.tup [(.var 6), (.blt .tuple [(.lc [("_law_word", 9)] (.nm 9) .sq [(.var 3)] (.cmp .nin (.var 9) (.var 6)) (.var 9))])])) [
      .ret (.cst (.bool false))] [],
    .ret (.chn .le .le (.call "least_questions" [(.var 1)]) (.call "most_questions" [(.var 1)]) (.blt .len [(.var 3)]))]⟩
/-- _law_known: k02 k04 k07 k10 -/
def law_known : Fn := ⟨2, ["_law_dictionary_here", "_law_lot", "_law_have", "_law_turn", "_law_need", "_law_taught", "_law_word"], [
    .asg (.nm 2) false (.blt .list [(.var 1)]),
    .for_ (.nm 3) .r1 [(.blt .len [(.idx (.var 0) (.cst (.int 0)))])] [
      .for_ (.tp [(.nm 4), (.nm 5)]) .sq [(.idx (.var 0) (.cst (.int 1)))] [
      .iff (.cmp .eq (.lc [("_law_word", 6)] (.nm 6) .sq [(.var 4)] (.cmp .nin (.var 6) (.var 2)) (.var 6)) (.lst [])) [
      .asg (.nm 2) false (.bin .add (.var 2) (.lc [("_law_word", 6)] (.nm 6) .sq [(.var 5)] (.cmp .nin (.var 6) (.var 2)) (.var 6)))] []]],
    .ret (.blt .tuple [(.blt .sorted [(.var 2)])])]⟩
/-- _law_known: k50 k52 k54 k64 k66 -/
def law_known_k50 : Fn := ⟨2, ["_law_lessons", "_law_lot", "_law_have", "_law_old", "_law_word", "_law_need", "_law_taught"], [
    .par [2, 3] [true, false] [(.blt .dict [(.lc [("_law_word", 4)] (.nm 4) .sq [(.var 1)] .nil (.tup [(.var 4), (.cst (.bool true))]))]), (.cst .none)],
    .whl (.cmp .ne (.var 3) (.blt .len [(.var 2)])) [
      .asg (.nm 3) false (.blt .len [(.var 2)]),
      .for_ (.tp [(.nm 5), (.nm 6)]) .sq [(.var 0)] [
      .iff (.blt .all [(.lc [("_law_word", 4)] (.nm 4) .sq [(.var 5)] .nil (.cmp .isin (.var 4) (.var 2)))]) [
      .for_ (.nm 4) .sq [(.var 6)] [
      .put 2 (.var 4) (.cst (.bool true))]] []]],
    .ret (.blt .tuple [(.blt .sorted [(.var 2)])])]⟩
/-- _law_known: k60 k80 k99 -/
def law_known_k60 : Fn := ⟨2, ["_law_lessons", "_law_lot_here", "_law_have", "_law_old", "_law_word", "_law_need", "_law_taught"], [
    .par [2, 3] [true, false] [(.blt .dict [(.lc [("_law_word", 4)] (.nm 4) .sq [(.var 1)] .nil (.tup [(.var 4), (.cst (.bool true))]))]), (.cst .none)],
    .whl (.cmp .ne (.var 3) (.blt .len [(.var 2)])) [
      .asg (.nm 3) false (.blt .len [(.var 2)]),
      .for_ (.tp [(.nm 5), (.nm 6)]) .sq [(.var 0)] [
      .iff (.blt .all [(.lc [("_law_word", 4)] (.nm 4) .sq [(.var 5)] .nil (.cmp .isin (.var 4) (.var 2)))]) [
      .for_ (.nm 4) .sq [(.var 6)] [
      .put 2 (.var 4) (.cst (.bool true))]] []]],
    .ret (.blt .tuple [(.blt .sorted [(.var 2)])])]⟩
/-- _law_grown: k02 -/
def law_grown : Fn := ⟨6, ["_law_script", "_law_words", "_law_lessons", "_law_lots_here", "_law_told", "_law_closed", "_law_more", "_law_grown_here", "_law_lot", "_law_word", "_law_need", "_law_taught"], [
    .asg (.nm 6) false (.tup [(.tup [(.idx (.var 1) (.call "_law_drawn" [(.var 0), (.cst (.int 1)), (.blt .len [(.var 1)])]))]), (.tup [(.idx (.var 1) (.call "_law_drawn" [(.var 0), (.cst (.int 2)), (.blt .len [(.var 1)])]))])]),
    .asg (.nm 7) false (.tup [(.var 1), (.blt .tuple [(.blt .sset [(.bin .add (.var 2) (.tup [(.var 6)]))])])]),
    .for_ (.nm 8) .sq [(.var 3)] [
      .iff (.cmp .ne (.lc [("_law_word", 9)] (.nm 9) .sq [(.idx (.var 4) (.var 8))] (.cmp .nin (.var 9) (.call "known" [(.var 7), (.var 8)])) (.var 9)) (.lst [])) [
      .ret (.cst (.bool false))] []],
    .for_ (.tp [(.nm 10), (.nm 11)]) .sq [(.var 2)] [
      .iff (.cmp .ne (.lc [("_law_word", 9)] (.nm 9) .sq [(.var 11)] (.cmp .nin (.var 9) (.idx (.var 4) (.var 10))) (.var 9)) (.lst [])) [
      .ret (.cst (.bool false))] []],
    .ret (.cmp .eq (.lc [("_law_lot", 8)] (.nm 8) .sq [(.call "closed_lots" [(.var 7)])] (.cmp .nin (.var 8) (.var 5)) (.var 8)) (.lst []))]⟩
/-- _law_grown: k85 -/
def law_grown_k85 : Fn := ⟨4, ["_law_script", "_law_names", "_law_row", "_law_ring", "_law_grown_here", "_law_word", "_law_none", "_law_k"], [
    .asg (.nm 4) false (.lst [(.tup [(.tup []), (.tup [(.cst (.str (Str.ofString "wa")))])]), (.tup [(.tup [(.cst (.str (Str.ofString "wa")))]), (.tup [(.cst (.str (Str.ofString "wb")))])]), (.tup [(.tup [(.cst (.str (Str.ofString "wa"))), (.cst (.str (Str.ofString "wb")))]), (.tup [(.cst (.str (Str.ofString "wc")))])]), (.tup [(.tup [(.cst (.str (Str.ofString "wa"))), (.cst (.str (Str.ofString "wb"))), (.cst (.str (Str.ofString "wc")))]), (.tup [(.cst (.str (Str.ofString "wd")))])])]),
    .asg (.nm 4) false (.tup [(.var 1), (.blt .tuple [(.blt .sorted [(.var 4)])])]),
    .iff (.bop false [(.cmp .ne (.lc [("_law_word", 5)] (.nm 5) .sq [(.var 1)] .nil (.call "told_length" [(.var 4), (.tup []), (.var 5)])) (.lst [(.cst (.int 1)), (.cst (.int 2)), (.cst (.int 4)), (.cst (.int 8))])), (.cmp .ne (.call "starts" [(.var 4)]) (.lst [(.tup [])]))]) [
      .ret (.cst (.bool false))] [],
    .iff (.bop false [(.cmp .ne (.call "canonical" [(.var 4)]) (.tup [(.var 1), (.tup [(.tup [(.tup []), (.var 1)])])])), (.cmp .ne (.blt .len [(.call "least_kept" [(.var 4)])]) (.cst (.int 4)))]) [
      .ret (.cst (.bool false))] [],
    .iff (.bop false [(.cmp .ne (.call "told_out" [(.var 4), (.tup []), (.cst (.str (Str.ofString "wc")))]) (.lst [(.cst (.str (Str.ofString "wa"))), (.cst (.str (Str.ofString "wa"))), (.cst (.str (Str.ofString "wb"))), (.cst (.str (Str.ofString "wc")))])), (.cmp .ne (.call "sure_of" [(.var 4), (.lst [])]) (.tup [(.var 1), (.tup [])]))]) [
      .ret (.cst (.bool false))] [],
    .asg (.nm 6) false (.tup [(.var 1), (.tup [])]),
    .iff (.bop false [(.cmp .ne (.call "starts" [(.var 6)]) (.lst [])), (.cmp .ne (.call "most_questions" [(.var 6)]) (.cst (.int 4))), (.cmp .ne (.call "least_questions" [(.var 6)]) (.cst (.int 4)))]) [
      .ret (.cst (.bool false))] [],
    .asg (.nm 7) false (.call "_law_pick" [(.var 0), (.cst (.int 0)), (.cst (.int 4))]),
    .iff (.bop false [(.cmp .nz (.call "is_telling" [(.var 6), (.tup [(.idx (.var 1) (.var 7))]), (.idx (.var 1) (.var 7)), (.lst [(.idx (.var 1) (.var 7))])]) (.cst (.bool true))), (.cmp .nz (.call "told_out" [(.var 6), (.tup []), (.idx (.var 1) (.var 7))]) (.cst .none))]) [
      .ret (.cst (.bool false))] [],
    .ret (.bop true [(.cmp .eq (.call "parting" [(.var 6), (.var 2)]) (.tup [(.cst (.str (Str.ofString "wa")))])), (.cmp .eq (.call "parting" [(.var 2), (.var 4)]) (.tup [])), (.cmp .iz (.call "can_strike" [(.var 3), (.tup [])]) (.cst (.bool true)))])]⟩
/-- look_word: k04 k05 k10 k11 k13 k14 k17 k45 k60 k61 k80 k85 k90 k99 -/
def look_word : Fn := ⟨2, ["dictionary", "thing"], [
    .iff (.bop false [(.nt (.call "is_word" [(.var 1)])), (.cmp .nin (.var 1) (.idx (.var 0) (.cst (.int 0))))]) [
      .rse "NoWord"] []]⟩
/-- rest_of: k04 k05 k07 k08 k10 k11 k13 k14 k17 k45 k54 k66 k80 k85 k99 -/
def rest_of : Fn := ⟨2, ["one", "other", "word"], [
    .ret (.blt .tuple [(.lc [("word", 2)] (.nm 2) .sq [(.var 0)] (.cmp .nin (.var 2) (.var 1)) (.var 2))])]⟩
/-- look_asked: k04 k05 k14 k60 k61 k80 k85 k90 k99 -/
def look_asked : Fn := ⟨3, ["dictionary", "lot", "word"], [
    .exq (.call "look_dictionary" [(.var 0)]),
    .exq (.call "look_lot" [(.var 0), (.var 1)]),
    .exq (.call "look_word" [(.var 0), (.var 2)])]⟩
/-- look_asked: k10 k11 k45 -/
def look_asked_k10 : Fn := ⟨2, ["dictionary", "word"], [
    .exq (.call "look_dictionary" [(.var 0)]),
    .exq (.call "look_word" [(.var 0), (.var 1)])]⟩
/-- is_row: k04 k05 k45 -/
def is_row : Fn := ⟨3, ["dictionary", "lot", "thing", "at", "lesson"], [
    .iff (.nt (.isi (.var 2) .list)) [
      .ret (.cst .none)] [],
    .for_ (.tp [(.nm 3), (.nm 4)]) .en [(.var 2)] [
      .iff (.bop false [(.nt (.isi (.var 4) .tuple)), (.cmp .nin (.var 4) (.idx (.var 0) (.cst (.int 1)))), (.cmp .isin (.var 4) (.slc (.var 2) .nil (.var 3)))]) [
      .ret (.cst .none)] [],
      .iff (.nt (.call "lies_in" [(.idx (.var 4) (.cst (.int 0))), (.var 1)])) [
      .ret (.cst .none)] [],
      .asg (.nm 1) false (.call "both" [(.var 1), (.idx (.var 4) (.cst (.int 1)))])],
    .ret (.var 1)]⟩
/-- is_learning: k04 k05 -/
def is_learning : Fn := ⟨4, ["dictionary", "lot", "word", "thing", "behind"], [
    .exq (.call "look_asked" [(.var 0), (.var 1), (.var 2)]),
    .asg (.nm 4) false (.call "is_row" [(.var 0), (.var 1), (.var 3)]),
    .ret (.bop true [(.cmp .nz (.var 4) (.cst .none)), (.cmp .isin (.var 2) (.var 4))])]⟩
/-- learning: k04 k05 k14 k60 k99 -/
def learning : Fn := ⟨3, ["dictionary", "lot", "word", "line", "done", "row", "have", "seen", "lesson", "then"], [
    .exq (.call "look_asked" [(.var 0), (.var 1), (.var 2)]),
    .iff (.cmp .nin (.var 2) (.call "known_by" [(.idx (.var 0) (.cst (.int 1))), (.var 1)])) [
      .ret (.cst .none)] [],
    .asg (.nm 3) false (.lst [(.tup [(.lst []), (.var 1)])]),
    .whl (.cst (.bool true)) [
      .asg (.nm 4) false (.lc [("row", 5), ("have", 6)] (.tp [(.nm 5), (.nm 6)]) .sq [(.var 3)] (.cmp .isin (.var 2) (.var 6)) (.var 5)),
      .iff (.cmp .ne (.var 4) (.lst [])) [
      .ret (.blt .min [(.var 4)])] [],
      .asg (.nm 7) true (.emp true),
      .for_ (.tp [(.nm 5), (.nm 6)]) .sq [(.var 3)] [
      .for_ (.nm 8) .sq [(.idx (.var 0) (.cst (.int 1)))] [
      .asg (.nm 9) false (.call "both" [(.var 6), (.idx (.var 8) (.cst (.int 1)))]),
      .iff (.bop true [(.call "lies_in" [(.idx (.var 8) (.cst (.int 0))), (.var 6)]), (.cmp .ne (.var 9) (.var 6))]) [
      .iff (.bop false [(.cmp .nin (.var 9) (.var 7)), (.cmp .lt (.bin .add (.var 5) (.lst [(.var 8)])) (.idx (.var 7) (.var 9)))]) [
      .put 7 (.var 9) (.bin .add (.var 5) (.lst [(.var 8)]))] []] []]],
      .asg (.nm 3) false (.lcd [("have", 6), ("row", 5)] (.tp [(.nm 6), (.nm 5)]) true 7 .nil (.tup [(.var 5), (.var 6)]))]]⟩
/-- is_plain_circle: k04 k05 k07 k08 k11 k45 k99 -/
def is_plain_circle : Fn := ⟨2, ["dictionary", "lot", "need", "taught", "word"], [
    .for_ (.tp [(.nm 2), (.nm 3)]) .sq [(.idx (.var 0) (.cst (.int 1)))] [
      .iff (.bop true [(.blt .any [(.lc [("word", 4)] (.nm 4) .sq [(.var 3)] .nil (.cmp .isin (.var 4) (.var 1)))]), (.nt (.blt .any [(.lc [("word", 4)] (.nm 4) .sq [(.var 2)] .nil (.cmp .isin (.var 4) (.var 1)))]))]) [
      .ret (.cst (.bool false))] []],
    .ret (.cmp .ne (.var 1) (.tup []))]⟩
/-- is_circle: k04 k05 k08 k11 k99 -/
def is_circle : Fn := ⟨2, ["dictionary", "thing"], [
    .exq (.call "look_dictionary" [(.var 0)]),
    .ret (.bop true [(.call "is_lot_of" [(.var 0), (.var 1)]), (.call "is_plain_circle" [(.var 0), (.var 1)])])]⟩
/-- circle_for: k04 k05 k99 -/
def circle_for : Fn := ⟨3, ["dictionary", "lot", "word", "some"], [
    .exq (.call "look_asked" [(.var 0), (.var 1), (.var 2)]),
    .iff (.cmp .isin (.var 2) (.call "known_by" [(.idx (.var 0) (.cst (.int 1))), (.var 1)])) [
      .ret (.cst .none)] [],
    .for_ (.nm 3) .sq [(.call "all_lots" [(.call "rest_of" [(.idx (.var 0) (.cst (.int 0))), (.var 1)])])] [
      .iff (.bop true [(.cmp .isin (.var 2) (.var 3)), (.call "is_plain_circle" [(.var 0), (.var 3)])]) [
      .ret (.var 3)] []],
    .ret (.cst .none)]⟩
/-- greatest_circle: k04 k05 k08 -/
def greatest_circle : Fn := ⟨2, ["dictionary", "lot"], [
    .exq (.call "look_dictionary" [(.var 0)]),
    .exq (.call "look_lot" [(.var 0), (.var 1)]),
    .ret (.call "rest_of" [(.idx (.var 0) (.cst (.int 0))), (.call "known_by" [(.idx (.var 0) (.cst (.int 1))), (.var 1)])])]⟩
/-- _law_circle: k04 k07 -/
def law_circle : Fn := ⟨2, ["_law_dictionary_here", "_law_lot", "_law_need", "_law_taught", "_law_word"], [
    .for_ (.tp [(.nm 2), (.nm 3)]) .sq [(.idx (.var 0) (.cst (.int 1)))] [
      .iff (.bop true [(.cmp .ne (.lc [("_law_word", 4)] (.nm 4) .sq [(.var 3)] (.cmp .isin (.var 4) (.var 1)) (.var 4)) (.lst [])), (.cmp .eq (.lc [("_law_word", 4)] (.nm 4) .sq [(.var 2)] (.cmp .isin (.var 4) (.var 1)) (.var 4)) (.lst []))]) [
      .ret (.cst (.bool false))] []],
    .ret (.cmp .ne (.var 1) (.tup []))]⟩
/-- _law_behind: k04 -/
def law_behind : Fn := ⟨3, ["_law_dictionary_here", "_law_lot", "_law_row", "_law_have", "_law_k", "_law_lesson", "_law_word"], [
    .asg (.nm 3) false (.blt .list [(.var 1)]),
    .for_ (.tp [(.nm 4), (.nm 5)]) .en [(.var 2)] [
      .iff (.bop false [(.cmp .isin (.var 5) (.slc (.var 2) .nil (.var 4))), (.cmp .ne (.lc [("_law_word", 6)] (.nm 6) .sq [(.idx (.var 5) (.cst (.int 0)))] (.cmp .nin (.var 6) (.var 3)) (.var 6)) (.lst []))]) [
      .ret (.cst .none)] [],
      .asg (.nm 3) false (.bin .add (.var 3) (.blt .list [(.idx (.var 5) (.cst (.int 1)))]))],
    .ret (.var 3)]⟩
/-- _law_shortest: k04 -/
def law_shortest : Fn := ⟨3, ["_law_dictionary_here", "_law_lot", "_law_word", "_law_rows", "_law_turn", "_law_done", "_law_row", "_law_longer", "_law_have", "_law_lesson", "_law_lacks", "_law_new", "_law_one", "_law_part"], [
    .asg (.nm 3) false (.lst [(.lst [])]),
    .for_ (.nm 4) .r1 [(.bin .add (.blt .len [(.idx (.var 0) (.cst (.int 0)))]) (.cst (.int 1)))] [
      .asg (.nm 5) false (.lc [("_law_row", 6)] (.nm 6) .sq [(.var 3)] (.cmp .isin (.var 2) (.call "_law_behind" [(.var 0), (.var 1), (.var 6)])) (.var 6)),
      .iff (.cmp .ne (.var 5) (.lst [])) [
      .ret (.blt .min [(.var 5)])] [],
      .asg (.nm 7) true (.lst []),
      .for_ (.nm 6) .sq [(.var 3)] [
      .asg (.nm 8) false (.call "_law_behind" [(.var 0), (.var 1), (.var 6)]),
      .for_ (.nm 9) .sq [(.idx (.var 0) (.cst (.int 1)))] [
      .asg (.tp [(.nm 10), (.nm 11)]) false (.lc [("_law_part", 13)] (.nm 13) .sq [(.var 9)] .nil (.lc [("_law_one", 12)] (.nm 12) .sq [(.var 13)] (.cmp .nin (.var 12) (.var 8)) (.var 12))),
      .iff (.bop true [(.cmp .eq (.var 10) (.lst [])), (.cmp .ne (.var 11) (.lst []))]) [
      .mut .app 7 [(.bin .add (.var 6) (.lst [(.var 9)]))]] []]],
      .frz 7,
      .asg (.nm 3) false (.var 7)],
    .ret (.cst .none)]⟩
/-- _law_papers: k04 -/
def law_papers : Fn := ⟨5, ["_law_script", "_law_dictionary_here", "_law_lot", "_law_word", "_law_told", "_law_lessons", "_law_k", "_law_row", "_law_n", "_law_have", "_law_bad", "_law_lesson", "_law_thing"], [
    .asg (.nm 5) false (.blt .list [(.idx (.var 1) (.cst (.int 1)))]),
    .for_ (.nm 6) .r1 [(.cst (.int 4))] [
      .asg (.nm 7) true (.lst []),
      .for_ (.nm 8) .r1 [(.ite (.cmp .ne (.var 5) (.lst [])) (.call "_law_drawn" [(.var 0), (.bin .add (.cst (.int 100)) (.bin .mul (.cst (.int 8)) (.var 6))), (.cst (.int 4))]) (.cst (.int 0)))] [
      .mut .app 7 [(.idx (.var 5) (.call "_law_drawn" [(.var 0), (.bin .add (.bin .add (.cst (.int 101)) (.bin .mul (.cst (.int 8)) (.var 6))) (.var 8)), (.blt .len [(.var 5)])]))]],
      .asg (.nm 9) false (.call "_law_behind" [(.var 1), (.var 2), (.var 7)]),
      .iff (.cmp .ne (.call "is_learning" [(.var 1), (.var 2), (.var 3), (.var 7)]) (.bop true [(.cmp .nz (.var 9) (.cst .none)), (.cmp .isin (.var 3) (.var 9))])) [
      .ret (.cst (.bool false))] []],
    .asg (.nm 10) false (.lst [(.cst .none), (.tup []), (.blt .tuple [(.bop false [(.var 4), (.lst [(.cst .none)])])]), (.lst [(.cst .none)]), (.lst [(.tup [])]), (.lst [(.tup [(.tup [(.cst (.str (Str.ofString "zz")))]), (.tup [(.cst (.str (Str.ofString "zz")))])])])]),
    .asg (.nm 10) false (.bin .add (.var 10) (.lst [(.bin .add (.lc [("_law_lesson", 11)] (.nm 11) .sq [(.slc (.var 5) .nil (.cst (.int 1)))] .nil (.blt .list [(.var 11)])) (.lst [(.cst .none)])), (.cst (.int 7))])),
    .ret (.cmp .eq (.lc [("_law_thing", 12)] (.nm 12) .sq [(.var 10)] (.cmp .nz (.call "is_learning" [(.var 1), (.var 2), (.var 3), (.var 12)]) (.cst (.bool false))) (.var 12)) (.lst []))]⟩
/-- _law_words: k05 -/
def law_words : Fn := ⟨5, ["_law_dictionary_here", "_law_lot", "_law_have", "_law_rest", "_law_circles", "_law_words_here", "_law_row", "_law_word", "_law_told", "_law_ring", "_law_one", "_law_lesson"], [
    .asg (.nm 5) false (.idx (.var 0) (.cst (.int 0))),
    .asg (.nm 6) false (.lst []),
    .for_ (.nm 7) .sq [(.var 5)] [
      .par [8, 9] [false, false] [(.call "learning" [(.var 0), (.var 1), (.var 7)]), (.call "circle_for" [(.var 0), (.var 1), (.var 7)])],
      .iff (.bop false [(.cmp .ne (.cmp .iz (.var 8) (.cst .none)) (.cmp .isin (.var 7) (.var 3))), (.cmp .ne (.cmp .iz (.var 9) (.cst .none)) (.cmp .isin (.var 7) (.var 2)))]) [
      .ret (.cst (.bool false))] [],
      .iff (.cmp .nz (.var 9) (.cst .none)) [
      .iff (.bop false [(.cmp .nin (.var 9) (.var 4)), (.cmp .nin (.var 7) (.var 9))]) [
      .ret (.cst (.bool false))] [],
      .iff (.cmp .ne (.lc [("_law_one", 10)] (.nm 10) .sq [(.var 9)] (.cmp .nin (.var 10) (.var 3)) (.var 10)) (.lst [])) [
      .ret (.cst (.bool false))] []] [],
      .iff (.cmp .nz (.var 8) (.cst .none)) [
      .iff (.cmp .nz (.call "is_learning" [(.var 0), (.var 1), (.var 7), (.var 8)]) (.cst (.bool true))) [
      .ret (.cst (.bool false))] [],
      .iff (.cmp .gt (.blt .len [(.var 8)]) (.bin .sub (.blt .len [(.var 2)]) (.blt .len [(.var 1)]))) [
      .ret (.cst (.bool false))] [],
      .iff (.cmp .ne (.cmp .eq (.var 8) (.lst [])) (.cmp .isin (.var 7) (.var 1))) [
      .ret (.cst (.bool false))] [],
      .iff (.bop true [(.cmp .ne (.var 8) (.lst [])), (.cmp .iz (.call "is_learning" [(.var 0), (.var 1), (.var 7), (.slc (.var 8) .nil (.neg (.cst (.int 1))))]) (.cst (.bool true)))]) [
      .ret (.cst (.bool false))] [],
      .asg (.nm 6) false (.bin .add (.var 6) (.lc [("_law_lesson", 11)] (.nm 11) .sq [(.var 8)] (.cmp .nin (.var 11) (.var 6)) (.var 11)))] []],
    .iff (.bop true [(.cmp .ne (.var 2) (.tup [])), (.cmp .nz (.call "is_learning" [(.var 0), (.var 1), (.idx (.var 2) (.neg (.cst (.int 1)))), (.var 6)]) (.cst (.bool true)))]) [
      .ret (.cst (.bool false))] [],
    .ret (.cst (.bool true))]⟩
/-- is_plain_ground: k07 k08 k11 k14 k17 k45 -/
def is_plain_ground : Fn := ⟨2, ["dictionary", "lot"], [
    .ret (.cmp .eq (.call "known_by" [(.idx (.var 0) (.cst (.int 1))), (.var 1)]) (.idx (.var 0) (.cst (.int 0))))]⟩
/-- is_ground: k07 k08 k14 k17 -/
def is_ground : Fn := ⟨2, ["dictionary", "thing"], [
    .exq (.call "look_dictionary" [(.var 0)]),
    .ret (.bop true [(.call "is_lot_of" [(.var 0), (.var 1)]), (.call "is_plain_ground" [(.var 0), (.var 1)])])]⟩
/-- plain_least: k07 k08 k14 -/
def plain_least : Fn := ⟨1, ["dictionary", "lot"], [
    .for_ (.nm 1) .sq [(.call "all_lots" [(.idx (.var 0) (.cst (.int 0)))])] [
      .iff (.call "is_plain_ground" [(.var 0), (.var 1)]) [
      .ret (.var 1)] []],
    .ret (.idx (.var 0) (.cst (.int 0)))]⟩
/-- least_ground: k07 k08 k14 -/
def least_ground : Fn := ⟨1, ["dictionary"], [
    .exq (.call "look_dictionary" [(.var 0)]),
    .ret (.call "plain_least" [(.var 0)])]⟩
/-- plain_grounds: k07 k08 k11 k45 -/
def plain_grounds : Fn := ⟨1, ["dictionary", "found", "lot", "lesser", "at", "less"], [
    .asg (.nm 1) true (.lst []),
    .for_ (.nm 2) .sq [(.call "all_lots" [(.idx (.var 0) (.cst (.int 0)))])] [
      .asg (.nm 3) false (.lc [("at", 4)] (.nm 4) .r1 [(.blt .len [(.var 2)])] .nil (.bin .add (.slc (.var 2) .nil (.var 4)) (.slc (.var 2) (.bin .add (.var 4) (.cst (.int 1))) .nil))),
      .iff (.bop true [(.call "is_plain_ground" [(.var 0), (.var 2)]), (.nt (.blt .any [(.lc [("less", 5)] (.nm 5) .sq [(.var 3)] .nil (.call "is_plain_ground" [(.var 0), (.var 5)]))]))]) [
      .mut .app 1 [(.var 2)]] []],
    .ret (.blt .sorted [(.var 1)])]⟩
/-- grounds: k07 k08 k11 k45 -/
def grounds : Fn := ⟨1, ["dictionary"], [
    .exq (.call "look_dictionary" [(.var 0)]),
    .ret (.call "plain_grounds" [(.var 0)])]⟩
/-- always: k07 k08 k11 -/
def always : Fn := ⟨1, ["dictionary", "some", "word", "lot"], [
    .exq (.call "look_dictionary" [(.var 0)]),
    .asg (.nm 1) false (.call "plain_grounds" [(.var 0)]),
    .ret (.blt .tuple [(.lc [("word", 2)] (.nm 2) .sq [(.idx (.var 0) (.cst (.int 0)))] (.blt .all [(.lc [("lot", 3)] (.nm 3) .sq [(.var 1)] .nil (.cmp .isin (.var 2) (.var 3)))]) (.var 2))])]⟩
/-- do_touch: k07 k08 k45 -/
def do_touch : Fn := ⟨2, ["one", "other", "word"], [
    .ret (.blt .any [(.lc [("word", 2)] (.nm 2) .sq [(.var 0)] .nil (.cmp .isin (.var 2) (.var 1)))])]⟩
/-- are_apart: k07 k08 k45 -/
def are_apart : Fn := ⟨2, ["dictionary", "thing", "lot", "at", "other"], [
    .exq (.call "look_dictionary" [(.var 0)]),
    .iff (.bop false [(.nt (.isi (.var 1) .list)), (.nt (.blt .all [(.lc [("lot", 2)] (.nm 2) .sq [(.var 1)] .nil (.call "is_lot_of" [(.var 0), (.var 2)]))])), (.nt (.call "is_rising" [(.var 1)]))]) [
      .ret (.cst (.bool false))] [],
    .iff (.nt (.blt .all [(.lc [("lot", 2)] (.nm 2) .sq [(.var 1)] .nil (.call "is_plain_circle" [(.var 0), (.var 2)]))])) [
      .ret (.cst (.bool false))] [],
    .ret (.nt (.blt .any [(.lc2 [("at", 3), ("lot", 2), ("other", 4)] (.tp [(.nm 3), (.nm 2)]) .en [(.var 1)] (.nm 4) .sq [(.slc (.var 1) (.bin .add (.var 3) (.cst (.int 1))) .nil)] (.call "do_touch" [(.var 2), (.var 4)]))]))]⟩
/-- most_from: k07 k08 k45 -/
def most_from : Fn := ⟨3, ["circles", "free", "known", "circle", "word"], [
    .iff (.cmp .nin (.var 1) (.var 2)) [
      .put 2 (.var 1) (.cst (.int 0)),
      .for_ (.nm 3) .sq [(.var 0)] [
      .iff (.blt .all [(.lc [("word", 4)] (.nm 4) .sq [(.var 3)] .nil (.cmp .isin (.var 4) (.var 1)))]) [
      .frz 2,
      .put 2 (.var 1) (.blt .max2 [(.idx (.var 2) (.var 1)), (.bin .add (.cst (.int 1)) (.call "most_from" [(.var 0), (.call "rest_of" [(.var 1), (.var 3)]), (.var 2)]))])] []]] [],
    .ret (.idx (.var 2) (.var 1))]⟩
/-- plain_most_apart: k07 k08 k45 -/
def plain_most_apart : Fn := ⟨1, ["dictionary", "circles", "lot", "free", "found", "told", "left", "circle", "word"], [
    .asg (.nm 1) false (.blt .sorted [(.lc [("lot", 2)] (.nm 2) .sq [(.call "all_lots" [(.idx (.var 0) (.cst (.int 0)))])] (.call "is_plain_circle" [(.var 0), (.var 2)]) (.var 2))]),
    .par [3, 4, 5] [false, true, false] [(.idx (.var 0) (.cst (.int 0))), (.lst []), (.emp true)],
    .asg (.nm 6) false (.call "most_from" [(.var 1), (.var 3), (.var 5)]),
    .for_ (.nm 7) .sq [(.var 1)] [
      .iff (.bop true [(.cmp .gt (.var 6) (.cst (.int 0))), (.blt .all [(.lc [("word", 8)] (.nm 8) .sq [(.var 7)] .nil (.cmp .isin (.var 8) (.var 3)))])]) [
      .iff (.cmp .eq (.call "most_from" [(.var 1), (.call "rest_of" [(.var 3), (.var 7)]), (.var 5)]) (.bin .sub (.var 6) (.cst (.int 1)))) [
      .mut .app 4 [(.var 7)],
      .par [3, 6] [false, false] [(.call "rest_of" [(.var 3), (.var 7)]), (.bin .sub (.var 6) (.cst (.int 1)))]] []] []],
    .retv 4]⟩
/-- most_apart: k07 k08 k45 -/
def most_apart : Fn := ⟨1, ["dictionary"], [
    .exq (.call "look_dictionary" [(.var 0)]),
    .ret (.call "plain_most_apart" [(.var 0)])]⟩
/-- gap: k07 k08 -/
def gap : Fn := ⟨1, ["dictionary"], [
    .exq (.call "look_dictionary" [(.var 0)]),
    .ret (.bin .sub (.blt .len [(.call "plain_least" [(.var 0)])]) (.blt .len [(.call "plain_most_apart" [(.var 0)])]))]⟩
/-- missed: k07 k08 -/
def missed : Fn := ⟨2, ["dictionary", "lot", "some"], [
    .exq (.call "look_dictionary" [(.var 0)]),
    .exq (.call "look_lot" [(.var 0), (.var 1)]),
    .for_ (.nm 2) .sq [(.call "all_lots" [(.call "rest_of" [(.idx (.var 0) (.cst (.int 0))), (.var 1)])])] [
      .iff (.call "is_plain_circle" [(.var 0), (.var 2)]) [
      .ret (.var 2)] []],
    .ret (.cst .none)]⟩
/-- _law_apart: k07 -/
def law_apart : Fn := ⟨1, ["_law_lots_here", "_law_words", "_law_lot"], [
    .asg (.nm 1) false (.lst []),
    .for_ (.nm 2) .sq [(.var 0)] [
      .asg (.nm 1) false (.bin .add (.var 1) (.blt .list [(.var 2)]))],
    .ret (.cmp .eq (.blt .len [(.var 1)]) (.blt .lset [(.var 1)]))]⟩
/-- _law_most: k07 -/
def law_most : Fn := ⟨2, ["_law_circles_here", "_law_taken", "_law_found", "_law_k", "_law_circle_here", "_law_word", "_law_rest"], [
    .asg (.nm 2) false (.lst [(.lst [])]),
    .for_ (.tp [(.nm 3), (.nm 4)]) .en [(.var 0)] [
      .iff (.cmp .eq (.lc [("_law_word", 5)] (.nm 5) .sq [(.var 4)] (.cmp .isin (.var 5) (.var 1)) (.var 5)) (.lst [])) [
      .asg (.nm 2) false (.bin .add (.var 2) (.lc [("_law_rest", 6)] (.nm 6) .sq [(.call "_law_most" [(.slc (.var 0) (.bin .add (.var 3) (.cst (.int 1))) .nil), (.bin .add (.var 1) (.blt .list [(.var 4)]))])] .nil (.bin .add (.lst [(.var 4)]) (.var 6))))] []],
    .ret (.var 2)]⟩
/-- _law_most: k64 -/
def law_most_k64 : Fn := ⟨2, ["_law_dictionary_here", "_law_shut", "_law_most_here", "_law_lot", "_law_told_here", "_law_many", "_law_word"], [
    .asg (.nm 2) false (.cst (.int 0)),
    .for_ (.nm 3) .sq [(.var 1)] [
      .par [4, 5] [false, false] [(.lst []), (.cst (.int 0))],
      .whl (.cmp .nz (.call "next_question" [(.var 0), (.var 4)]) (.cst .none)) [
      .asg (.nm 6) false (.call "next_question" [(.var 0), (.var 4)]),
      .par [4, 5] [false, false] [(.bin .add (.var 4) (.lst [(.tup [(.var 6), (.ite (.cmp .isin (.var 6) (.var 3)) (.cst (.str (Str.ofString "yes"))) (.cst (.str (Str.ofString "no"))))])])), (.bin .add (.var 5) (.cst (.int 1)))]],
      .iff (.cmp .ne (.call "fitting" [(.var 0), (.var 4)]) (.lst [(.var 3)])) [
      .ret (.cst .none)] [],
      .asg (.nm 2) false (.blt .max2 [(.var 2), (.var 5)])],
    .ret (.var 2)]⟩
/-- _law_circles: k07 -/
def law_circles : Fn := ⟨5, ["_law_script", "_law_dictionary_here", "_law_lots_here", "_law_rings", "_law_few", "_law_words", "_law_circles_here", "_law_rows", "_law_most_here", "_law_row", "_law_k", "_law_n", "_law_thing", "_law_due", "_law_lot", "_law_bad"], [
    .asg (.nm 5) false (.idx (.var 1) (.cst (.int 0))),
    .asg (.nm 6) false (.blt .sorted [(.var 3)]),
    .asg (.nm 7) false (.call "_law_most" [(.var 6), (.lst [])]),
    .asg (.nm 8) false (.blt .max [(.lc [("_law_row", 9)] (.nm 9) .sq [(.var 7)] .nil (.blt .len [(.var 9)]))]),
    .iff (.cmp .ne (.call "most_apart" [(.var 1)]) (.blt .min [(.lc [("_law_row", 9)] (.nm 9) .sq [(.var 7)] (.cmp .eq (.blt .len [(.var 9)]) (.var 8)) (.var 9))])) [
      .ret (.cst (.bool false))] [],
    .iff (.cmp .ne (.call "gap" [(.var 1)]) (.bin .sub (.var 4) (.var 8))) [
      .ret (.cst (.bool false))] [],
    .for_ (.nm 10) .r1 [(.cst (.int 4))] [
      .asg (.nm 9) false (.lc [("_law_n", 11)] (.nm 11) .r1 [(.call "_law_drawn" [(.var 0), (.bin .add (.cst (.int 69)) (.bin .mul (.cst (.int 5)) (.var 10))), (.cst (.int 4))])] .nil (.idx (.var 2) (.call "_law_drawn" [(.var 0), (.bin .add (.bin .add (.cst (.int 70)) (.bin .mul (.cst (.int 5)) (.var 10))) (.var 11)), (.blt .len [(.var 2)])]))),
      .for_ (.nm 12) .sq [(.tup [(.var 9), (.blt .sset [(.var 9)])])] [
      .asg (.nm 13) false (.bop true [(.cmp .eq (.var 12) (.blt .sset [(.var 12)])), (.cmp .eq (.lc [("_law_lot", 14)] (.nm 14) .sq [(.var 12)] (.cmp .nin (.var 14) (.var 6)) (.var 14)) (.lst []))]),
      .iff (.cmp .ne (.call "are_apart" [(.var 1), (.var 12)]) (.bop true [(.var 13), (.call "_law_apart" [(.var 12)])])) [
      .ret (.cst (.bool false))] []]],
    .asg (.nm 15) false (.lst [(.cst .none), (.tup []), (.lst [(.cst .none)]), (.lst [(.tup [])]), (.lst [(.tup [(.cst (.str (Str.ofString "zz")))])]), (.lst [(.blt .list [(.var 5)])]), (.bin .add (.blt .tuple [(.slc (.var 6) .nil (.cst (.int 1)))]) (.tup [(.cst .none)])), (.cst (.int 7))]),
    .iff (.cmp .ne (.lc [("_law_thing", 12)] (.nm 12) .sq [(.var 15)] (.cmp .nz (.call "are_apart" [(.var 1), (.var 12)]) (.cst (.bool false))) (.var 12)) (.lst [])) [
      .ret (.cst (.bool false))] [],
    .iff (.cmp .nz (.call "are_apart" [(.var 1), (.lst [])]) (.cst (.bool true))) [
      .ret (.cst (.bool false))] [],
    .ret (.cst (.bool true))]⟩
/-- _law_three: k08 -/
def law_three : Fn := ⟨1, ["_law_script", "_law_names", "_law_rows", "_law_three_here"], [
    .asg (.nm 1) false (.idx (.lst [(.lst [(.cst (.str (Str.ofString "art"))), (.cst (.str (Str.ofString "bee"))), (.cst (.str (Str.ofString "cot")))]), (.lst [(.cst (.str (Str.ofString "cot"))), (.cst (.str (Str.ofString "dew"))), (.cst (.str (Str.ofString "elm")))])]) (.call "_law_drawn" [(.var 0), (.cst (.int 1)), (.cst (.int 2))])),
    .asg (.nm 2) false (.lst [(.tup [(.tup [(.idx (.var 1) (.cst (.int 0))), (.idx (.var 1) (.cst (.int 1)))]), (.tup [(.idx (.var 1) (.cst (.int 2)))])]), (.tup [(.tup [(.idx (.var 1) (.cst (.int 0))), (.idx (.var 1) (.cst (.int 2)))]), (.tup [(.idx (.var 1) (.cst (.int 1)))])])]),
    .asg (.nm 2) false (.bin .add (.var 2) (.lst [(.tup [(.tup [(.idx (.var 1) (.cst (.int 1))), (.idx (.var 1) (.cst (.int 2)))]), (.tup [(.idx (.var 1) (.cst (.int 0)))])])])),
    .asg (.nm 3) false (.tup [(.blt .tuple [(.var 1)]), (.blt .tuple [(.blt .sorted [(.var 2)])])]),
    .iff (.bop false [(.cmp .ne (.call "gap" [(.var 3)]) (.cst (.int 1))), (.cmp .ne (.call "least_ground" [(.var 3)]) (.tup [(.idx (.var 1) (.cst (.int 0))), (.idx (.var 1) (.cst (.int 1)))])), (.cmp .ne (.blt .len [(.call "grounds" [(.var 3)])]) (.cst (.int 3)))]) [
      .ret (.cst (.bool false))] [],
    .ret (.bop true [(.cmp .eq (.blt .len [(.call "most_apart" [(.var 3)])]) (.cst (.int 1))), (.cmp .eq (.call "always" [(.var 3)]) (.tup []))])]⟩
/-- _law_own: k08 -/
def law_own : Fn := ⟨2, ["_law_dictionary_here", "_law_some", "_law_lot", "_law_k", "_law_word", "_law_less", "_law_ring", "_law_one"], [
    .for_ (.nm 2) .sq [(.var 1)] [
      .iff (.cmp .nz (.call "is_ground" [(.var 0), (.var 2)]) (.cst (.bool true))) [
      .ret (.cst (.bool false))] [],
      .for_ (.tp [(.nm 3), (.nm 4)]) .en [(.var 2)] [
      .asg (.nm 5) false (.bin .add (.slc (.var 2) .nil (.var 3)) (.slc (.var 2) (.bin .add (.var 3) (.cst (.int 1))) .nil)),
      .asg (.nm 6) false (.call "missed" [(.var 0), (.var 5)]),
      .iff (.bop false [(.cmp .nz (.call "is_ground" [(.var 0), (.var 5)]) (.cst (.bool false))), (.cmp .iz (.var 6) (.cst .none))]) [
      .ret (.cst (.bool false))] [],
      .iff (.cmp .ne (.lc [("_law_one", 7)] (.nm 7) .sq [(.var 6)] (.cmp .isin (.var 7) (.var 2)) (.var 7)) (.lst [(.var 4)])) [
      .ret (.cst (.bool false))] []]],
    .ret (.cst (.bool true))]⟩
/-- is_of: k10 k11 k45 -/
def is_of : Fn := ⟨3, ["dictionary", "word", "lot"], [
    .ret (.cmp .isin (.var 1) (.call "known_by" [(.idx (.var 0) (.cst (.int 1))), (.var 2)]))]⟩
/-- is_plain_support: k10 k11 k45 -/
def is_plain_support : Fn := ⟨3, ["dictionary", "word", "lot", "lesser", "at", "less"], [
    .asg (.nm 3) false (.lc [("at", 4)] (.nm 4) .r1 [(.blt .len [(.var 2)])] .nil (.bin .add (.slc (.var 2) .nil (.var 4)) (.slc (.var 2) (.bin .add (.var 4) (.cst (.int 1))) .nil))),
    .ret (.bop true [(.call "is_of" [(.var 0), (.var 1), (.var 2)]), (.nt (.blt .any [(.lc [("less", 5)] (.nm 5) .sq [(.var 3)] .nil (.call "is_of" [(.var 0), (.var 1), (.var 5)]))]))])]⟩
/-- plain_supports: k10 k11 k45 -/
def plain_supports : Fn := ⟨2, ["dictionary", "word", "lots", "lot"], [
    .asg (.nm 2) false (.call "all_lots" [(.call "rest_of" [(.idx (.var 0) (.cst (.int 0))), (.tup [(.var 1)])])]),
    .ret (.blt .sorted [(.lc [("lot", 3)] (.nm 3) .sq [(.var 2)] (.call "is_plain_support" [(.var 0), (.var 1), (.var 3)]) (.var 3))])]⟩
/-- supports: k10 k11 -/
def supports : Fn := ⟨2, ["dictionary", "word"], [
    .exq (.call "look_asked" [(.var 0), (.var 1)]),
    .ret (.call "plain_supports" [(.var 0), (.var 1)])]⟩
/-- is_support: k10 k11 -/
def is_support : Fn := ⟨3, ["dictionary", "word", "thing"], [
    .exq (.call "look_asked" [(.var 0), (.var 1)]),
    .ret (.bop true [(.call "is_lot_of" [(.var 0), (.var 2)]), (.cmp .nin (.var 1) (.var 2)), (.call "is_plain_support" [(.var 0), (.var 1), (.var 2)])])]⟩
/-- surely: k10 k11 -/
def surely : Fn := ⟨2, ["dictionary", "word", "some", "one", "lot"], [
    .exq (.call "look_asked" [(.var 0), (.var 1)]),
    .asg (.nm 2) false (.call "plain_supports" [(.var 0), (.var 1)]),
    .iff (.cmp .eq (.var 2) (.lst [])) [
      .ret (.cst .none)] [],
    .ret (.blt .tuple [(.lc [("one", 3)] (.nm 3) .sq [(.idx (.var 2) (.cst (.int 0)))] (.blt .all [(.lc [("lot", 4)] (.nm 4) .sq [(.var 2)] .nil (.cmp .isin (.var 3) (.var 4)))]) (.var 3))])]⟩
/-- perhaps: k10 k11 -/
def perhaps : Fn := ⟨2, ["dictionary", "word", "found", "lot"], [
    .exq (.call "look_asked" [(.var 0), (.var 1)]),
    .asg (.nm 2) false (.tup []),
    .for_ (.nm 3) .sq [(.call "plain_supports" [(.var 0), (.var 1)])] [
      .asg (.nm 2) false (.call "both" [(.var 2), (.var 3)])],
    .ret (.var 2)]⟩
/-- do_need: k10 k11 -/
def do_need : Fn := ⟨3, ["dictionary", "one", "other"], [
    .exq (.call "look_asked" [(.var 0), (.var 1)]),
    .exq (.call "look_word" [(.var 0), (.var 2)]),
    .ret (.call "is_of" [(.var 0), (.var 1), (.tup [(.var 2)])])]⟩
/-- kin: k10 k11 k45 -/
def kin : Fn := ⟨1, ["dictionary", "found", "word", "lot", "other"], [
    .exq (.call "look_dictionary" [(.var 0)]),
    .asg (.nm 1) true (.emp true),
    .for_ (.nm 2) .sq [(.idx (.var 0) (.cst (.int 0)))] [
      .asg (.nm 3) true (.lst []),
      .for_ (.nm 4) .sq [(.idx (.var 0) (.cst (.int 0)))] [
      .iff (.bop true [(.call "is_of" [(.var 0), (.var 2), (.tup [(.var 4)])]), (.call "is_of" [(.var 0), (.var 4), (.tup [(.var 2)])])]) [
      .mut .app 3 [(.var 4)]] []],
      .put 1 (.blt .tuple [(.var 3)]) (.cst (.bool true))],
    .ret (.blt .sorted [(.var 1)])]⟩
/-- _law_kin: k10 -/
def law_kin : Fn := ⟨2, ["_law_dictionary_here", "_law_have", "_law_words", "_law_rows", "_law_word", "_law_one"], [
    .asg (.nm 2) false (.idx (.var 0) (.cst (.int 0))),
    .asg (.nm 3) true (.lst []),
    .for_ (.nm 4) .sq [(.var 2)] [
      .mut .app 3 [(.blt .tuple [(.lc [("_law_one", 5)] (.nm 5) .sq [(.var 2)] (.bop true [(.cmp .isin (.var 5) (.idx (.var 1) (.tup [(.var 4)]))), (.cmp .isin (.var 4) (.idx (.var 1) (.tup [(.var 5)])))]) (.var 5))])]],
    .iff (.cmp .ne (.call "kin" [(.var 0)]) (.blt .sset [(.var 3)])) [
      .ret (.cst (.bool false))] [],
    .ret (.cst (.bool true))]⟩
/-- _law_kin: k11 -/
def law_kin_k11 : Fn := ⟨1, ["_law_dictionary_here", "_law_words", "_law_lines", "_law_flat", "_law_line", "_law_one", "_law_other", "_law_near", "_law_third", "_law_lot", "_law_word"], [
    .asg (.nm 1) false (.idx (.var 0) (.cst (.int 0))),
    .asg (.nm 2) false (.call "kin" [(.var 0)]),
    .asg (.nm 3) true (.lst []),
    .for_ (.nm 4) .sq [(.var 2)] [
      .mut .ext 3 [(.var 4)]],
    .iff (.cmp .ne (.blt .sorted [(.var 3)]) (.blt .list [(.var 1)])) [
      .ret (.cst (.bool false))] [],
    .for_ (.nm 5) .sq [(.var 1)] [
      .for_ (.nm 6) .sq [(.var 1)] [
      .asg (.nm 7) false (.cmp .ne (.lc [("_law_line", 4)] (.nm 4) .sq [(.var 2)] (.bop true [(.cmp .isin (.var 5) (.var 4)), (.cmp .isin (.var 6) (.var 4))]) (.var 4)) (.lst [])),
      .iff (.cmp .ne (.var 7) (.bop true [(.call "do_need" [(.var 0), (.var 5), (.var 6)]), (.call "do_need" [(.var 0), (.var 6), (.var 5)])])) [
      .ret (.cst (.bool false))] [],
      .for_ (.nm 8) .sq [(.var 1)] [
      .iff (.bop true [(.call "do_need" [(.var 0), (.var 5), (.var 6)]), (.call "do_need" [(.var 0), (.var 6), (.var 8)])]) [
      .iff (.nt (.call "do_need" [(.var 0), (.var 5), (.var 8)])) [
      .ret (.cst (.bool false))] []] []]]],
    .for_ (.nm 9) .sq [(.call "grounds" [(.var 0)])] [
      .iff (.cmp .ne (.lc [("_law_line", 4)] (.nm 4) .sq [(.var 2)] (.cmp .gt (.blt .len [(.lc [("_law_word", 10)] (.nm 10) .sq [(.var 9)] (.cmp .isin (.var 10) (.var 4)) (.var 10))]) (.cst (.int 1))) (.var 4)) (.lst [])) [
      .ret (.cst (.bool false))] []],
    .ret (.cst (.bool true))]⟩
/-- is_whole: k13 k14 -/
def is_whole : Fn := ⟨3, ["thing", "least", "most"], [
    .ret (.bop true [(.isi (.var 0) .int), (.nt (.isi (.var 0) .bool)), (.chn .le .le (.var 1) (.var 0) (.var 2))])]⟩
/-- look_number: k13 k14 -/
def look_number : Fn := ⟨3, ["thing", "least", "most"], [
    .iff (.nt (.call "is_whole" [(.var 0), (.var 1), (.var 2)])) [
      .rse "NoNumber"] []]⟩
/-- plain_days: k13 k14 k45 -/
def plain_days : Fn := ⟨2, ["dictionary", "lot", "found", "have", "then"], [
    .par [2, 3] [true, false] [(.lst [(.var 1)]), (.var 1)],
    .asg (.nm 4) false (.call "taught_now" [(.idx (.var 0) (.cst (.int 1))), (.var 3)]),
    .whl (.cmp .ne (.var 4) (.var 3)) [
      .mut .app 2 [(.call "rest_of" [(.var 4), (.var 3)])],
      .par [3, 4] [false, false] [(.var 4), (.call "taught_now" [(.idx (.var 0) (.cst (.int 1))), (.var 4)])]],
    .retv 2]⟩
/-- days: k13 k14 k45 -/
def days : Fn := ⟨2, ["dictionary", "lot"], [
    .exq (.call "look_dictionary" [(.var 0)]),
    .exq (.call "look_lot" [(.var 0), (.var 1)]),
    .ret (.call "plain_days" [(.var 0), (.var 1)])]⟩
/-- day_of: k13 k14 -/
def day_of : Fn := ⟨3, ["dictionary", "lot", "word", "day", "new"], [
    .exq (.call "look_dictionary" [(.var 0)]),
    .exq (.call "look_lot" [(.var 0), (.var 1)]),
    .exq (.call "look_word" [(.var 0), (.var 2)]),
    .for_ (.tp [(.nm 3), (.nm 4)]) .en [(.call "plain_days" [(.var 0), (.var 1)])] [
      .iff (.cmp .isin (.var 2) (.var 4)) [
      .ret (.var 3)] []],
    .ret (.cst .none)]⟩
/-- last_day: k13 k14 -/
def last_day : Fn := ⟨2, ["dictionary", "lot", "rows", "new"], [
    .asg (.nm 2) false (.call "plain_days" [(.var 0), (.var 1)]),
    .ret (.ite (.cmp .eq (.blt .sum [(.lc [("new", 3)] (.nm 3) .sq [(.var 2)] .nil (.blt .len [(.var 3)]))]) (.blt .len [(.idx (.var 0) (.cst (.int 0)))])) (.bin .sub (.blt .len [(.var 2)]) (.cst (.int 1))) (.cst .none))]⟩
/-- quickest: k13 k14 -/
def quickest : Fn := ⟨2, ["dictionary", "many", "rows", "lot", "row"], [
    .exq (.call "look_dictionary" [(.var 0)]),
    .exq (.call "look_number" [(.var 1), (.cst (.int 0)), (.glb "MOST_DAYS" (.int 8))]),
    .asg (.nm 2) false (.lc [("lot", 3)] (.nm 3) .sq [(.call "lots_in" [(.idx (.var 0) (.cst (.int 0))), (.var 1)])] .nil (.tup [(.call "last_day" [(.var 0), (.var 3)]), (.var 3)])),
    .asg (.nm 2) false (.lc [("row", 4)] (.nm 4) .sq [(.var 2)] (.cmp .nz (.idx (.var 4) (.cst (.int 0))) (.cst .none)) (.var 4)),
    .ret (.ite (.cmp .ne (.var 2) (.lst [])) (.blt .min [(.var 2)]) (.cst .none))]⟩
/-- is_by: k13 k14 -/
def is_by : Fn := ⟨3, ["dictionary", "thing", "day", "last"], [
    .exq (.call "look_dictionary" [(.var 0)]),
    .exq (.call "look_number" [(.var 2), (.cst (.int 0)), (.glb "MOST_DAYS" (.int 8))]),
    .iff (.nt (.call "is_lot_of" [(.var 0), (.var 1)])) [
      .ret (.cst (.bool false))] [],
    .asg (.nm 3) false (.call "last_day" [(.var 0), (.var 1)]),
    .ret (.bop true [(.cmp .nz (.var 3) (.cst .none)), (.cmp .le (.var 3) (.var 2))])]⟩
/-- _law_days: k13 -/
def law_days : Fn := ⟨2, ["_law_dictionary_here", "_law_lot", "_law_have", "_law_rows", "_law_new", "_law_need", "_law_taught", "_law_word"], [
    .par [2, 3] [false, true] [(.blt .list [(.var 1)]), (.lst [(.var 1)])],
    .whl (.bop false [(.cmp .ne (.idx (.var 3) (.neg (.cst (.int 1)))) (.tup [])), (.cmp .eq (.blt .len [(.var 3)]) (.cst (.int 1)))]) [
      .asg (.nm 4) false (.lst []),
      .for_ (.tp [(.nm 5), (.nm 6)]) .sq [(.idx (.var 0) (.cst (.int 1)))] [
      .iff (.cmp .eq (.lc [("_law_word", 7)] (.nm 7) .sq [(.var 5)] (.cmp .nin (.var 7) (.var 2)) (.var 7)) (.lst [])) [
      .asg (.nm 4) false (.bin .add (.var 4) (.lc [("_law_word", 7)] (.nm 7) .sq [(.var 6)] (.bop true [(.cmp .nin (.var 7) (.var 2)), (.cmp .nin (.var 7) (.var 4))]) (.var 7)))] []],
      .asg (.nm 2) false (.bin .add (.var 2) (.var 4)),
      .mut .app 3 [(.blt .tuple [(.blt .sorted [(.var 4)])])]],
    .ret (.slc (.var 3) .nil (.neg (.cst (.int 1))))]⟩
/-- _law_last: k13 -/
def law_last : Fn := ⟨2, ["_law_dictionary_here", "_law_lot", "_law_rows", "_law_row"], [
    .asg (.nm 2) false (.call "_law_days" [(.var 0), (.var 1)]),
    .ret (.ite (.cmp .eq (.blt .sum [(.lc [("_law_row", 3)] (.nm 3) .sq [(.var 2)] .nil (.blt .len [(.var 3)]))]) (.blt .len [(.idx (.var 0) (.cst (.int 0)))])) (.bin .sub (.blt .len [(.var 2)]) (.cst (.int 1))) (.cst .none))]⟩
/-- _law_quick: k14 -/
def law_quick : Fn := ⟨1, ["_law_dictionary_here", "_law_words", "_law_least", "_law_before", "_law_many", "_law_told"], [
    .asg (.nm 1) false (.idx (.var 0) (.cst (.int 0))),
    .asg (.nm 2) false (.blt .len [(.call "least_ground" [(.var 0)])]),
    .asg (.nm 3) false (.cst .none),
    .for_ (.nm 4) .r1 [(.bin .add (.blt .len [(.var 1)]) (.cst (.int 1)))] [
      .asg (.nm 5) false (.call "quickest" [(.var 0), (.var 4)]),
      .iff (.cmp .ne (.cmp .iz (.var 5) (.cst .none)) (.cmp .lt (.var 4) (.var 2))) [
      .ret (.cst (.bool false))] [],
      .iff (.cmp .nz (.var 5) (.cst .none)) [
      .iff (.cmp .nz (.call "is_by" [(.var 0), (.idx (.var 5) (.cst (.int 1))), (.idx (.var 5) (.cst (.int 0)))]) (.cst (.bool true))) [
      .ret (.cst (.bool false))] [],
      .iff (.bop true [(.cmp .gt (.idx (.var 5) (.cst (.int 0))) (.cst (.int 0))), (.cmp .nz (.call "is_by" [(.var 0), (.idx (.var 5) (.cst (.int 1))), (.bin .sub (.idx (.var 5) (.cst (.int 0))) (.cst (.int 1)))]) (.cst (.bool false)))]) [
      .ret (.cst (.bool false))] [],
      .iff (.bop true [(.cmp .nz (.var 3) (.cst .none)), (.cmp .gt (.idx (.var 5) (.cst (.int 0))) (.var 3))]) [
      .ret (.cst (.bool false))] [],
      .asg (.nm 3) false (.idx (.var 5) (.cst (.int 0)))] []],
    .ret (.cmp .eq (.call "quickest" [(.var 0), (.blt .len [(.var 1)])]) (.tup [(.cst (.int 0)), (.var 1)]))]⟩
/-- lot_line: k20 -/
def lot_line : Fn := ⟨1, ["lot"], [
    .ret (.ite (.cmp .ne (.var 0) (.tup [])) (.mth .join (.cst (.str (Str.ofString ","))) [(.var 0)]) (.glb "NONE" (.str (Str.ofString "-"))))]⟩
/-- lot_in: k20 -/
def lot_in : Fn := ⟨1, ["text"], [
    .ret (.ite (.cmp .eq (.var 0) (.glb "NONE" (.str (Str.ofString "-")))) (.tup []) (.blt .tuple [(.mth .split (.var 0) [(.cst (.str (Str.ofString ",")))])]))]⟩
/-- plain_text: k20 -/
def plain_text : Fn := ⟨1, ["dictionary", "lines", "need", "taught", "line"], [
    .asg (.nm 1) false (.lst [(.mth .join (.cst (.str (Str.ofString " "))) [(.bin .add (.tup [(.cst (.str (Str.ofString "words")))]) (.idx (.var 0) (.cst (.int 0))))])]),
    .asg (.nm 1) false (.bin .add (.var 1) (.lc [("need", 2), ("taught", 3)] (.tp [(.nm 2), (.nm 3)]) .sq [(.idx (.var 0) (.cst (.int 1)))] .nil (.bin .add (.bin .add (.call "lot_line" [(.var 2)]) (.cst (.str (Str.ofString " ")))) (.call "lot_line" [(.var 3)])))),
    .ret (.mth .join (.cst (.str (Str.ofString ""))) [(.lc [("line", 4)] (.nm 4) .sq [(.var 1)] .nil (.bin .add (.var 4) (.cst (.str (Str.ofString "\n")))))])]⟩
/-- dictionary_text: k20 -/
def dictionary_text : Fn := ⟨1, ["dictionary"], [
    .exq (.call "look_dictionary" [(.var 0)]),
    .ret (.call "plain_text" [(.var 0)])]⟩
/-- read_dictionary: k20 -/
def read_dictionary : Fn := ⟨1, ["text", "lines", "line", "dictionary", "need", "taught"], [
    .iff (.nt (.isi (.var 0) .str)) [
      .rse "NoText"] [],
    .asg (.nm 1) false (.lc [("line", 2)] (.nm 2) .sq [(.slc (.mth .split (.var 0) [(.cst (.str (Str.ofString "\n")))]) .nil (.neg (.cst (.int 1))))] .nil (.mth .split (.var 2) [(.cst (.str (Str.ofString " ")))])),
    .iff (.bop false [(.cmp .eq (.var 1) (.lst [])), (.cmp .ne (.idx (.idx (.var 1) (.cst (.int 0))) (.cst (.int 0))) (.cst (.str (Str.ofString "words")))), (.nt (.blt .all [(.lc [("line", 2)] (.nm 2) .sq [(.slc (.var 1) (.cst (.int 1)) .nil)] .nil (.cmp .eq (.blt .len [(.var 2)]) (.cst (.int 2))))]))]) [
      .rse "NoText"] [],
    .asg (.nm 3) false (.tup [(.blt .tuple [(.slc (.idx (.var 1) (.cst (.int 0))) (.cst (.int 1)) .nil)]), (.blt .tuple [(.lc [("need", 4), ("taught", 5)] (.tp [(.nm 4), (.nm 5)]) .sq [(.slc (.var 1) (.cst (.int 1)) .nil)] .nil (.tup [(.call "lot_in" [(.var 4)]), (.call "lot_in" [(.var 5)])]))])]),
    .iff (.bop false [(.nt (.call "is_dictionary" [(.var 3)])), (.cmp .ne (.call "plain_text" [(.var 3)]) (.var 0))]) [
      .rse "NoText"] [],
    .ret (.var 3)]⟩
/-- lot_text: k20 -/
def lot_text : Fn := ⟨2, ["dictionary", "lot"], [
    .exq (.call "look_dictionary" [(.var 0)]),
    .exq (.call "look_lot" [(.var 0), (.var 1)]),
    .ret (.call "lot_line" [(.var 1)])]⟩
/-- read_lot: k20 -/
def read_lot : Fn := ⟨2, ["dictionary", "text"], [
    .exq (.call "look_dictionary" [(.var 0)]),
    .iff (.bop false [(.nt (.isi (.var 1) .str)), (.nt (.call "is_lot_of" [(.var 0), (.call "lot_in" [(.var 1)])])), (.cmp .ne (.call "lot_line" [(.call "lot_in" [(.var 1)])]) (.var 1))]) [
      .rse "NoText"] [],
    .ret (.call "lot_in" [(.var 1)])]⟩
/-- _law_line: k20 -/
def law_line : Fn := ⟨1, ["_law_lot"], [
    .ret (.ite (.cmp .ne (.var 0) (.tup [])) (.mth .join (.cst (.str (Str.ofString ","))) [(.var 0)]) (.cst (.str (Str.ofString "-"))))]⟩
/-- _law_text: k20 -/
def law_text : Fn := ⟨1, ["_law_dictionary_here", "_law_found", "_law_need", "_law_taught"], [
    .asg (.nm 1) false (.bin .add (.bin .add (.cst (.str (Str.ofString "words "))) (.mth .join (.cst (.str (Str.ofString " "))) [(.idx (.var 0) (.cst (.int 0)))])) (.cst (.str (Str.ofString "\n")))),
    .ret (.bin .add (.var 1) (.mth .join (.cst (.str (Str.ofString ""))) [(.lc [("_law_need", 2), ("_law_taught", 3)] (.tp [(.nm 2), (.nm 3)]) .sq [(.idx (.var 0) (.cst (.int 1)))] .nil (.bin .add (.bin .add (.bin .add (.call "_law_line" [(.var 2)]) (.cst (.str (Str.ofString " ")))) (.call "_law_line" [(.var 3)])) (.cst (.str (Str.ofString "\n")))))]))]⟩
/-- _law_again: k20 -/
def law_again : Fn := ⟨3, ["_law_way", "_law_dictionary_here", "_law_text_here", "e"], [
    .tri [
      .ret (.ite (.cmp .eq (.var 0) (.cst (.int 0))) (.call "_law_text" [(.call "read_dictionary" [(.var 2)])]) (.call "_law_line" [(.call "read_lot" [(.var 1), (.var 2)])]))] 3 [
      .ret (.ite (.isx 3 "NoText") (.cst .none) (.cst (.str (Str.ofString "another refusal"))))]]⟩
/-- _law_none: k20 -/
def law_none : Fn := ⟨0, ["_law_good", "_law_bad", "_law_thing", "_law_dictionary_here", "_law_odd", "_law_text_here"], [
    .asg (.nm 0) false (.cst (.str (Str.ofString "words a b\n- a\na b\n"))),
    .asg (.nm 1) false (.lst [(.cst .none), (.cst (.int 7)), (.cst (.str (Str.ofString ""))), (.cst (.str (Str.ofString "words\n"))), (.cst (.str (Str.ofString "words a"))), (.cst (.str (Str.ofString "words b a\n"))), (.cst (.str (Str.ofString "words a a\n"))), (.cst (.str (Str.ofString "words A\n")))]),
    .asg (.nm 1) false (.bin .add (.var 1) (.lst [(.bin .add (.var 0) (.cst (.str (Str.ofString "\n")))), (.bin .add (.cst (.str (Str.ofString " "))) (.var 0)), (.slc (.var 0) .nil (.neg (.cst (.int 1)))), (.tup [(.var 0)])])),
    .asg (.nm 1) false (.bin .add (.var 1) (.lst [(.cst (.str (Str.ofString "words a b\na -\n"))), (.cst (.str (Str.ofString "words a b\na b\n- a\n"))), (.cst (.str (Str.ofString "words a b\na\n")))])),
    .asg (.nm 1) false (.bin .add (.var 1) (.lst [(.cst (.str (Str.ofString "words a b\na b c\n"))), (.cst (.str (Str.ofString "words a b\na,a b\n"))), (.cst (.str (Str.ofString "words a b\nb,a b\n")))])),
    .asg (.nm 1) false (.bin .add (.var 1) (.lst [(.cst (.str (Str.ofString "words a b\na c\n"))), (.cst (.str (Str.ofString "Words a b\n"))), (.cst (.str (Str.ofString "words a b\na  b\n"))), (.bin .add (.var 0) (.cst (.str (Str.ofString "a b\n"))))])),
    .asg (.nm 1) false (.bin .add (.var 1) (.lst [(.cst (.str (Str.ofString "words a b\n-, a\n"))), (.cst (.str (Str.ofString "words a b\n, a\n")))])),
    .iff (.cmp .ne (.lc [("_law_thing", 2)] (.nm 2) .sq [(.var 1)] (.cmp .nz (.call "_law_again" [(.cst (.int 0)), (.cst .none), (.var 2)]) (.cst .none)) (.var 2)) (.lst [])) [
      .ret (.cst (.bool false))] [],
    .iff (.cmp .ne (.call "_law_again" [(.cst (.int 0)), (.cst .none), (.var 0)]) (.var 0)) [
      .ret (.cst (.bool false))] [],
    .asg (.nm 3) false (.call "read_dictionary" [(.var 0)]),
    .asg (.nm 4) false (.lst [(.cst .none), (.cst (.int 7)), (.cst (.str (Str.ofString ""))), (.cst (.str (Str.ofString "a,"))), (.cst (.str (Str.ofString ",a"))), (.cst (.str (Str.ofString "b,a"))), (.cst (.str (Str.ofString "a,a"))), (.cst (.str (Str.ofString "c"))), (.cst (.str (Str.ofString "a b"))), (.cst (.str (Str.ofString "--"))), (.cst (.str (Str.ofString "-,a"))), (.cst (.str (Str.ofString "a\n"))), (.cst (.str (Str.ofString " a"))), (.tup [(.cst (.str (Str.ofString "a")))])]),
    .iff (.cmp .ne (.lc [("_law_thing", 2)] (.nm 2) .sq [(.var 4)] (.cmp .nz (.call "_law_again" [(.cst (.int 1)), (.var 3), (.var 2)]) (.cst .none)) (.var 2)) (.lst [])) [
      .ret (.cst (.bool false))] [],
    .ret (.cmp .eq (.lc [("_law_text_here", 5)] (.nm 5) .sq [(.tup [(.cst (.str (Str.ofString "-"))), (.cst (.str (Str.ofString "a"))), (.cst (.str (Str.ofString "b"))), (.cst (.str (Str.ofString "a,b")))])] .nil (.call "read_lot" [(.var 3), (.var 5)])) (.lst [(.tup []), (.tup [(.cst (.str (Str.ofString "a")))]), (.tup [(.cst (.str (Str.ofString "b")))]), (.tup [(.cst (.str (Str.ofString "a"))), (.cst (.str (Str.ofString "b")))])]))]⟩
/-- _law_lists: k45 -/
def law_lists : Fn := ⟨3, ["_law_dictionary_here", "_law_lot", "_law_word", "_law_found", "_law_row"], [
    .asg (.nm 3) false (.lst [(.call "closed_lots" [(.var 0)]), (.call "grounds" [(.var 0)]), (.call "most_apart" [(.var 0)])]),
    .asg (.nm 3) false (.bin .add (.var 3) (.lst [(.call "supports" [(.var 0), (.var 2)]), (.call "kin" [(.var 0)])])),
    .asg (.nm 4) false (.call "learning" [(.var 0), (.var 1), (.var 2)]),
    .ret (.bin .add (.bin .add (.var 3) (.lst [(.call "days" [(.var 0), (.var 1)])])) (.ite (.cmp .nz (.var 4) (.cst .none)) (.lst [(.var 4)]) (.lst [])))]⟩
/-- _law_lists: k90 -/
def law_lists_k90 : Fn := ⟨4, ["_law_dictionary_here", "_law_lot_here", "_law_word", "_law_answers", "_law_found", "_law_row"], [
    .asg (.nm 4) true (.lst [(.call "starts" [(.var 0)]), (.call "matched" [(.var 0)]), (.call "idle_lessons" [(.var 0)]), (.call "weights" [(.var 0), (.var 1)])]),
    .mut .ext 4 [(.lst [(.call "fitting" [(.var 0), (.var 3)]), (.call "plain_closed" [(.var 0)]), (.call "closed_lots" [(.var 0)])])],
    .asg (.nm 5) false (.call "told_out" [(.var 0), (.var 1), (.var 2)]),
    .ret (.bin .add (.var 4) (.ite (.cmp .nz (.var 5) (.cst .none)) (.lst [(.var 5)]) (.lst [])))]⟩
/-- _law_spoilt: k45 -/
def law_spoilt : Fn := ⟨1, ["_law_rows", "_law_told"], [
    .for_ (.nm 1) .sq [(.var 0)] [
      .iff (.nt (.isi (.var 1) .list)) [
      .ret (.cst (.bool false))] [],
      .mut .app 1 [(.cst .none)],
      .mut .ins 1 [(.cst (.int 0)), (.cst (.int 7))]],
    .ret (.cst (.bool true))]⟩
/-- look_two: k50 k52 k54 k80 k85 k90 k99 -/
def look_two : Fn := ⟨2, ["one", "other"], [
    .exq (.call "look_dictionary" [(.var 0)]),
    .exq (.call "look_dictionary" [(.var 1)]),
    .iff (.cmp .ne (.idx (.var 0) (.cst (.int 0))) (.idx (.var 1) (.cst (.int 0)))) [
      .rse "NoDictionary"] []]⟩
/-- does_teach: k50 k52 k54 k80 k85 k90 k99 -/
def does_teach : Fn := ⟨2, ["lessons", "others", "need", "taught"], [
    .ret (.blt .all [(.lc [("need", 2), ("taught", 3)] (.tp [(.nm 2), (.nm 3)]) .sq [(.var 1)] .nil (.call "lies_in" [(.var 3), (.call "known_by" [(.var 0), (.var 2)])]))])]⟩
/-- are_lessons_alike: k50 k52 k54 k90 k99 -/
def are_lessons_alike : Fn := ⟨2, ["lessons", "others"], [
    .ret (.bop true [(.call "does_teach" [(.var 0), (.var 1)]), (.call "does_teach" [(.var 1), (.var 0)])])]⟩
/-- are_alike: k50 k52 k54 k90 k99 -/
def are_alike : Fn := ⟨2, ["one", "other"], [
    .exq (.call "look_two" [(.var 0), (.var 1)]),
    .ret (.call "are_lessons_alike" [(.idx (.var 0) (.cst (.int 1))), (.idx (.var 1) (.cst (.int 1)))])]⟩
/-- do_part: k50 k80 k85 k90 k99 -/
def do_part : Fn := ⟨3, ["one", "other", "lot"], [
    .ret (.cmp .ne (.call "known_by" [(.idx (.var 0) (.cst (.int 1))), (.var 2)]) (.call "known_by" [(.idx (.var 1) (.cst (.int 1))), (.var 2)]))]⟩
/-- parting: k50 k80 k85 k99 -/
def parting : Fn := ⟨2, ["one", "other", "lot"], [
    .exq (.call "look_two" [(.var 0), (.var 1)]),
    .for_ (.nm 2) .sq [(.call "all_lots" [(.idx (.var 0) (.cst (.int 0)))])] [
      .iff (.call "do_part" [(.var 0), (.var 1), (.var 2)]) [
      .ret (.var 2)] []],
    .ret (.cst .none)]⟩
/-- is_parting: k50 k90 -/
def is_parting : Fn := ⟨3, ["one", "other", "thing"], [
    .exq (.call "look_two" [(.var 0), (.var 1)]),
    .ret (.bop true [(.call "is_lot_of" [(.var 0), (.var 2)]), (.call "do_part" [(.var 0), (.var 1), (.var 2)])])]⟩
/-- _law_pick: k50 k52 k54 k60 k61 k64 k66 k68 k80 k85 k90 k99 -/
def law_pick : Fn := ⟨3, ["_law_script", "_law_k", "_law_many", "_law_cell", "_law_rest", "_law_again", "_law_drawn"], [
    .asg (.nm 3) false (.ite (.cmp .ne (.var 0) (.lst [])) (.idx (.var 0) (.bin .mod (.var 1) (.blt .len [(.var 0)]))) (.cst (.int 0))),
    .par [4, 5] [false, false] [(.bin .fdiv (.var 3) (.bin .pow (.cst (.int 10)) (.cst (.int 18)))), (.bin .fdiv (.var 1) (.blt .max2 [(.blt .len [(.var 0)]), (.cst (.int 1))]))],
    .whl (.bop true [(.cmp .gt (.var 4) (.cst (.int 0))), (.cmp .gt (.var 5) (.cst (.int 0)))]) [
      .par [4, 5] [false, false] [(.bin .fdiv (.var 4) (.cst (.int 840))), (.bin .sub (.var 5) (.cst (.int 1)))]],
    .iff (.cmp .gt (.var 4) (.cst (.int 0))) [
      .ret (.bin .mod (.bin .mod (.var 4) (.cst (.int 840))) (.var 2))] [],
    .asg (.nm 6) false (.bin .mod (.bin .mul (.bin .add (.bin .mul (.var 3) (.cst (.int 31))) (.bin .mul (.cst (.int 6151)) (.bin .add (.var 1) (.cst (.int 1))))) (.cst (.int 40692))) (.cst (.int 2147483399))),
    .ret (.bin .mod (.bin .mod (.bin .add (.bin .mul (.var 6) (.var 6)) (.bin .fdiv (.var 6) (.cst (.int 31)))) (.cst (.int 2147483629))) (.var 2))]⟩
/-- _law_reworded: k50 k54 k80 k99 -/
def law_reworded : Fn := ⟨3, ["_law_script", "_law_at", "_law_dictionary_here", "_law_found", "_law_k", "_law_need", "_law_taught", "_law_case", "_law_more"], [
    .asg (.nm 3) true (.blt .list [(.idx (.var 2) (.cst (.int 1)))]),
    .for_ (.tp [(.nm 4), (.tp [(.nm 5), (.nm 6)])]) .en [(.idx (.var 2) (.cst (.int 1)))] [
      .asg (.nm 7) false (.call "_law_pick" [(.var 0), (.bin .add (.var 1) (.var 4)), (.cst (.int 4))]),
      .iff (.bop true [(.cmp .eq (.var 7) (.cst (.int 0))), (.cmp .gt (.blt .len [(.var 6)]) (.cst (.int 1)))]) [
      .mut .ext 3 [(.lst [(.tup [(.var 5), (.slc (.var 6) .nil (.cst (.int 1)))]), (.tup [(.var 5), (.slc (.var 6) (.cst (.int 1)) .nil)])])],
      .mut .rmv 3 [(.tup [(.var 5), (.var 6)])]] [
      .iff (.cmp .eq (.var 7) (.cst (.int 1))) [
      .asg (.nm 8) false (.call "_law_known" [(.idx (.var 2) (.cst (.int 1))), (.var 5)]),
      .mut .app 3 [(.tup [(.var 5), (.ite (.cmp .ne (.var 8) (.tup [])) (.var 8) (.var 6))])]] [
      .iff (.cmp .eq (.var 7) (.cst (.int 2))) [
      .mut .app 3 [(.tup [(.blt .tuple [(.blt .sset [(.bin .add (.var 5) (.slc (.var 6) .nil (.cst (.int 1))))])]), (.var 6)])]] []]]],
    .ret (.tup [(.idx (.var 2) (.cst (.int 0))), (.blt .tuple [(.slc (.blt .sset [(.var 3)]) .nil (.cst (.int 12)))])])]⟩
/-- _law_tables: k50 k52 k54 -/
def law_tables : Fn := ⟨1, ["_law_dictionary_here", "_law_found", "_law_lot"], [
    .asg (.nm 1) true (.emp true),
    .for_ (.nm 2) .sq [(.call "_law_lots" [(.idx (.var 0) (.cst (.int 0)))])] [
      .put 1 (.var 2) (.call "_law_known" [(.idx (.var 0) (.cst (.int 1))), (.var 2)])],
    .retv 1]⟩
/-- _law_odd: k50 k52 k60 k61 k64 k66 k68 -/
def law_odd : Fn := ⟨2, ["_law_script", "_law_at", "_law_some"], [
    .asg (.nm 2) false (.lst [(.cst .none), (.cst (.bool true)), (.cst (.str (Str.ofString ""))), (.cst (.str (Str.ofString "A"))), (.cst (.str (Str.ofString "5"))), (.lst [(.cst (.int 1))]), (.tup [(.cst .none)]), (.bin .sub (.neg (.cst (.int 1))) (.call "_law_pick" [(.var 0), (.var 1), (.cst (.int 9))])), (.cst (.str (Str.ofString "abcdefgh")))]),
    .ret (.bin .add (.var 2) (.lst [(.lst [(.lst [(.cst (.str (Str.ofString "a")))])]), (.bin .pow (.cst (.int 10)) (.cst (.int 9))), (.tup [(.cst (.str (Str.ofString "a"))), (.cst (.int 1))])]))]⟩
/-- _law_class: k50 k52 k60 k64 k66 -/
def law_class : Fn := ⟨1, ["_law_e", "_law_kinds", "_law_some"], [
    .asg (.nm 1) true (.lst [(.isx 0 "NoDictionary"), (.isx 0 "NoLot"), (.isx 0 "NoWord")]),
    .mut .ext 1 [(.lst [(.isx 0 "Taken"), (.isx 0 "NoNumber"), (.isx 0 "NoAnswers")])],
    .mut .ext 1 [(.lst [(.isx 0 "NoBack"), (.isx 0 "NoText"), (.isx 0 "TooGreat")])],
    .iff (.bop false [(.cmp .ne (.mth .count (.var 1) [(.cst (.bool true))]) (.cst (.int 1))), (.nt (.isx 0 "ValueError"))]) [
      .ret (.cst (.str (Str.ofString "wrong")))] [],
    .asg (.nm 2) true (.lst [(.cst (.str (Str.ofString "NoDictionary"))), (.cst (.str (Str.ofString "NoLot"))), (.cst (.str (Str.ofString "NoWord"))), (.cst (.str (Str.ofString "Taken"))), (.cst (.str (Str.ofString "NoNumber"))), (.cst (.str (Str.ofString "NoAnswers"))), (.cst (.str (Str.ofString "NoBack")))]),
    .mut .ext 2 [(.lst [(.cst (.str (Str.ofString "NoText"))), (.cst (.str (Str.ofString "TooGreat")))])],
    .ret (.idx (.var 2) (.mth .index (.var 1) [(.cst (.bool true))]))]⟩
/-- are_lessons_of: k52 k85 k90 -/
def are_lessons_of : Fn := ⟨2, ["dictionary", "thing", "one"], [
    .iff (.bop false [(.nt (.isi (.var 1) .tuple)), (.nt (.blt .all [(.lc [("one", 2)] (.nm 2) .sq [(.var 1)] .nil (.bop true [(.isi (.var 2) .tuple), (.cmp .isin (.var 2) (.idx (.var 0) (.cst (.int 1))))]))]))]) [
      .ret (.cst (.bool false))] [],
    .ret (.call "is_rising" [(.var 1)])]⟩
/-- are_idle: k52 k54 k80 k85 k90 -/
def are_idle : Fn := ⟨2, ["dictionary", "lessons", "kept", "lesson"], [
    .asg (.nm 2) false (.lc [("lesson", 3)] (.nm 3) .sq [(.idx (.var 0) (.cst (.int 1)))] (.cmp .nin (.var 3) (.var 1)) (.var 3)),
    .ret (.call "does_teach" [(.var 2), (.var 1)])]⟩
/-- can_strike: k52 k85 k90 -/
def can_strike : Fn := ⟨2, ["dictionary", "thing"], [
    .exq (.call "look_dictionary" [(.var 0)]),
    .ret (.bop true [(.call "are_lessons_of" [(.var 0), (.var 1)]), (.call "are_idle" [(.var 0), (.var 1)])])]⟩
/-- idle_lessons: k52 k54 k80 k85 k90 -/
def idle_lessons : Fn := ⟨1, ["dictionary", "lesson"], [
    .exq (.call "look_dictionary" [(.var 0)]),
    .ret (.lc [("lesson", 1)] (.nm 1) .sq [(.idx (.var 0) (.cst (.int 1)))] (.call "are_idle" [(.var 0), (.lst [(.var 1)])]) (.var 1))]⟩
/-- least_kept: k52 k54 k80 k85 k99 -/
def least_kept : Fn := ⟨1, ["dictionary", "many", "some"], [
    .exq (.call "look_dictionary" [(.var 0)]),
    .iff (.cmp .gt (.blt .len [(.idx (.var 0) (.cst (.int 1)))]) (.glb "MOST_KEPT" (.int 8))) [
      .rse "TooGreat"] [],
    .for_ (.nm 1) .r1 [(.blt .len [(.idx (.var 0) (.cst (.int 1)))])] [
      .for_ (.nm 2) .sq [(.call "lots_in" [(.idx (.var 0) (.cst (.int 1))), (.var 1)])] [
      .iff (.call "does_teach" [(.var 2), (.idx (.var 0) (.cst (.int 1)))]) [
      .ret (.var 2)] []]],
    .ret (.idx (.var 0) (.cst (.int 1)))]⟩
/-- plain_starts: k54 k66 k68 k80 k85 k90 k99 -/
def plain_starts : Fn := ⟨1, ["dictionary", "found", "lot", "there", "one"], [
    .asg (.nm 1) true (.emp true),
    .for_ (.nm 2) .sq [(.call "all_lots" [(.idx (.var 0) (.cst (.int 0)))])] [
      .asg (.nm 3) false (.call "known_by" [(.idx (.var 0) (.cst (.int 1))), (.var 2)]),
      .iff (.bop true [(.cmp .ne (.var 3) (.var 2)), (.blt .all [(.lcd [("one", 4)] (.nm 4) false 1 (.call "lies_in" [(.var 4), (.var 2)]) (.call "lies_in" [(.idx (.var 1) (.var 4)), (.var 2)]))])]) [
      .put 1 (.var 2) (.var 3)] []],
    .ret (.blt .sorted [(.var 1)])]⟩
/-- starts: k54 k66 k80 k85 k90 k99 -/
def starts : Fn := ⟨1, ["dictionary"], [
    .exq (.call "look_dictionary" [(.var 0)]),
    .ret (.call "plain_starts" [(.var 0)])]⟩
/-- canonical: k54 k66 k80 k85 k99 -/
def canonical : Fn := ⟨1, ["dictionary", "lessons", "lot"], [
    .exq (.call "look_dictionary" [(.var 0)]),
    .asg (.nm 1) false (.lc [("lot", 2)] (.nm 2) .sq [(.call "plain_starts" [(.var 0)])] .nil (.tup [(.var 2), (.call "rest_of" [(.call "known_by" [(.idx (.var 0) (.cst (.int 1))), (.var 2)]), (.var 2)])])),
    .ret (.tup [(.idx (.var 0) (.cst (.int 0))), (.blt .tuple [(.var 1)])])]⟩
/-- does_stand_for: k54 k66 k68 k80 k85 k90 -/
def does_stand_for : Fn := ⟨2, ["lesson", "lot"], [
    .ret (.bop true [(.call "lies_in" [(.idx (.var 0) (.cst (.int 0))), (.var 1)]), (.nt (.call "lies_in" [(.idx (.var 0) (.cst (.int 1))), (.var 1)]))])]⟩
/-- matched: k54 k66 k68 k80 k85 k90 -/
def matched : Fn := ⟨1, ["dictionary", "found", "lot", "lesson"], [
    .exq (.call "look_dictionary" [(.var 0)]),
    .asg (.nm 1) true (.lst []),
    .for_ (.nm 2) .sq [(.call "plain_starts" [(.var 0)])] [
      .mut .app 1 [(.tup [(.var 2), (.idx (.lc [("lesson", 3)] (.nm 3) .sq [(.idx (.var 0) (.cst (.int 1)))] (.call "does_stand_for" [(.var 3), (.var 2)]) (.var 3)) (.cst (.int 0)))])]],
    .retv 1]⟩
/-- is_matched: k54 k66 k68 k90 -/
def is_matched : Fn := ⟨2, ["dictionary", "thing", "row"], [
    .exq (.call "look_dictionary" [(.var 0)]),
    .iff (.bop false [(.nt (.isi (.var 1) .list)), (.nt (.blt .all [(.lc [("row", 2)] (.nm 2) .sq [(.var 1)] .nil (.bop true [(.isi (.var 2) .tuple), (.cmp .eq (.blt .len [(.var 2)]) (.cst (.int 2)))]))]))]) [
      .ret (.cst (.bool false))] [],
    .iff (.nt (.blt .all [(.lc [("row", 2)] (.nm 2) .sq [(.var 1)] .nil (.bop true [(.isi (.idx (.var 2) (.cst (.int 0))) .tuple), (.isi (.idx (.var 2) (.cst (.int 1))) .tuple)]))])) [
      .ret (.cst (.bool false))] [],
    .iff (.cmp .ne (.lc [("row", 2)] (.nm 2) .sq [(.var 1)] .nil (.idx (.var 2) (.cst (.int 0)))) (.call "plain_starts" [(.var 0)])) [
      .ret (.cst (.bool false))] [],
    .ret (.blt .all [(.lc [("row", 2)] (.nm 2) .sq [(.var 1)] .nil (.bop true [(.cmp .isin (.idx (.var 2) (.cst (.int 1))) (.idx (.var 0) (.cst (.int 1)))), (.call "does_stand_for" [(.idx (.var 2) (.cst (.int 1))), (.idx (.var 2) (.cst (.int 0)))])]))])]⟩
/-- _law_stands: k54 -/
def law_stands : Fn := ⟨2, ["_law_lesson", "_law_start", "_law_word"], [
    .ret (.bop true [(.blt .all [(.lc [("_law_word", 2)] (.nm 2) .sq [(.idx (.var 0) (.cst (.int 0)))] .nil (.cmp .isin (.var 2) (.var 1)))]), (.nt (.blt .all [(.lc [("_law_word", 2)] (.nm 2) .sq [(.idx (.var 0) (.cst (.int 1)))] .nil (.cmp .isin (.var 2) (.var 1)))]))])]⟩
/-- told_lengths: k60 k61 k80 k85 k90 k99 -/
def told_lengths : Fn := ⟨2, ["dictionary", "lot", "found", "is_new", "word", "need", "taught", "many"], [
    .par [2, 3] [true, false] [(.dc false [("word", 4)] (.nm 4) .sq [(.var 1)] (.var 4) (.cst (.int 1))), (.cst (.bool true))],
    .whl (.var 3) [
      .asg (.nm 3) false (.cst (.bool false)),
      .for_ (.tp [(.nm 5), (.nm 6)]) .sq [(.idx (.var 0) (.cst (.int 1)))] [
      .iff (.blt .all [(.lc [("word", 4)] (.nm 4) .sq [(.var 5)] .nil (.cmp .isin (.var 4) (.var 2)))]) [
      .asg (.nm 7) false (.bin .add (.cst (.int 1)) (.blt .sum [(.lc [("word", 4)] (.nm 4) .sq [(.var 5)] .nil (.idx (.var 2) (.var 4)))])),
      .for_ (.nm 4) .sq [(.var 6)] [
      .iff (.cmp .lt (.var 7) (.mth .get2 (.var 2) [(.var 4), (.bin .add (.var 7) (.cst (.int 1)))])) [
      .putp 2 (.var 4) 3 (.var 7) (.cst (.bool true))] []]] []]],
    .retv 2]⟩
/-- told_length: k60 k85 -/
def told_length : Fn := ⟨3, ["dictionary", "lot", "word"], [
    .exq (.call "look_asked" [(.var 0), (.var 1), (.var 2)]),
    .ret (.mth .get2 (.call "told_lengths" [(.var 0), (.var 1)]) [(.var 2), (.cst .none)])]⟩
/-- shortest: k60 k80 k85 k90 k99 -/
def shortest : Fn := ⟨4, ["dictionary", "found", "lot", "word", "rows", "need", "taught", "one", "row"], [
    .iff (.cmp .isin (.var 3) (.var 2)) [
      .ret (.lst [(.var 3)])] [],
    .asg (.nm 4) true (.lst []),
    .for_ (.tp [(.nm 5), (.nm 6)]) .sq [(.idx (.var 0) (.cst (.int 1)))] [
      .iff (.bop true [(.cmp .isin (.var 3) (.var 6)), (.blt .all [(.lc [("one", 7)] (.nm 7) .sq [(.var 5)] .nil (.cmp .isin (.var 7) (.var 1)))])]) [
      .iff (.cmp .eq (.bin .add (.cst (.int 1)) (.blt .sum [(.lc [("one", 7)] (.nm 7) .sq [(.var 5)] .nil (.idx (.var 1) (.var 7)))])) (.idx (.var 1) (.var 3))) [
      .asg (.nm 8) false (.lst []),
      .for_ (.nm 7) .sq [(.var 5)] [
      .asg (.nm 8) false (.bin .add (.var 8) (.call "shortest" [(.var 0), (.var 1), (.var 2), (.var 7)]))],
      .mut .app 4 [(.bin .add (.var 8) (.lst [(.var 3)]))]] []] []],
    .ret (.blt .min [(.var 4)])]⟩
/-- told_out: k60 k80 k85 k90 k99 -/
def told_out : Fn := ⟨3, ["dictionary", "lot", "word", "found"], [
    .exq (.call "look_asked" [(.var 0), (.var 1), (.var 2)]),
    .asg (.nm 3) false (.call "told_lengths" [(.var 0), (.var 1)]),
    .ret (.ite (.cmp .isin (.var 2) (.var 3)) (.call "shortest" [(.var 0), (.var 3), (.var 1), (.var 2)]) (.cst .none))]⟩
/-- begins_of: k60 k61 k85 k90 k99 -/
def begins_of : Fn := ⟨5, ["dictionary", "lot", "row", "begins", "end", "word", "found", "need", "taught", "places", "one", "at", "first"], [
    .asg (.nm 5) false (.idx (.var 2) (.bin .sub (.var 4) (.cst (.int 1)))),
    .asg (.nm 6) true (.ite (.cmp .isin (.var 5) (.var 1)) (.one false (.bin .sub (.var 4) (.cst (.int 1))) (.cst (.bool true))) (.emp false)),
    .for_ (.tp [(.nm 7), (.nm 8)]) .sq [(.idx (.var 0) (.cst (.int 1)))] [
      .iff (.cmp .isin (.var 5) (.var 8)) [
      .asg (.nm 9) false (.one false (.bin .sub (.var 4) (.cst (.int 1))) (.cst (.bool true))),
      .for_ (.nm 10) .sq [(.rev (.var 7))] [
      .asg (.nm 9) false (.dc2 false [("at", 11), ("first", 12)] (.nm 11) .ks [(.var 9)] (.bop true [(.cmp .gt (.var 11) (.cst (.int 0))), (.cmp .eq (.idx (.var 2) (.bin .sub (.var 11) (.cst (.int 1)))) (.var 10))]) (.nm 12) .ks [(.idx (.var 3) (.var 11))] (.var 12) (.cst (.bool true)))],
      .mut .upd 6 [(.var 9)]] []],
    .retv 6]⟩
/-- is_telling: k60 k61 k85 k90 k99 -/
def is_telling : Fn := ⟨4, ["dictionary", "lot", "word", "thing", "one", "begins", "end"], [
    .exq (.call "look_asked" [(.var 0), (.var 1), (.var 2)]),
    .iff (.bop false [(.nt (.isi (.var 3) .list)), (.nt (.chn .le .le (.cst (.int 1)) (.blt .len [(.var 3)]) (.glb "MOST_TOLD" (.int 200)))), (.nt (.blt .all [(.lc [("one", 4)] (.nm 4) .sq [(.var 3)] .nil (.call "is_word" [(.var 4)]))]))]) [
      .ret (.cst (.bool false))] [],
    .asg (.nm 5) true (.emp false),
    .for_ (.nm 6) .r2 [(.cst (.int 1)), (.bin .add (.blt .len [(.var 3)]) (.cst (.int 1)))] [
      .put 5 (.var 6) (.call "begins_of" [(.var 0), (.var 1), (.var 3), (.var 5), (.var 6)])],
    .ret (.bop true [(.cmp .eq (.idx (.var 3) (.neg (.cst (.int 1)))) (.var 2)), (.cmp .isin (.cst (.int 0)) (.idx (.var 5) (.blt .len [(.var 3)])))])]⟩
/-- weights: k60 k61 k80 k85 k90 k99 -/
def weights : Fn := ⟨2, ["dictionary", "lot", "found", "most", "word"], [
    .exq (.call "look_dictionary" [(.var 0)]),
    .exq (.call "look_lot" [(.var 0), (.var 1)]),
    .asg (.nm 2) false (.call "told_lengths" [(.var 0), (.var 1)]),
    .asg (.nm 3) false (.blt .max [(.bin .add (.lst [(.cst (.int 0))]) (.blt .lvals [(.var 2)]))]),
    .ret (.lc [("word", 4)] (.nm 4) .sq [(.idx (.var 0) (.cst (.int 0)))] .nil (.tup [(.var 4), (.mth .get2 (.var 2) [(.var 4), (.var 3)])]))]⟩
/-- is_weight: k60 k61 k85 k90 -/
def is_weight : Fn := ⟨1, ["thing"], [
    .iff (.bop false [(.nt (.isi (.var 0) .tuple)), (.cmp .ne (.blt .len [(.var 0)]) (.cst (.int 2))), (.nt (.call "is_word" [(.idx (.var 0) (.cst (.int 0)))]))]) [
      .ret (.cst (.bool false))] [],
    .ret (.bop true [(.isi (.idx (.var 0) (.cst (.int 1))) .int), (.nt (.isi (.idx (.var 0) (.cst (.int 1))) .bool)), (.cmp .ge (.idx (.var 0) (.cst (.int 1))) (.cst (.int 0)))])]⟩
/-- are_weights: k60 k61 k85 k90 -/
def are_weights : Fn := ⟨3, ["dictionary", "lot", "thing", "row", "numbers", "word", "need", "taught", "most"], [
    .exq (.call "look_dictionary" [(.var 0)]),
    .exq (.call "look_lot" [(.var 0), (.var 1)]),
    .iff (.bop false [(.nt (.isi (.var 2) .list)), (.nt (.blt .all [(.lc [("row", 3)] (.nm 3) .sq [(.var 2)] .nil (.call "is_weight" [(.var 3)]))]))]) [
      .ret (.cst (.bool false))] [],
    .iff (.cmp .ne (.blt .tuple [(.lc [("row", 3)] (.nm 3) .sq [(.var 2)] .nil (.idx (.var 3) (.cst (.int 0))))]) (.idx (.var 0) (.cst (.int 0)))) [
      .ret (.cst (.bool false))] [],
    .asg (.nm 4) false (.blt .dict [(.var 2)]),
    .iff (.blt .any [(.lc [("word", 5)] (.nm 5) .sq [(.var 1)] .nil (.cmp .gt (.idx (.var 4) (.var 5)) (.cst (.int 1))))]) [
      .ret (.cst (.bool false))] [],
    .for_ (.tp [(.nm 6), (.nm 7)]) .sq [(.idx (.var 0) (.cst (.int 1)))] [
      .asg (.nm 8) false (.bin .add (.cst (.int 1)) (.blt .sum [(.lc [("word", 5)] (.nm 5) .sq [(.var 6)] .nil (.idx (.var 4) (.var 5)))])),
      .iff (.blt .any [(.lc [("word", 5)] (.nm 5) .sq [(.var 7)] .nil (.cmp .gt (.idx (.var 4) (.var 5)) (.var 8)))]) [
      .ret (.cst (.bool false))] []],
    .ret (.cst (.bool true))]⟩
/-- _law_lot: k60 k61 k80 k90 k99 -/
def law_lot : Fn := ⟨3, ["_law_script", "_law_at", "_law_words", "_law_k", "_law_word"], [
    .ret (.blt .tuple [(.lc [("_law_k", 3), ("_law_word", 4)] (.tp [(.nm 3), (.nm 4)]) .en [(.var 2)] (.cmp .eq (.call "_law_pick" [(.var 0), (.bin .add (.var 1) (.var 3)), (.cst (.int 3))]) (.cst (.int 0))) (.var 4))])]⟩
/-- _law_lengths: k60 k61 -/
def law_lengths : Fn := ⟨2, ["_law_dictionary_here", "_law_lot_here", "_law_found", "_law_old", "_law_word", "_law_need", "_law_taught", "_law_one"], [
    .par [2, 3] [true, false] [(.blt .dict [(.lc [("_law_word", 4)] (.nm 4) .sq [(.var 1)] .nil (.tup [(.var 4), (.cst (.int 1))]))]), (.cst .none)],
    .whl (.cmp .ne (.var 3) (.var 2)) [
      .asg (.nm 3) false (.blt .dict [(.var 2)]),
      .for_ (.tp [(.nm 5), (.nm 6)]) .sq [(.idx (.var 0) (.cst (.int 1)))] [
      .iff (.blt .all [(.lc [("_law_word", 4)] (.nm 4) .sq [(.var 5)] .nil (.cmp .isin (.var 4) (.var 2)))]) [
      .for_ (.nm 4) .sq [(.var 6)] [
      .put 2 (.var 4) (.blt .min2 [(.mth .get2 (.var 2) [(.var 4), (.cst (.int 999999))]), (.bin .add (.cst (.int 1)) (.blt .sum [(.lc [("_law_one", 7)] (.nm 7) .sq [(.var 5)] .nil (.idx (.var 2) (.var 7)))]))])]] []]],
    .retv 2]⟩
/-- _law_short: k60 k61 -/
def law_short : Fn := ⟨4, ["_law_dictionary_here", "_law_lengths_here", "_law_lot_here", "_law_word", "_law_rows", "_law_need", "_law_taught", "_law_one", "_law_row"], [
    .iff (.cmp .isin (.var 3) (.var 2)) [
      .ret (.lst [(.var 3)])] [],
    .asg (.nm 4) true (.lst []),
    .for_ (.tp [(.nm 5), (.nm 6)]) .sq [(.idx (.var 0) (.cst (.int 1)))] [
      .iff (.bop true [(.cmp .isin (.var 3) (.var 6)), (.blt .all [(.lc [("_law_one", 7)] (.nm 7) .sq [(.var 5)] .nil (.cmp .isin (.var 7) (.var 1)))])]) [
      .iff (.cmp .eq (.bin .add (.cst (.int 1)) (.blt .sum [(.lc [("_law_one", 7)] (.nm 7) .sq [(.var 5)] .nil (.idx (.var 1) (.var 7)))])) (.idx (.var 1) (.var 3))) [
      .asg (.nm 8) true (.lst []),
      .for_ (.nm 7) .sq [(.var 5)] [
      .mut .ext 8 [(.call "_law_short" [(.var 0), (.var 1), (.var 2), (.var 7)])]],
      .mut .app 4 [(.bin .add (.var 8) (.lst [(.var 3)]))]] []] []],
    .ret (.blt .min [(.var 4)])]⟩
/-- _law_are_told: k60 k61 -/
def law_are_told : Fn := ⟨4, ["_law_dictionary_here", "_law_lot_here", "_law_need", "_law_row", "_law_at"], [
    .iff (.cmp .eq (.var 2) (.tup [])) [
      .ret (.cmp .eq (.var 3) (.lst []))] [],
    .for_ (.nm 4) .r2 [(.cst (.int 1)), (.bin .add (.blt .len [(.var 3)]) (.cst (.int 1)))] [
      .iff (.bop true [(.cmp .eq (.idx (.var 3) (.bin .sub (.var 4) (.cst (.int 1)))) (.idx (.var 2) (.cst (.int 0)))), (.call "_law_is_told" [(.var 0), (.var 1), (.idx (.var 2) (.cst (.int 0))), (.slc (.var 3) .nil (.var 4))])]) [
      .iff (.call "_law_are_told" [(.var 0), (.var 1), (.slc (.var 2) (.cst (.int 1)) .nil), (.slc (.var 3) (.var 4) .nil)]) [
      .ret (.cst (.bool true))] []] []],
    .ret (.cst (.bool false))]⟩
/-- _law_is_told: k60 k61 -/
def law_is_told : Fn := ⟨4, ["_law_dictionary_here", "_law_lot_here", "_law_word", "_law_row", "_law_need", "_law_taught"], [
    .iff (.bop false [(.cmp .eq (.var 3) (.lst [])), (.cmp .ne (.idx (.var 3) (.neg (.cst (.int 1)))) (.var 2))]) [
      .ret (.cst (.bool false))] [],
    .iff (.bop true [(.cmp .eq (.var 3) (.lst [(.var 2)])), (.cmp .isin (.var 2) (.var 1))]) [
      .ret (.cst (.bool true))] [],
    .for_ (.tp [(.nm 4), (.nm 5)]) .sq [(.idx (.var 0) (.cst (.int 1)))] [
      .iff (.bop true [(.cmp .isin (.var 2) (.var 5)), (.call "_law_are_told" [(.var 0), (.var 1), (.var 4), (.slc (.var 3) .nil (.neg (.cst (.int 1))))])]) [
      .ret (.cst (.bool true))] []],
    .ret (.cst (.bool false))]⟩
/-- _law_odd_ones: k61 -/
def law_odd_ones : Fn := ⟨4, ["_law_script", "_law_dictionary_here", "_law_lot_here", "_law_rows", "_law_bad", "_law_row", "_law_thing", "_law_word", "_law_told", "_law_many", "_law_two"], [
    .asg (.nm 4) true (.bin .add (.call "_law_odd" [(.var 0), (.cst (.int 500))]) (.lst [(.blt .tuple [(.var 3)]), (.lc [("_law_row", 5)] (.nm 5) .sq [(.var 3)] .nil (.slc (.var 5) .nil (.cst (.int 1)))), (.lc [("_law_row", 5)] (.nm 5) .sq [(.var 3)] .nil (.tup [(.idx (.var 5) (.cst (.int 0))), (.cst (.bool true))]))])),
    .mut .ext 4 [(.lst [(.lc [("_law_row", 5)] (.nm 5) .sq [(.var 3)] .nil (.tup [(.idx (.var 5) (.cst (.int 0))), (.neg (.cst (.int 1)))])), (.lc [("_law_row", 5)] (.nm 5) .sq [(.var 3)] .nil (.blt .list [(.var 5)])), (.bin .add (.var 3) (.lst [(.cst .none)])), (.slc (.var 3) (.cst (.int 1)) .nil), (.bin .add (.var 3) (.var 3))])],
    .iff (.cmp .ne (.lc [("_law_thing", 6)] (.nm 6) .sq [(.var 4)] .nil (.call "are_weights" [(.var 1), (.var 2), (.var 6)])) (.bin .mul (.lst [(.cst (.bool false))]) (.blt .len [(.var 4)]))) [
      .ret (.cst (.bool false))] [],
    .asg (.nm 7) false (.idx (.idx (.var 1) (.cst (.int 0))) (.cst (.int 0))),
    .asg (.nm 4) true (.bin .add (.call "_law_odd" [(.var 0), (.cst (.int 500))]) (.lst [(.tup [(.var 7)]), (.lst [(.var 7), (.cst .none)]), (.lst [(.cst (.str (Str.ofString "zz")))]), (.bin .mul (.lst [(.var 7)]) (.cst (.int 201))), (.lst [])])),
    .iff (.cmp .ne (.lc [("_law_thing", 6)] (.nm 6) .sq [(.var 4)] .nil (.call "is_telling" [(.var 1), (.var 2), (.var 7), (.var 6)])) (.bin .mul (.lst [(.cst (.bool false))]) (.blt .len [(.var 4)]))) [
      .ret (.cst (.bool false))] [],
    .asg (.nm 5) false (.tup [(.tup [(.var 7)]), (.tup [(.tup [(.tup [(.cst (.str (Str.ofString "wa")))]), (.tup [(.cst (.str (Str.ofString "wa")))])])])]),
    .asg (.nm 8) true (.lc [("_law_many", 9)] (.nm 9) .sq [(.tup [(.cst (.int 1)), (.cst (.int 2)), (.cst (.int 200)), (.cst (.int 201))])] .nil (.call "is_telling" [(.var 5), (.tup [(.var 7)]), (.var 7), (.bin .mul (.lst [(.var 7)]) (.var 9))])),
    .asg (.nm 10) false (.tup [(.tup [(.cst (.str (Str.ofString "wa"))), (.cst (.str (Str.ofString "wb")))]), (.tup [(.tup [(.tup [(.cst (.str (Str.ofString "wa")))]), (.tup [(.cst (.str (Str.ofString "wb")))])]), (.tup [(.tup [(.cst (.str (Str.ofString "wb")))]), (.tup [(.cst (.str (Str.ofString "wa")))])])])]),
    .mut .app 8 [(.call "is_telling" [(.var 10), (.tup [(.cst (.str (Str.ofString "wa"))), (.cst (.str (Str.ofString "wb")))]), (.cst (.str (Str.ofString "wb"))), (.bin .mul (.lst [(.cst (.str (Str.ofString "wa"))), (.cst (.str (Str.ofString "wb")))]) (.cst (.int 60)))])],
    .mut .app 8 [(.call "is_telling" [(.var 10), (.tup [(.cst (.str (Str.ofString "wa"))), (.cst (.str (Str.ofString "wb")))]), (.cst (.str (Str.ofString "wb"))), (.bin .add (.bin .mul (.lst [(.cst (.str (Str.ofString "wa")))]) (.cst (.int 60))) (.lst [(.cst (.str (Str.ofString "wb")))]))])],
    .ret (.cmp .eq (.var 8) (.lst [(.cst (.bool true)), (.cst (.bool true)), (.cst (.bool true)), (.cst (.bool false)), (.cst (.bool true)), (.cst (.bool false))]))]⟩
/-- _law_weights: k61 -/
def law_weights : Fn := ⟨4, ["_law_script", "_law_dictionary_here", "_law_lot_here", "_law_lengths_here", "_law_words", "_law_rows", "_law_k", "_law_some", "_law_here", "_law_j", "_law_case", "_law_word", "_law_many", "_law_numbers", "_law_is_so", "_law_row", "_law_need", "_law_taught", "_law_one"], [
    .asg (.nm 4) false (.idx (.var 1) (.cst (.int 0))),
    .asg (.nm 5) false (.call "weights" [(.var 1), (.var 2)]),
    .for_ (.nm 6) .r1 [(.cst (.int 6))] [
      .par [7, 8] [true, false] [(.blt .list [(.var 5)]), (.bin .add (.cst (.int 400)) (.bin .mul (.cst (.int 9)) (.var 6)))],
      .par [9, 10] [false, false] [(.call "_law_pick" [(.var 0), (.var 8), (.blt .len [(.var 5)])]), (.ite (.cmp .gt (.var 6) (.cst (.int 0))) (.call "_law_pick" [(.var 0), (.bin .add (.var 8) (.cst (.int 1))), (.cst (.int 5))]) (.cst (.int 9)))],
      .iff (.cmp .lt (.var 10) (.cst (.int 2))) [
      .put 7 (.var 9) (.tup [(.idx (.idx (.var 7) (.var 9)) (.cst (.int 0))), (.blt .max2 [(.cst (.int 0)), (.bin .sub (.bin .add (.idx (.idx (.var 7) (.var 9)) (.cst (.int 1))) (.bin .mul (.cst (.int 2)) (.var 10))) (.cst (.int 1)))])])] [
      .iff (.cmp .eq (.var 10) (.cst (.int 2))) [
      .asg (.nm 7) true (.lc [("_law_word", 11), ("_law_many", 12)] (.tp [(.nm 11), (.nm 12)]) .sq [(.var 7)] .nil (.tup [(.var 11), (.bin .fdiv (.var 12) (.cst (.int 2)))]))] [
      .iff (.cmp .eq (.var 10) (.cst (.int 3))) [
      .asg (.nm 7) true (.rev (.var 7))] []]],
      .par [13, 14] [false, false] [(.blt .dict [(.var 7)]), (.cmp .eq (.lc [("_law_row", 15)] (.nm 15) .sq [(.var 7)] .nil (.idx (.var 15) (.cst (.int 0)))) (.blt .list [(.var 4)]))],
      .for_ (.nm 11) .sq [(.var 2)] [
      .asg (.nm 14) false (.bop true [(.var 14), (.cmp .le (.idx (.var 13) (.var 11)) (.cst (.int 1)))])],
      .for_ (.tp [(.nm 16), (.nm 17)]) .sq [(.idx (.var 1) (.cst (.int 1)))] [
      .for_ (.nm 11) .sq [(.var 17)] [
      .asg (.nm 14) false (.bop true [(.var 14), (.cmp .le (.idx (.var 13) (.var 11)) (.bin .add (.cst (.int 1)) (.blt .sum [(.lc [("_law_one", 18)] (.nm 18) .sq [(.var 16)] .nil (.idx (.var 13) (.var 18)))])))])]],
      .iff (.cmp .ne (.call "are_weights" [(.var 1), (.var 2), (.var 7)]) (.var 14)) [
      .ret (.cst (.bool false))] [],
      .iff (.bop true [(.var 14), (.blt .any [(.lc [("_law_word", 11)] (.nm 11) .sq [(.var 3)] .nil (.cmp .gt (.idx (.var 13) (.var 11)) (.idx (.var 3) (.var 11))))])]) [
      .ret (.cst (.bool false))] []],
    .ret (.call "_law_odd_ones" [(.var 0), (.var 1), (.var 2), (.var 5)])]⟩
/-- is_answer: k64 k80 k85 k90 k99 -/
def is_answer : Fn := ⟨2, ["dictionary", "thing"], [
    .iff (.bop false [(.nt (.isi (.var 1) .tuple)), (.cmp .ne (.blt .len [(.var 1)]) (.cst (.int 2))), (.nt (.call "is_word" [(.idx (.var 1) (.cst (.int 0)))])), (.cmp .nin (.idx (.var 1) (.cst (.int 0))) (.idx (.var 0) (.cst (.int 0))))]) [
      .ret (.cst (.bool false))] [],
    .ret (.bop true [(.isi (.idx (.var 1) (.cst (.int 1))) .str), (.cmp .isin (.idx (.var 1) (.cst (.int 1))) (.tup [(.glb "YES" (.str (Str.ofString "yes"))), (.glb "NO" (.str (Str.ofString "no")))]))])]⟩
/-- look_answers: k64 k80 k85 k90 k99 -/
def look_answers : Fn := ⟨2, ["dictionary", "thing", "row", "words", "at", "word"], [
    .iff (.bop false [(.nt (.isi (.var 1) .list)), (.nt (.blt .all [(.lc [("row", 2)] (.nm 2) .sq [(.var 1)] .nil (.call "is_answer" [(.var 0), (.var 2)]))]))]) [
      .rse "NoAnswers"] [],
    .asg (.nm 3) false (.lc [("row", 2)] (.nm 2) .sq [(.var 1)] .nil (.idx (.var 2) (.cst (.int 0)))),
    .iff (.blt .any [(.lc [("at", 4), ("word", 5)] (.tp [(.nm 4), (.nm 5)]) .en [(.var 3)] .nil (.cmp .isin (.var 5) (.slc (.var 3) .nil (.var 4))))]) [
      .rse "NoAnswers"] []]⟩
/-- plain_fitting: k64 k80 k85 k90 k99 -/
def plain_fitting : Fn := ⟨2, ["dictionary", "answers", "found", "word", "answer", "lot"], [
    .asg (.nm 2) false (.call "plain_closed_lots" [(.var 0)]),
    .for_ (.tp [(.nm 3), (.nm 4)]) .sq [(.var 1)] [
      .asg (.nm 2) false (.lc [("lot", 5)] (.nm 5) .sq [(.var 2)] (.cmp .eq (.cmp .isin (.var 3) (.var 5)) (.cmp .eq (.var 4) (.glb "YES" (.str (Str.ofString "yes"))))) (.var 5))],
    .ret (.var 2)]⟩
/-- fitting: k64 k80 k85 k90 k99 -/
def fitting : Fn := ⟨2, ["dictionary", "answers"], [
    .exq (.call "look_dictionary" [(.var 0)]),
    .exq (.call "look_answers" [(.var 0), (.var 1)]),
    .ret (.call "plain_fitting" [(.var 0), (.var 1)])]⟩
/-- sure_of: k64 k80 k85 k99 -/
def sure_of : Fn := ⟨2, ["dictionary", "answers", "lots", "every", "word", "lot"], [
    .asg (.nm 2) false (.call "fitting" [(.var 0), (.var 1)]),
    .iff (.cmp .eq (.var 2) (.lst [])) [
      .ret (.cst .none)] [],
    .asg (.nm 3) false (.blt .tuple [(.lc [("word", 4)] (.nm 4) .sq [(.idx (.var 0) (.cst (.int 0)))] (.blt .all [(.lc [("lot", 5)] (.nm 5) .sq [(.var 2)] .nil (.cmp .isin (.var 4) (.var 5)))]) (.var 4))]),
    .ret (.tup [(.var 3), (.blt .tuple [(.lc [("word", 4)] (.nm 4) .sq [(.idx (.var 0) (.cst (.int 0)))] (.nt (.blt .any [(.lc [("lot", 5)] (.nm 5) .sq [(.var 2)] .nil (.cmp .isin (.var 4) (.var 5)))])) (.var 4))])])]⟩
/-- best_word: k64 k66 k80 k85 k99 -/
def best_word : Fn := ⟨2, ["words", "lots", "rows", "word", "many", "lot"], [
    .asg (.nm 2) true (.lst []),
    .for_ (.nm 3) .sq [(.var 0)] [
      .asg (.nm 4) false (.blt .len [(.lc [("lot", 5)] (.nm 5) .sq [(.var 1)] (.cmp .isin (.var 3) (.var 5)) (.var 5))]),
      .iff (.chn .lt .lt (.cst (.int 0)) (.var 4) (.blt .len [(.var 1)])) [
      .mut .app 2 [(.tup [(.blt .max2 [(.var 4), (.bin .sub (.blt .len [(.var 1)]) (.var 4))]), (.var 3)])]] []],
    .ret (.ite (.cmp .ne (.var 2) (.lst [])) (.idx (.blt .min [(.var 2)]) (.cst (.int 1))) (.cst .none))]⟩
/-- next_question: k64 k80 k85 k99 -/
def next_question : Fn := ⟨2, ["dictionary", "answers"], [
    .ret (.call "best_word" [(.idx (.var 0) (.cst (.int 0))), (.call "fitting" [(.var 0), (.var 1)])])]⟩
/-- most_asked: k64 k66 k80 k85 k99 -/
def most_asked : Fn := ⟨2, ["words", "lots", "word", "inside", "lot"], [
    .asg (.nm 2) false (.call "best_word" [(.var 0), (.var 1)]),
    .iff (.cmp .iz (.var 2) (.cst .none)) [
      .ret (.cst (.int 0))] [],
    .asg (.nm 3) false (.lc [("lot", 4)] (.nm 4) .sq [(.var 1)] (.cmp .isin (.var 2) (.var 4)) (.var 4)),
    .ret (.bin .add (.cst (.int 1)) (.blt .max2 [(.call "most_asked" [(.var 0), (.var 3)]), (.call "most_asked" [(.var 0), (.lc [("lot", 4)] (.nm 4) .sq [(.var 1)] (.cmp .nin (.var 2) (.var 4)) (.var 4))])]))]⟩
/-- most_questions: k64 k66 k80 k85 k99 -/
def most_questions : Fn := ⟨1, ["dictionary"], [
    .exq (.call "look_dictionary" [(.var 0)]),
    .ret (.call "most_asked" [(.idx (.var 0) (.cst (.int 0))), (.call "plain_closed_lots" [(.var 0)])])]⟩
/-- least_questions: k64 k66 k85 k99 -/
def least_questions : Fn := ⟨1, ["dictionary", "many", "size"], [
    .exq (.call "look_dictionary" [(.var 0)]),
    .asg (.tp [(.nm 1), (.nm 2)]) false (.tup [(.cst (.int 0)), (.cst (.int 1))]),
    .whl (.cmp .lt (.var 2) (.blt .len [(.call "plain_closed_lots" [(.var 0)])])) [
      .par [1, 2] [false, false] [(.bin .add (.var 1) (.cst (.int 1))), (.bin .mul (.cst (.int 2)) (.var 2))]],
    .ret (.var 1)]⟩
/-- _law_next: k64 -/
def law_next : Fn := ⟨2, ["_law_words", "_law_lots_here", "_law_rows", "_law_word", "_law_many", "_law_lot"], [
    .asg (.nm 2) true (.lst []),
    .for_ (.nm 3) .sq [(.var 0)] [
      .asg (.nm 4) false (.blt .len [(.lc [("_law_lot", 5)] (.nm 5) .sq [(.var 1)] (.cmp .isin (.var 3) (.var 5)) (.var 5))]),
      .iff (.cmp .nin (.var 4) (.tup [(.cst (.int 0)), (.blt .len [(.var 1)])])) [
      .mut .app 2 [(.tup [(.blt .max2 [(.var 4), (.bin .sub (.blt .len [(.var 1)]) (.var 4))]), (.var 3)])]] []],
    .ret (.ite (.cmp .ne (.var 2) (.lst [])) (.idx (.blt .min [(.var 2)]) (.cst (.int 1))) (.cst .none))]⟩
/-- plain_known: k66 k99 -/
def plain_known : Fn := ⟨2, ["dictionary", "lot", "have", "is_new", "word", "need", "taught"], [
    .exq (.call "look_dictionary" [(.var 0)]),
    .exq (.call "look_lot" [(.var 0), (.var 1)]),
    .par [2, 3] [true, false] [(.dc false [("word", 4)] (.nm 4) .sq [(.var 1)] (.var 4) (.cst (.bool true))), (.cst (.bool true))],
    .whl (.var 3) [
      .asg (.nm 3) false (.cst (.bool false)),
      .for_ (.tp [(.nm 5), (.nm 6)]) .sq [(.idx (.var 0) (.cst (.int 1)))] [
      .iff (.blt .all [(.lc [("word", 4)] (.nm 4) .sq [(.var 5)] .nil (.cmp .isin (.var 4) (.var 2)))]) [
      .for_ (.nm 4) .sq [(.var 6)] [
      .iff (.cmp .nin (.var 4) (.var 2)) [
      .putp 2 (.var 4) 3 (.cst (.bool true)) (.cst (.bool true))] []]] []]],
    .ret (.blt .tuple [(.blt .sorted [(.var 2)])])]⟩
/-- plain_closed: k66 k90 -/
def plain_closed : Fn := ⟨1, ["dictionary", "lots", "word", "lot", "found", "is_shut", "need", "taught"], [
    .exq (.call "look_dictionary" [(.var 0)]),
    .asg (.nm 1) false (.lst [(.tup [])]),
    .for_ (.nm 2) .sq [(.idx (.var 0) (.cst (.int 0)))] [
      .asg (.nm 1) false (.bin .add (.var 1) (.lc [("lot", 3)] (.nm 3) .sq [(.var 1)] .nil (.bin .add (.var 3) (.tup [(.var 2)]))))],
    .asg (.nm 4) true (.lst []),
    .for_ (.nm 3) .sq [(.var 1)] [
      .asg (.nm 5) false (.cst (.bool true)),
      .for_ (.tp [(.nm 6), (.nm 7)]) .sq [(.idx (.var 0) (.cst (.int 1)))] [
      .iff (.bop true [(.blt .all [(.lc [("word", 2)] (.nm 2) .sq [(.var 6)] .nil (.cmp .isin (.var 2) (.var 3)))]), (.nt (.blt .all [(.lc [("word", 2)] (.nm 2) .sq [(.var 7)] .nil (.cmp .isin (.var 2) (.var 3)))]))]) [
      .asg (.nm 5) false (.cst (.bool false))] []],
      .iff (.var 5) [
      .mut .app 4 [(.var 3)]] []],
    .ret (.blt .sorted [(.var 4)])]⟩
/-- _law_named: k80 -/
def law_named : Fn := ⟨2, ["_law_thing", "_law_names", "_law_found", "_law_part"], [
    .iff (.isi (.var 0) .tl) [
      .asg (.nm 2) false (.lc [("_law_part", 3)] (.nm 3) .sq [(.var 0)] .nil (.call "_law_named" [(.var 3), (.var 1)])),
      .ret (.ite (.isi (.var 0) .tuple) (.blt .tuple [(.var 2)]) (.var 2))] [],
    .ret (.ite (.isi (.var 0) .str) (.mth .get2 (.var 1) [(.var 0), (.var 0)]) (.var 0))]⟩
end Tdl.A
/-! TpSim: running the evaluator by simp. -/
namespace Tdl
open PySem PySem.W
theorem bd_cg {α β : Type} {r r' : Res α} {f : α → Res β} (h : r = r') : r.bd f = r'.bd f := by rw [h]
theorem loopW_cg {c : Env → Res Bool} {b : Env → Res Flow} {n n' : Nat} {e e' : Env} (h : n = n') (g : e = e') : loopW c b n e = loopW c b n' e' := by rw [h, g]
theorem loopF_cg {t : Tg} {b : Env → Res Flow} {xs xs' : List PyData} {e e' : Env} (h : xs = xs') (g : e = e') : loopF t b xs e = loopF t b xs' e' := by rw [h, g]
theorem goLc_cg {f : PyData → Res (Option PyData)} {xs xs' a a' : List PyData} (h : xs = xs') (g : a = a') : goLc f xs a = goLc f xs' a' := by rw [h, g]
theorem goDc_cg {f : PyData → List (PyData × PyData) → Res (List (PyData × PyData))} {xs xs' : List PyData} {a a' : List (PyData × PyData)} (h : xs = xs') (g : a = a') : goDc f xs a = goDc f xs' a' := by rw [h, g]
/-- an int in a slot -/
abbrev sD (d : PyData) : SV := .rv (im d)
theorem bl_b (b : Bool) (m : Md) : bl ⟨.bool b, m⟩ = .ok b := rfl
theorem fr_im (d : PyData) : fr ⟨d, .im⟩ = .ok d := rfl
theorem fr_ow (d : PyData) : fr ⟨d, .ow⟩ = .ok d := rfl
theorem keep_im (o : Bool) (d : PyData) : keep o ⟨d, .im⟩ = .ok ⟨d, .im⟩ := rfl
theorem keep_owt (d : PyData) : keep true ⟨d, .ow⟩ = .ok ⟨d, .ow⟩ := rfl
theorem keep_owf (d : PyData) : keep false ⟨d, .ow⟩ = .ok ⟨d, .im⟩ := rfl
theorem lend_im (d : PyData) : lend ⟨d, .im⟩ = ⟨d, .im⟩ := rfl
theorem lend_ow (d : PyData) : lend ⟨d, .ow⟩ = ⟨d, .im⟩ := rfl
theorem lend_bo (d : PyData) : lend ⟨d, .bo⟩ = ⟨d, .bo⟩ := rfl
theorem add_ii (m : Md) (i j : Int) : binop .add m (.int i) (.int j) = .ok ⟨.int (i + j), .im⟩ := rfl
theorem sub_ii (m : Md) (i j : Int) : binop .sub m (.int i) (.int j) = .ok ⟨.int (i - j), .im⟩ := rfl
theorem mul_ii (m : Md) {i j : Int} (h : (-18446744073709551616 < i ∧ i < 18446744073709551616) ∨ (-18446744073709551616 < j ∧ j < 18446744073709551616)) : binop .mul m (.int i) (.int j) = .ok ⟨.int (i * j), .im⟩ := by
  show gd (smI _ i || smI _ j) _ = _
  rw [show (smI 18446744073709551616 i || smI 18446744073709551616 j) = true from (Bool.or_eq_true _ _).mpr (h.imp (fun c => smI_iff.mpr (by omega)) fun c => smI_iff.mpr (by omega))]
  rfl
theorem fdiv_ii (m : Md) {i j : Int} (h : 0 < j ∧ j < 1180591620717411303424) : binop .fdiv m (.int i) (.int j) = .ok ⟨.int (i / j), .im⟩ := by
  show gd (decide _ && smI _ j) _ = _
  rw [show (decide (0 < j) && smI 1180591620717411303424 j) = true from (Bool.and_eq_true _ _).mpr ⟨decide_eq_true h.1, smI_iff.mpr (by omega)⟩]
  rfl
theorem mod_ii (m : Md) {i j : Int} (h : 0 < j) : binop .mod m (.int i) (.int j) = .ok ⟨.int (i % j), .im⟩ := by
  show gd (decide _) _ = _
  rw [decide_eq_true h]
  rfl
theorem gt_ii (a b : Int) : cmpop .gt (.int a) (.int b) = .ok (decide (b < a)) := by
  show gd (ltOk (.int a) (.int b)) _ = _
  rw [show ltOk (.int a) (.int b) = true from rfl, dataLt_int]
  rfl
theorem lt_ii (a b : Int) : cmpop .lt (.int a) (.int b) = .ok (decide (a < b)) := by
  show gd (ltOk (.int a) (.int b)) _ = _
  rw [show ltOk (.int a) (.int b) = true from rfl, dataLt_int]
  rfl
theorem le_ii (a b : Int) : cmpop .le (.int a) (.int b) = .ok (!decide (b < a)) := by
  show gd (ltOk (.int a) (.int b)) _ = _
  rw [show ltOk (.int a) (.int b) = true from rfl, dataLt_int]
  rfl
theorem ge_ii (a b : Int) : cmpop .ge (.int a) (.int b) = .ok (!decide (a < b)) := by
  show gd (ltOk (.int a) (.int b)) _ = _
  rw [show ltOk (.int a) (.int b) = true from rfl, dataLt_int]
  rfl
section
variable {Φ : Fns} {F : Nat} {env : Env}
/-- what follows a statement -/
def kS (Φ : Fns) (F : Nat) (r : List Stm) : Flow → Res Flow
  | .nx e2 => exs Φ F r e2
  | .rt v => .ok (.rt v)
theorem kS_nx {r : List Stm} {e : Env} : kS Φ F r (.nx e) = exs Φ F r e := rfl
theorem kS_rt {r : List Stm} {v : RV} : kS Φ F r (.rt v) = .ok (.rt v) := rfl
theorem exs_nil : exs Φ F [] env = .ok (.nx env) := rfl
theorem exs_cons {s : Stm} {r : List Stm} : exs Φ F (s :: r) env = (ex Φ F s env).bd (kS Φ F r) := rfl
/-- the branches of an if -/
def kIf (Φ : Fns) (F : Nat) (a b : List Stm) (env : Env) (r : RV) : Res Flow := (bl r).bd fun k => match k with
  | true => exs Φ F a env
  | false => exs Φ F b env
theorem kIf_t {a b : List Stm} {m : Md} : kIf Φ F a b env ⟨.bool true, m⟩ = exs Φ F a env := rfl
theorem kIf_f {a b : List Stm} {m : Md} : kIf Φ F a b env ⟨.bool false, m⟩ = exs Φ F b env := rfl
def kAsg (i : Nat) (o : Bool) (env : Env) (r : RV) : Res Flow := (keep o r).bd fun v => .ok (.nx (env.set i (.rv v)))
theorem kAsg_im {i : Nat} {o : Bool} {d : PyData} : kAsg i o env ⟨d, .im⟩ = .ok (.nx (env.set i (.rv ⟨d, .im⟩))) := rfl
theorem kAsg_owt {i : Nat} {d : PyData} : kAsg i true env ⟨d, .ow⟩ = .ok (.nx (env.set i (.rv ⟨d, .ow⟩))) := rfl
theorem kAsg_owf {i : Nat} {d : PyData} : kAsg i false env ⟨d, .ow⟩ = .ok (.nx (env.set i (.rv ⟨d, .im⟩))) := rfl
def kRet (r : RV) : Res Flow := (keep true r).bd fun v => .ok (.rt v)
theorem kRet_im {d : PyData} : kRet ⟨d, .im⟩ = .ok (.rt ⟨d, .im⟩) := rfl
theorem kRet_ow {d : PyData} : kRet ⟨d, .ow⟩ = .ok (.rt ⟨d, .ow⟩) := rfl
theorem ex_asg {i : Nat} {o : Bool} {e : Ex} : ex Φ F (.asg (.nm i) o e) env = (ev Φ e env).bd (kAsg i o env) := rfl
theorem ex_asgT {ts : List Tg} {o : Bool} {e : Ex} : ex Φ F (.asg (.tp ts) o e) env = (ev Φ e env).bd fun r => (fr r).bd fun d => (bindT (.tp ts) d env).bd fun e1 => .ok (.nx e1) := rfl
theorem ex_par {is : List Nat} {os : List Bool} {es : List Ex} : ex Φ F (.par is os es) env = (evr Φ es env).bd fun rs => (parL is os rs env).bd fun e1 => .ok (.nx e1) := rfl
theorem ex_put {i : Nat} {k e : Ex} : ex Φ F (.put i k e) env = ((ev Φ e env).bd fr).bd fun v => (owned env i).bd fun d => ((ev Φ k env).bd fr).bd fun kd => (putop d kd v).bd fun d1 => .ok (.nx (env.set i (.rv (ow d1)))) := rfl
theorem ex_putp {i j : Nat} {k e1 e2 : Ex} : ex Φ F (.putp i k j e1 e2) env = (evs Φ [e1, e2] env).bd fun vs => (owned env i).bd fun d => ((ev Φ k env).bd fr).bd fun kd => match vs with
    | [v, v2] => (putop d kd v).bd fun d1 => .ok (.nx ((env.set i (.rv (ow d1))).set j (.rv (im v2))))
    | _ => .err := rfl
theorem ex_ext {i : Nat} {e : Ex} : ex Φ F (.mut .ext i [e]) env = (owned env i).bd fun d => gd (mutG .ext d) ((ev Φ e env).bd fun r => gd (decide (r.m ≠ .im)) ((mutop .ext d [r.d]).bd fun d1 => .ok (.nx (env.set i (.rv (ow d1)))))) := rfl
theorem ex_app {i : Nat} {es : List Ex} : ex Φ F (.mut .app i es) env = (owned env i).bd fun d => gd (mutG .app d) ((evs Φ es env).bd fun ds => (mutop .app d ds).bd fun d1 => .ok (.nx (env.set i (.rv (ow d1))))) := rfl
theorem ex_upd {i : Nat} {es : List Ex} : ex Φ F (.mut .upd i es) env = (owned env i).bd fun d => gd (mutG .upd d) ((evs Φ es env).bd fun ds => (mutop .upd d ds).bd fun d1 => .ok (.nx (env.set i (.rv (ow d1))))) := rfl
theorem ex_pop {i : Nat} {es : List Ex} : ex Φ F (.mut .pop i es) env = (owned env i).bd fun d => gd (mutG .pop d) ((evs Φ es env).bd fun ds => (mutop .pop d ds).bd fun d1 => .ok (.nx (env.set i (.rv (ow d1))))) := rfl
theorem ex_ret {e : Ex} : ex Φ F (.ret e) env = (ev Φ e env).bd kRet := rfl
theorem ex_retv {i : Nat} : ex Φ F (.retv i) env = (owned env i).bd fun d => .ok (.rt (ow d)) := rfl
theorem ex_iff {c : Ex} {a b : List Stm} : ex Φ F (.iff c a b) env = (ev Φ c env).bd (kIf Φ F a b env) := rfl
theorem ex_for {t : Tg} {k : Wk} {src : List Ex} {b : List Stm} : ex Φ F (.for_ t k src b) env = (evs Φ src (frzL src env)).bd fun ds => (walkop k ds).bd fun xs => loopF t (exs Φ F b) xs (frzL src env) := rfl
/-- a while's test -/
def tst (Φ : Fns) (c : Ex) (env : Env) : Res Bool := (ev Φ c env).bd bl
theorem tst_is {c : Ex} : tst Φ c env = (ev Φ c env).bd bl := rfl
theorem ex_whl {c : Ex} {b : List Stm} : ex Φ F (.whl c b) env = loopW (tst Φ c) (exs Φ F b) F env := rfl
/-- behind a turn -/
def kL (c : Env → Res Bool) (body : Env → Res Flow) (n : Nat) : Flow → Res Flow
  | .nx e2 => loopW c body n e2
  | .rt v => .ok (.rt v)
theorem kL_nx {c : Env → Res Bool} {body : Env → Res Flow} {n : Nat} {e : Env} : kL c body n (.nx e) = loopW c body n e := rfl
theorem kL_rt {c : Env → Res Bool} {body : Env → Res Flow} {n : Nat} {v : RV} : kL c body n (.rt v) = .ok (.rt v) := rfl
def kW (c : Env → Res Bool) (body : Env → Res Flow) (n : Nat) (env : Env) : Bool → Res Flow
  | true => (body env).bd (kL c body n)
  | false => .ok (.nx env)
theorem kW_t {c : Env → Res Bool} {body : Env → Res Flow} {n : Nat} : kW c body n env true = (body env).bd (kL c body n) := rfl
theorem kW_f {c : Env → Res Bool} {body : Env → Res Flow} {n : Nat} : kW c body n env false = .ok (.nx env) := rfl
theorem loopW_s {c : Env → Res Bool} {body : Env → Res Flow} {n : Nat} : loopW c body (n + 1) env = (c env).bd (kW c body n env) := by
  have e : (fun f => match f with
      | Flow.nx e2 => loopW c body n e2
      | Flow.rt v => .ok (.rt v)) = kL c body n := by funext f; cases f <;> rfl
  have e2 : (fun k => match k with
      | true => (body env).bd (kL c body n)
      | false => .ok (.nx env)) = kW c body n env := by funext k; cases k <;> rfl
  unfold loopW
  rw [← e2, ← e]
  try rfl
def kF_ (t : Tg) (body : Env → Res Flow) (r : List PyData) : Flow → Res Flow
  | .nx e2 => loopF t body r e2
  | .rt v => .ok (.rt v)
theorem kF_nx {t : Tg} {body : Env → Res Flow} {r : List PyData} {e : Env} : kF_ t body r (.nx e) = loopF t body r e := rfl
theorem kF_rt {t : Tg} {body : Env → Res Flow} {r : List PyData} {v : RV} : kF_ t body r (.rt v) = .ok (.rt v) := rfl
theorem loopF_nil {t : Tg} {body : Env → Res Flow} : loopF t body [] env = .ok (.nx env) := rfl
theorem loopF_cons {t : Tg} {body : Env → Res Flow} {x : PyData} {r : List PyData} : loopF t body (x :: r) env = (bindT t x env).bd fun e1 => (body e1).bd (kF_ t body r) := by
  have e : (fun f => match f with
      | Flow.nx e2 => loopF t body r e2
      | Flow.rt v => .ok (.rt v)) = kF_ t body r := by funext f; cases f <;> rfl
  unfold loopF
  rw [← e]
  try rfl
theorem ex_rse {c : String} : ex Φ F (.rse c) env = .exc c := rfl
theorem ex_exq {e : Ex} : ex Φ F (.exq e) env = (ev Φ e env).bd fun _ => .ok (.nx env) := rfl
theorem ex_frz {i : Nat} : ex Φ F (.frz i) env = .ok (.nx (frzS env i)) := rfl
theorem frzS_i {i : Nat} : frzS env i = match env[i]? with
    | some (.rv ⟨d, .ow⟩) => env.set i (.rv ⟨d, .im⟩)
    | _ => env := rfl
theorem frzL_nil : frzL [] env = env := rfl
theorem frzL_var {i : Nat} {r : List Ex} : frzL (.var i :: r) env = frzL r (frzS env i) := rfl
theorem frzL_idx {a b : Ex} {r : List Ex} : frzL (.idx a b :: r) env = frzL r env := rfl
theorem frzL_call {f : String} {es r : List Ex} : frzL (.call f es :: r) env = frzL r env := rfl
theorem frzL_blt {b : Bl} {es r : List Ex} : frzL (.blt b es :: r) env = frzL r env := rfl
theorem frzL_rev {a : Ex} {r : List Ex} : frzL (.rev a :: r) env = frzL r env := rfl
theorem frzL_slc {a b c : Ex} {r : List Ex} : frzL (.slc a b c :: r) env = frzL r env := rfl
theorem frzL_tup {es r : List Ex} : frzL (.tup es :: r) env = frzL r env := rfl
theorem frzL_lst {es r : List Ex} : frzL (.lst es :: r) env = frzL r env := rfl
theorem frzL_cst {d : PyData} {r : List Ex} : frzL (.cst d :: r) env = frzL r env := rfl
theorem frzL_glb {x : String} {d : PyData} {r : List Ex} : frzL (.glb x d :: r) env = frzL r env := rfl
theorem frzL_bin {o : Bo} {a b : Ex} {r : List Ex} : frzL (.bin o a b :: r) env = frzL r env := rfl
theorem frzL_mth {m : Mt} {a : Ex} {es r : List Ex} : frzL (.mth m a es :: r) env = frzL r env := rfl
theorem ev_var {i : Nat} : ev Φ (.var i) env = look env i := rfl
theorem ev_cst {d : PyData} : ev Φ (.cst d) env = .ok (im d) := rfl
theorem ev_glb {x : String} {d : PyData} : ev Φ (.glb x d) env = .ok (im d) := rfl
theorem ev_tup {es : List Ex} : ev Φ (.tup es) env = (evs Φ es env).bd fun ds => .ok (im (.tuple ds)) := rfl
theorem ev_lst {es : List Ex} : ev Φ (.lst es) env = (evs Φ es env).bd fun ds => .ok (ow (.list ds)) := rfl
theorem ev_bin {o : Bo} {a b : Ex} : ev Φ (.bin o a b) env = (ev Φ a env).bd fun x => (ev Φ b env).bd fun y => binop o x.m x.d y.d := rfl
theorem ev_neg {a : Ex} : ev Φ (.neg a) env = (ev Φ a env).bd fun x => match x.d with
    | .int i => .ok (im (.int (-i)))
    | _ => .err := rfl
theorem ev_cmp {o : Co} {a b : Ex} : ev Φ (.cmp o a b) env = (ev Φ a env).bd fun x => (ev Φ b env).bd fun y => (cmpop o x.d y.d).bd fun c => .ok (im (.bool c)) := rfl
def kChn (Φ : Fns) (p : Co) (y : RV) (c : Ex) (env : Env) : Bool → Res RV
  | true => (ev Φ c env).bd fun z => (cmpop p y.d z.d).bd fun l => .ok (im (.bool l))
  | false => .ok (im (.bool false))
theorem kChn_t {p : Co} {y : RV} {c : Ex} : kChn Φ p y c env true = (ev Φ c env).bd fun z => (cmpop p y.d z.d).bd fun l => .ok (im (.bool l)) := rfl
theorem kChn_f {p : Co} {y : RV} {c : Ex} : kChn Φ p y c env false = .ok (im (.bool false)) := rfl
theorem ev_chn {o p : Co} {a b c : Ex} : ev Φ (.chn o p a b c) env = (ev Φ a env).bd fun x => (ev Φ b env).bd fun y => (cmpop o x.d y.d).bd (kChn Φ p y c env) := by
  have e : ∀ y : RV, (fun k => match k with
    | true => (ev Φ c env).bd fun z => (cmpop p y.d z.d).bd fun l => .ok (im (.bool l))
    | false => .ok (im (.bool false))) = kChn Φ p y c env := fun y => by funext k; cases k <;> rfl
  show ((ev Φ a env).bd fun x => (ev Φ b env).bd fun y => (cmpop o x.d y.d).bd _) = _
  simp only [← e]
  try rfl
theorem ev_bop {k : Bool} {es : List Ex} : ev Φ (.bop k es) env = evb Φ k es env := rfl
def kBop (Φ : Fns) (k : Bool) (r : List Ex) (env : Env) (x : RV) : Res RV := (bl x).bd fun c => match c, k with
    | true, true => evb Φ k r env
    | false, false => evb Φ k r env
    | true, false => .ok (im (.bool true))
    | false, true => .ok (im (.bool false))
theorem evb_one {k : Bool} {e : Ex} : evb Φ k [e] env = ev Φ e env := rfl
theorem evb_cons {k : Bool} {e e2 : Ex} {r : List Ex} : evb Φ k (e :: e2 :: r) env = (ev Φ e env).bd (kBop Φ k (e2 :: r) env) := rfl
theorem kBop_tt {r : List Ex} {m : Md} : kBop Φ true r env ⟨.bool true, m⟩ = evb Φ true r env := rfl
theorem kBop_ff {r : List Ex} {m : Md} : kBop Φ false r env ⟨.bool false, m⟩ = evb Φ false r env := rfl
theorem kBop_tf {r : List Ex} {m : Md} : kBop Φ false r env ⟨.bool true, m⟩ = .ok (im (.bool true)) := rfl
theorem kBop_ft {r : List Ex} {m : Md} : kBop Φ true r env ⟨.bool false, m⟩ = .ok (im (.bool false)) := rfl
theorem ev_nt {a : Ex} : ev Φ (.nt a) env = (ev Φ a env).bd fun x => (bl x).bd fun c => .ok (im (.bool (!c))) := rfl
def kIte (Φ : Fns) (a b : Ex) (env : Env) (x : RV) : Res RV := (bl x).bd fun k => match k with
    | true => ev Φ a env
    | false => ev Φ b env
theorem kIte_t {a b : Ex} {m : Md} : kIte Φ a b env ⟨.bool true, m⟩ = ev Φ a env := rfl
theorem kIte_f {a b : Ex} {m : Md} : kIte Φ a b env ⟨.bool false, m⟩ = ev Φ b env := rfl
theorem ev_ite {c a b : Ex} : ev Φ (.ite c a b) env = (ev Φ c env).bd (kIte Φ a b env) := rfl
theorem ev_idx {a b : Ex} : ev Φ (.idx a b) env = (ev Φ a env).bd fun x => (ev Φ b env).bd fun y => (idxop x.d y.d).bd fun z => .ok (im z) := rfl
theorem ev_slc {a lo hi : Ex} : ev Φ (.slc a lo hi) env = (ev Φ a env).bd fun x => (evp Φ lo env).bd fun l => (evp Φ hi env).bd fun h => slcop x.d l h := rfl
theorem evp_nil : evp Φ .nil env = .ok none := rfl
theorem ev_rev {a : Ex} : ev Φ (.rev a) env = (ev Φ a env).bd fun x => revop x.d := rfl
theorem ev_call {f : String} {es : List Ex} : ev Φ (.call f es) env = (evr Φ es env).bd fun rs => Φ f (rs.map fun r => .rv (lend r)) := rfl
theorem ev_blt {b : Bl} {es : List Ex} : ev Φ (.blt b es) env = (evl Φ es env).bd fun ds => bltop b ds := rfl
theorem ev_mth {m : Mt} {o : Ex} {es : List Ex} : ev Φ (.mth m o es) env = (ev Φ o env).bd fun x => gd (mthG m x.d) ((evs Φ es env).bd fun ds => mthop m x.d ds) := rfl
theorem ev_isi {a : Ex} {t : Ty} : ev Φ (.isi a t) env = (ev Φ a env).bd fun x => gd x.d.plain (.ok (im (.bool (isiop x.d t)))) := rfl
theorem ev_emp {tk : Bool} : ev Φ (.emp tk) env = .ok (ow (dct tk [])) := rfl
theorem ev_one {tk : Bool} {k v : Ex} : ev Φ (.one tk k v) env = ((ev Φ k env).bd fr).bd fun kd => ((ev Φ v env).bd fr).bd fun vd => gd (keyK tk kd) (.ok (ow (dct tk [(kd, vd)]))) := rfl
theorem evs_nil : evs Φ [] env = .ok [] := rfl
theorem evs_cons {e : Ex} {r : List Ex} : evs Φ (e :: r) env = (ev Φ e env).bd fun x => (fr x).bd fun d => (evs Φ r env).bd fun ds => .ok (d :: ds) := rfl
theorem evr_nil : evr Φ [] env = .ok [] := rfl
theorem evr_cons {e : Ex} {r : List Ex} : evr Φ (e :: r) env = (ev Φ e env).bd fun x => (evr Φ r env).bd fun ds => .ok (x :: ds) := rfl
theorem evl_nil : evl Φ [] env = .ok [] := rfl
theorem evl_cons {e : Ex} {r : List Ex} : evl Φ (e :: r) env = (ev Φ e env).bd fun x => (evl Φ r env).bd fun ds => .ok (x.d :: ds) := rfl
theorem evc_nil : evc Φ .nil env = .ok true := rfl
end
end Tdl
namespace Tdl
theorem exs_app {Φ : Fns} {F : Nat} : ∀ (a b : List Stm) (env : Env), exs Φ F (a ++ b) env = (exs Φ F a env).bd (kS Φ F b)
  | [], b, env => rfl
  | s :: a, b, env => by
    rw [List.cons_append, exs_cons, exs_cons]
    cases ex Φ F s env with
    | ok f => cases f with
      | nx e => rw [bd_ok, bd_ok, kS_nx, kS_nx]; exact exs_app a b e
      | rt v => rfl
    | exc c => rfl
    | err => rfl
/-- a call -/
theorem callF_s {P : String → Option Fn} {F n : Nat} {f : String} {d : Fn} {args : List SV} (h : P f = some d) (hl : args.length = d.np) : callF P F (n + 1) f args = (exs (callF P F n) F d.body (args ++ List.replicate (d.names.length - d.np) .un)).bd fun fl => .ok (out fl) := by
  unfold callF
  rw [h]
  show gd (args.length == d.np) _ = _
  rw [beq_iff_eq.mpr hl]
  rfl
end Tdl

local macro_rules | `(tactic| simp! only [$ls,*]) => `(tactic| simp only [Tdl.kS_nx, Tdl.kS_rt, Tdl.exs_nil, Tdl.exs_cons, Tdl.kIf_t, Tdl.kIf_f, Tdl.kAsg_im, Tdl.kAsg_owt, Tdl.kAsg_owf, Tdl.kRet_im, Tdl.kRet_ow, Tdl.ex_asg, Tdl.ex_asgT, Tdl.ex_par, Tdl.ex_put, Tdl.ex_putp, Tdl.ex_ext, Tdl.ex_app, Tdl.ex_upd, Tdl.ex_pop, Tdl.ex_ret, Tdl.ex_retv, Tdl.ex_iff, Tdl.ex_rse, Tdl.ex_exq, Tdl.ex_frz, Tdl.frzS_i, Tdl.frzL_nil, Tdl.frzL_var, Tdl.frzL_idx, Tdl.frzL_call, Tdl.frzL_blt, Tdl.frzL_rev, Tdl.frzL_slc, Tdl.frzL_tup, Tdl.frzL_lst, Tdl.frzL_cst, Tdl.frzL_glb, Tdl.frzL_bin, Tdl.frzL_mth, Tdl.ev_var, Tdl.ev_cst, Tdl.ev_glb, Tdl.ev_tup, Tdl.ev_lst, Tdl.ev_bin, Tdl.ev_neg, Tdl.ev_cmp, Tdl.kChn_t, Tdl.kChn_f, Tdl.ev_chn, Tdl.ev_bop, Tdl.evb_one, Tdl.evb_cons, Tdl.kBop_tt, Tdl.kBop_ff, Tdl.kBop_tf, Tdl.kBop_ft, Tdl.ev_nt, Tdl.kIte_t, Tdl.kIte_f, Tdl.ev_ite, Tdl.ev_idx, Tdl.ev_slc, Tdl.ev_rev, Tdl.ev_call, Tdl.ev_blt, Tdl.ev_mth, Tdl.ev_isi, Tdl.ev_emp, Tdl.ev_one, Tdl.evs_nil, Tdl.evs_cons, Tdl.evr_nil, Tdl.evr_cons, Tdl.evl_nil, Tdl.evl_cons, Tdl.evc_nil, Tdl.look, Tdl.bd_ok, Tdl.bd_exc, Tdl.bd_err, Tdl.gd_true, Tdl.gd_false, Tdl.calm_ok, Tdl.bl_b, Tdl.fr_im, Tdl.fr_ow, Tdl.keep_im, Tdl.keep_owt, Tdl.keep_owf, Tdl.lend_im, Tdl.lend_ow, Tdl.lend_bo, List.map_cons, List.map_nil, List.getElem?_cons_zero, List.getElem?_cons_succ, List.set_cons_zero, List.set_cons_succ, Tdl.parL, Tdl.parS, Tdl.kW_t, Tdl.kW_f, Tdl.kL_nx, Tdl.kL_rt, Tdl.kF_nx, Tdl.kF_rt, Tdl.bindT, Tdl.bindTs, Tdl.wipeS, Tdl.owned, Tdl.out, List.replicate, List.cons_append, List.nil_append, Tdl.wsrc, Tdl.wcO, Tdl.wpO, Tdl.add_ii, Tdl.sub_ii, Tdl.gt_ii, Tdl.lt_ii, Tdl.le_ii, Tdl.ge_ii, $ls,*])
/-! TpEnc: the operations on typed data. -/
namespace Tdl
open PySem PySem.W
abbrev toD {α : Type} [DecidableEq α] [Datum α] (a : α) : PyData := Datum.toD a
abbrev Lot : Type := Tup Str
abbrev Les : Type := Lot × Lot
abbrev Dic : Type := Lot × Tup Les
/-- not deep -/
class Sh (α : Type) [DecidableEq α] [Datum α] : Prop where
  h : Datum.depth α ≤ 20
instance : Sh Int := ⟨by decide⟩
instance : Sh Bool := ⟨by decide⟩
instance : Sh Str := ⟨by decide⟩
instance : Sh Lot := ⟨by decide⟩
instance : Sh Les := ⟨by decide⟩
instance : Sh Dic := ⟨by decide⟩
instance : Sh (Tup Les) := ⟨by decide⟩
instance : Sh (List Str) := ⟨by decide⟩
instance : Sh (List Lot) := ⟨by decide⟩
instance : Sh (List Les) := ⟨by decide⟩
instance : Sh (List Bool) := ⟨by decide⟩
instance : Sh (List Int) := ⟨by decide⟩
instance : Sh (Lot × Les) := ⟨by decide⟩
instance : Sh (List (Lot × Les)) := ⟨by decide⟩
section
variable {α β : Type} [DecidableEq α] [Datum α] [Sh α]
theorem eqOk_d (a b : α) : eqOk (toD a) (toD b) = true := by
  unfold eqOk
  simp only [Datum.plain, Bool.true_and, Bool.or_eq_true, decide_eq_true_eq]
  exact .inl (Nat.le_trans (Datum.depth_le a) (Nat.le_trans Sh.h (by decide)))
theorem c_eq (a b : α) : cmpop .eq (toD a) (toD b) = .ok (decide (a = b)) := by
  show gd (eqOk (toD a) (toD b)) _ = _
  rw [eqOk_d, Datum.eqv]
  rfl
theorem c_ne (a b : α) : cmpop .ne (toD a) (toD b) = .ok (!decide (a = b)) := by
  show gd (eqOk (toD a) (toD b)) _ = _
  rw [eqOk_d, Datum.eqv]
  rfl
theorem inOk (a : α) (xs : List α) : ((toD a).plain && (PyData.plainAll (xs.map toD) && decide ((toD a).depth ≤ 40))) = true := by
  rw [Datum.plain, plainAll_map, decide_eq_true (Nat.le_trans (Datum.depth_le a) (Nat.le_trans Sh.h (by decide)))]
  rfl
theorem c_inL (a : α) (xs : List α) : cmpop .isin (toD a) (.list (xs.map toD)) = .ok (decide (a ∈ xs)) := by
  show gd _ (Res.ok ((xs.map toD).any fun z => PyData.eqv z (toD a))) = _
  rw [inOk, any_datum]
  rfl
theorem c_inT (a : α) (xs : List α) : cmpop .isin (toD a) (.tuple (xs.map toD)) = .ok (decide (a ∈ xs)) := by
  show gd _ (Res.ok ((xs.map toD).any fun z => PyData.eqv z (toD a))) = _
  rw [inOk, any_datum]
  rfl
theorem c_ninL (a : α) (xs : List α) : cmpop .nin (toD a) (.list (xs.map toD)) = .ok (!decide (a ∈ xs)) := by
  show gd _ (Res.ok (!(xs.map toD).any fun z => PyData.eqv z (toD a))) = _
  rw [inOk, any_datum]
  rfl
theorem c_ninT (a : α) (xs : List α) : cmpop .nin (toD a) (.tuple (xs.map toD)) = .ok (!decide (a ∈ xs)) := by
  show gd _ (Res.ok (!(xs.map toD).any fun z => PyData.eqv z (toD a))) = _
  rw [inOk, any_datum]
  rfl
end
section
variable {α : Type} [DecidableEq α] [DatumOrd α] [Sh α]
/-- Python's < -/
abbrev ltD (a b : α) : Bool := DatumOrd.lt a b
theorem ltOk_d (a b : α) : ltOk (toD a) (toD b) = true := by
  have n : isN (toD a) = false := by
    cases e : toD a with
    | none => exact absurd e (DatumOrd.notNone a)
    | _ => rfl
  unfold ltOk
  rw [DatumOrd.alike, n, decide_eq_true (Nat.le_trans (Datum.depth_le a) (Nat.le_trans Sh.h (by decide))), Datum.plain, Datum.plain]
  rfl
theorem c_lt (a b : α) : cmpop .lt (toD a) (toD b) = .ok (ltD a b) := by
  show gd (ltOk (toD a) (toD b)) _ = _
  rw [ltOk_d, DatumOrd.lt_eq]
  rfl
/-- sorted -/
def sortT (xs : List α) : List α := isort (fun x y => !ltD y x) xs
theorem insB_map (a : α) : ∀ xs : List α, insB (fun x y => !dataLt y x) (toD a) (xs.map toD) = (insB (fun x y => !ltD y x) a xs).map toD
  | [] => rfl
  | b :: xs => by
    show (match !dataLt (toD b) (toD a) with | true => toD a :: toD b :: xs.map toD | false => toD b :: insB (fun x y => !dataLt y x) (toD a) (xs.map toD)) = (match !ltD b a with | true => a :: b :: xs | false => b :: insB (fun x y => !ltD y x) a xs).map toD
    rw [DatumOrd.lt_eq, insB_map a xs]
    show (match !ltD b a with | true => _ | false => _) = _
    cases ltD b a <;> rfl
theorem srtD_map : ∀ xs : List α, srtD (xs.map toD) = (sortT xs).map toD
  | [] => rfl
  | a :: xs => by
    show insB (fun x y => !dataLt y x) (toD a) (srtD (xs.map toD)) = _
    rw [srtD_map xs, insB_map]
    rfl
theorem alikes_d (xs : List α) : alikes (xs.map toD) = true := by
  unfold alikes
  rw [List.all_eq_true]
  intro d hd
  obtain ⟨a, _, rfl⟩ := List.mem_map.mp hd
  have n : isN (toD a) = false := by
    cases e : toD a with
    | none => exact absurd e (DatumOrd.notNone a)
    | _ => rfl
  rw [n, decide_eq_true (Nat.le_trans (Datum.depth_le a) (Nat.le_trans Sh.h (by decide)))]
  simp only [Bool.not_false, Bool.true_and, List.all_eq_true]
  intro e he
  obtain ⟨b, _, rfl⟩ := List.mem_map.mp he
  exact DatumOrd.alike a b
theorem b_sortL (xs : List α) : bltop .sorted [.list (xs.map toD)] = .ok (ow (.list ((sortT xs).map toD))) := by
  show gd (alikes (xs.map toD)) (Res.ok (ow (.list (srtD (xs.map toD))))) = _
  rw [alikes_d, srtD_map]
  rfl
theorem b_sortT (xs : List α) : bltop .sorted [.tuple (xs.map toD)] = .ok (ow (.list ((sortT xs).map toD))) := by
  show gd (alikes (xs.map toD)) (Res.ok (ow (.list (srtD (xs.map toD))))) = _
  rw [alikes_d, srtD_map]
  rfl
theorem lt_irr (a : α) : ltD a a = false := by
  have := dataLt_self (toD a)
  rw [DatumOrd.lt_eq] at this
  exact this
theorem lt_asymm {a b : α} (h : ltD a b = true) : ltD b a = false := by
  have := dlt_asymm (d := toD a) (e := toD b) (by rw [DatumOrd.lt_eq]; exact h)
  rw [DatumOrd.lt_eq] at this
  exact this
theorem lt_tri {a b : α} (h1 : ltD a b = false) (h2 : ltD b a = false) : a = b := by
  have := dlt_total (d := toD a) (e := toD b) (DatumOrd.alike a b) (by rw [DatumOrd.lt_eq]; exact h1) (by rw [DatumOrd.lt_eq]; exact h2)
  have q : PyData.eqv (toD a) (toD b) = decide (a = b) := Datum.eqv a b
  have qb : PyData.eqv (toD b) (toD b) = decide (b = b) := Datum.eqv b b
  rw [this, qb] at q
  simpa using q.symm
theorem lt_neg {a b c : α} (h1 : ltD a b = false) (h2 : ltD b c = false) : ltD a c = false := by
  have := dlt_negTrans (d := toD a) (e := toD b) (f := toD c) (by rw [DatumOrd.lt_eq]; exact h1) (by rw [DatumOrd.lt_eq]; exact h2)
  rw [DatumOrd.lt_eq] at this
  exact this
theorem lt_trans {a b c : α} (h1 : ltD a b = true) (h2 : ltD b c = true) : ltD a c = true := by
  cases q : ltD a c with
  | true => rfl
  | false =>
    have := lt_neg q (lt_asymm h2)
    rw [h1] at this
    cases this
/-- rising, none twice -/
abbrev Rise (xs : List α) : Prop := xs.Pairwise fun a b => ltD a b = true
theorem sortT_eq (xs : List α) : sortT xs = xs.mergeSort fun x y => !ltD y x := isort_ms (fun x y z h1 h2 => by
  simp only [Bool.not_eq_true'] at h1 h2 ⊢
  exact lt_neg h2 h1) (fun x y => by
  cases q : ltD y x with
  | false => rfl
  | true => simp only [lt_asymm q]; rfl) xs
theorem sortT_perm (xs : List α) : (sortT xs).Perm xs := by rw [sortT_eq]; exact List.mergeSort_perm _ _
theorem sortT_mem {xs : List α} {a : α} : a ∈ sortT xs ↔ a ∈ xs := (sortT_perm xs).mem_iff
theorem sortT_sorted (xs : List α) : (sortT xs).Pairwise fun a b => ltD b a = false := by
  rw [sortT_eq]
  have := List.pairwise_mergeSort (le := fun x y : α => !ltD y x) (fun x y z h1 h2 => by
    simp only [Bool.not_eq_true'] at h1 h2 ⊢
    exact lt_neg h2 h1) (fun x y => by
    cases q : ltD y x with
    | false => rfl
    | true => simp only [lt_asymm q]; rfl) xs
  exact this.imp fun h => by simpa using h
theorem sortT_rise {xs : List α} (h : xs.Nodup) : Rise (sortT xs) := by
  have nd : (sortT xs).Nodup := (sortT_perm xs).nodup_iff.mpr h
  have h2 := sortT_sorted xs
  refine (List.pairwise_and_iff.mpr ⟨h2, nd⟩ : (sortT xs).Pairwise fun a b => ltD b a = false ∧ a ≠ b).imp fun {a b} ⟨q1, q2⟩ => ?_
  cases q : ltD a b with
  | true => rfl
  | false => exact absurd (lt_tri q q1) q2
theorem Rise.nodup {xs : List α} (h : Rise xs) : xs.Nodup := h.imp fun {a b} q e => by
  subst e
  rw [lt_irr] at q
  cases q
/-- two rising lists of the same things are one -/
theorem Rise.ext : ∀ {xs ys : List α}, Rise xs → Rise ys → (∀ a, a ∈ xs ↔ a ∈ ys) → xs = ys := fun {xs ys} h1 h2 h => by
  refine perm_sorted_eq (le := fun a b => ltD a b = true) (fun x _ y _ q1 q2 => ?_) ((List.perm_ext_iff_of_nodup h1.nodup h2.nodup).mpr h) h1 h2
  rw [lt_asymm q1] at q2
  cases q2
end
/-! ### comprehensions, loops -/
section
variable {Φ : Fns} {F : Nat} {env : Env}
/-- a turn of a list comprehension -/
def lcT (Φ : Fns) (own : List (String × Nat)) (tg : Tg) (cond elt : Ex) (env : Env) (x : PyData) : Res (Option PyData) := (bindT tg x (wipeS own env)).bd fun e1 => (calm (evc Φ cond e1)).bd fun c => match c with
  | true => ((calm (ev Φ elt e1)).bd fr).bd fun d => .ok (some d)
  | false => .ok none
theorem lcT_nil {own : List (String × Nat)} {tg : Tg} {elt : Ex} {x : PyData} : lcT Φ own tg .nil elt env x = (bindT tg x (wipeS own env)).bd fun e1 => ((calm (ev Φ elt e1)).bd fr).bd fun d => .ok (some d) := rfl
def kC (Φ : Fns) (elt : Ex) (e1 : Env) (c : Bool) : Res (Option PyData) := match c with
  | true => ((calm (ev Φ elt e1)).bd fr).bd fun d => .ok (some d)
  | false => .ok none
theorem kC_t {elt : Ex} {e1 : Env} : kC Φ elt e1 true = ((calm (ev Φ elt e1)).bd fr).bd fun d => .ok (some d) := rfl
theorem kC_f {elt : Ex} {e1 : Env} : kC Φ elt e1 false = .ok none := rfl
theorem lcT_is {own : List (String × Nat)} {tg : Tg} {cond elt : Ex} {x : PyData} : lcT Φ own tg cond elt env x = (bindT tg x (wipeS own env)).bd fun e1 => (calm (evc Φ cond e1)).bd (kC Φ elt e1) := rfl
theorem goLc_fm {β α : Type} {g : β → PyData} {h : α → PyData} {p : β → Option α} {f : PyData → Res (Option PyData)} : ∀ {xs : List β} {acc : List PyData}, (∀ x ∈ xs, f (g x) = .ok ((p x).map h)) → goLc f (xs.map g) acc = .ok (acc ++ (xs.filterMap p).map h)
  | [], acc, _ => by simp [goLc]
  | x :: xs, acc, hf => by
    rw [List.map_cons]
    unfold goLc
    rw [hf x List.mem_cons_self, bd_ok]
    cases e : p x with
    | none =>
      show goLc f (xs.map g) acc = _
      rw [goLc_fm fun y hy => hf y (List.mem_cons_of_mem _ hy), List.filterMap_cons_none e]
    | some y =>
      show goLc f (xs.map g) (acc ++ [h y]) = _
      rw [goLc_fm fun y hy => hf y (List.mem_cons_of_mem _ hy), List.filterMap_cons_some e, List.map_cons, List.append_assoc]
      rfl
/-- [..] -/
theorem lc_fm {β α : Type} {own : List (String × Nat)} {tg : Tg} {k : Wk} {src : List Ex} {cond elt : Ex} {xs : List β} {g : β → PyData} {h : α → PyData} {p : β → Option α} (hs : (wsrc k (evl Φ src env) (evs Φ src env)).bd (walkop k) = .ok (xs.map g)) (hl : xs.length ≤ LIM)
    (ht : ∀ x ∈ xs, lcT Φ own tg cond elt env (g x) = .ok ((p x).map h)) : ev Φ (.lc own tg k src cond elt) env = .ok (ow (.list ((xs.filterMap p).map h))) := by
  have e : ev Φ (.lc own tg k src cond elt) env = ((wsrc k (evl Φ src env) (evs Φ src env)).bd (walkop k)).bd fun xs => gd (decide (xs.length ≤ LIM)) ((goLc (lcT Φ own tg cond elt env) xs []).bd fun out => .ok (ow (.list out))) := by
    show (wsrc k (evl Φ src env) (evs Φ src env)).bd _ = _
    cases wsrc k (evl Φ src env) (evs Φ src env) <;> rfl
  rw [e, hs, bd_ok, List.length_map, decide_eq_true hl, gd_true, goLc_fm ht]
  rfl
/-- [.. for .. in ..] -/
theorem lc_map {β α : Type} {own : List (String × Nat)} {tg : Tg} {k : Wk} {src : List Ex} {elt : Ex} {xs : List β} {g : β → PyData} {h : α → PyData} {q : β → α} (hs : (wsrc k (evl Φ src env) (evs Φ src env)).bd (walkop k) = .ok (xs.map g)) (hl : xs.length ≤ LIM)
    (ht : ∀ x ∈ xs, lcT Φ own tg .nil elt env (g x) = .ok (some (h (q x)))) : ev Φ (.lc own tg k src .nil elt) env = .ok (ow (.list ((xs.map q).map h))) := by
  rw [lc_fm (p := fun x => some (q x)) (h := h) hs hl ht]
  congr 4
  induction xs with
  | nil => rfl
  | cons x xs ih => simp [List.filterMap_cons]
/-- [x for x in .. if ..] -/
theorem lc_fil {β : Type} {own : List (String × Nat)} {tg : Tg} {k : Wk} {src : List Ex} {cond elt : Ex} {xs : List β} {g : β → PyData} {p : β → Bool} (hs : (wsrc k (evl Φ src env) (evs Φ src env)).bd (walkop k) = .ok (xs.map g)) (hl : xs.length ≤ LIM)
    (ht : ∀ x ∈ xs, lcT Φ own tg cond elt env (g x) = .ok (if p x then some (g x) else none)) : ev Φ (.lc own tg k src cond elt) env = .ok (ow (.list ((xs.filter p).map g))) := by
  rw [lc_fm (p := fun x => if p x then some x else none) (h := g) hs hl fun x hx => by rw [ht x hx]; cases p x <;> rfl]
  congr 4
  clear hs hl ht
  induction xs with
  | nil => rfl
  | cons x xs ih =>
    cases e : p x <;> simp [List.filterMap_cons, e, ih]
theorem allB_map : ∀ bs : List Bool, allB (bs.map .bool) = some bs
  | [] => rfl
  | b :: bs => by simp [allB, allB_map bs]
theorem b_all (bs : List Bool) : bltop .all [.list (bs.map .bool)] = .ok (im (.bool (bs.all id))) := by
  show (match allB (bs.map .bool) with | some bs => Res.ok (im (.bool (bs.all id))) | none => .err) = _
  rw [allB_map]
theorem b_any (bs : List Bool) : bltop .any [.list (bs.map .bool)] = .ok (im (.bool (bs.any id))) := by
  show (match allB (bs.map .bool) with | some bs => Res.ok (im (.bool (bs.any id))) | none => .err) = _
  rw [allB_map]
theorem b_tupL (xs : List PyData) : bltop .tuple [.list xs] = .ok (im (.tuple xs)) := rfl
theorem b_listT (xs : List PyData) : bltop .list [.tuple xs] = .ok (ow (.list xs)) := rfl
theorem b_listL (xs : List PyData) : bltop .list [.list xs] = .ok (ow (.list xs)) := rfl
theorem b_lenL (xs : List PyData) : bltop .len [.list xs] = .ok (im (.int xs.length)) := rfl
theorem b_lenT (xs : List PyData) : bltop .len [.tuple xs] = .ok (im (.int xs.length)) := rfl
theorem w_sqL (xs : List PyData) : walkop .sq [.list xs] = .ok xs := rfl
theorem w_sqT (xs : List PyData) : walkop .sq [.tuple xs] = .ok xs := rfl
/-- a loop that goes through: R stands between the turns -/
theorem loopF_fold {β S : Type} {g : β → PyData} {t : Tg} {body : Env → Res Flow} (R : S → Env → Prop) (st : S → β → S) : ∀ (xs : List β) (s : S) (env : Env), R s env → (∀ s env x, x ∈ xs → R s env → ∃ env', (bindT t (g x) env).bd body = .ok (.nx env') ∧ R (st s x) env') →
    ∃ env', loopF t body (xs.map g) env = .ok (.nx env') ∧ R (xs.foldl st s) env'
  | [], s, env, r, _ => ⟨env, rfl, r⟩
  | x :: xs, s, env, r, h => by
    obtain ⟨e1, q1, q2⟩ := h s env x List.mem_cons_self r
    obtain ⟨e2, q3, q4⟩ := loopF_fold R st xs (st s x) e1 q2 fun s env y hy => h s env y (List.mem_cons_of_mem _ hy)
    refine ⟨e2, ?_, q4⟩
    rw [List.map_cons, loopF_cons]
    cases e : bindT t (g x) env with
    | ok e0 =>
      rw [e, bd_ok] at q1
      rw [bd_ok, q1, bd_ok, kF_nx]
      exact q3
    | exc c => rw [e] at q1; cases q1
    | err => rw [e] at q1; cases q1
/-- a loop that may end by a return: p tells where -/
theorem loopF_find {β : Type} {g : β → PyData} {t : Tg} {body : Env → Res Flow} {p : β → Option RV} (R : Env → Prop) : ∀ (xs : List β) (env : Env), R env → (∀ env x, x ∈ xs → R env → (∀ v, p x = some v → (bindT t (g x) env).bd body = .ok (.rt v)) ∧ (p x = none → ∃ env', (bindT t (g x) env).bd body = .ok (.nx env') ∧ R env')) →
    (∀ v, xs.findSome? p = some v → loopF t body (xs.map g) env = .ok (.rt v)) ∧ (xs.findSome? p = none → ∃ env', loopF t body (xs.map g) env = .ok (.nx env') ∧ R env')
  | [], env, r, _ => ⟨fun v h => (by cases h), fun _ => ⟨env, rfl, r⟩⟩
  | x :: xs, env, r, h => by
    obtain ⟨h1, h2⟩ := h env x List.mem_cons_self r
    rw [List.map_cons, loopF_cons]
    cases e : p x with
    | some v =>
      refine ⟨fun v' hv => ?_, fun hn => ?_⟩
      · rw [List.findSome?_cons, e] at hv
        cases hv
        have q1 := h1 v e
        cases e0 : bindT t (g x) env with
        | ok e0' =>
          rw [e0, bd_ok] at q1
          rw [bd_ok, q1]
          rfl
        | exc c => rw [e0] at q1; cases q1
        | err => rw [e0] at q1; cases q1
      · rw [List.findSome?_cons, e] at hn
        cases hn
    | none =>
      obtain ⟨e1, q1, q2⟩ := h2 e
      have ih := loopF_find R xs e1 q2 fun env y hy => h env y (List.mem_cons_of_mem _ hy)
      rw [List.findSome?_cons, e]
      cases e0 : bindT t (g x) env with
      | ok e0' =>
        rw [e0, bd_ok] at q1
        rw [bd_ok, q1, bd_ok, kF_nx]
        exact ih
      | exc c => rw [e0] at q1; cases q1
      | err => rw [e0] at q1; cases q1
end
end Tdl
/-! TpDict: words, lots, lessons, dictionaries. -/
namespace Tdl
open PySem PySem.W
mutual
/-- plain data, its texts not too long -/
def okS : PyData → Bool
  | .str w => decide (w.length ≤ LIM)
  | .list xs => decide (xs.length ≤ 1000) && okSs xs
  | .tuple xs => decide (xs.length ≤ 1000) && okSs xs
  | .dict _ => false
  | _ => true
def okSs : List PyData → Bool
  | [] => true
  | x :: r => okS x && okSs r
end
mutual
theorem okS_plain : ∀ d : PyData, okS d = true → d.plain = true
  | .none, _ => rfl
  | .bool _, _ => rfl
  | .int _, _ => rfl
  | .str _, _ => rfl
  | .list xs, h => by
    simp only [okS, Bool.and_eq_true] at h
    simp only [PyData.plain]
    exact okSs_plain xs h.2
  | .tuple xs, h => by
    simp only [okS, Bool.and_eq_true] at h
    simp only [PyData.plain]
    exact okSs_plain xs h.2
  | .dict _, h => by simp [okS] at h
theorem okSs_plain : ∀ xs : List PyData, okSs xs = true → PyData.plainAll xs = true
  | [], _ => by simp [PyData.plainAll]
  | x :: r, h => by
    simp only [okSs, Bool.and_eq_true] at h
    simp only [PyData.plainAll, okS_plain x h.1, okSs_plain r h.2, Bool.and_self]
end
theorem okSs_mem : ∀ {xs : List PyData}, okSs xs = true → ∀ x ∈ xs, okS x = true
  | x :: r, h, y, hy => by
    simp only [okSs, Bool.and_eq_true] at h
    rcases List.mem_cons.mp hy with e | e
    · rw [e]; exact h.1
    · exact okSs_mem h.2 y e
def cSMALL : Str := Str.ofString "abcdefghijklmnopqrstuvwxyz"
/-- a word's text -/
def goodW (w : Str) : Bool := (decide (1 ≤ w.length) && decide (w.length ≤ 6)) && w.cps.toList.all fun c => cSMALL.cps.toList.contains c
def isWordD : PyData → Bool
  | .str w => goodW w
  | _ => false
theorem num {n k : Nat} (h : k ≤ n) (hk : 0 < k) : ∃ m, n = m + 1 ∧ k - 1 ≤ m := ⟨n - 1, by omega, by omega⟩
section
variable {P : String → Option Fn} {F : Nat}
theorem is_word_ok (h : P "is_word" = some A.is_word) {n : Nat} (hn : 1 ≤ n) (d : PyData) (hd : okS d = true) : callF P F n "is_word" [sD d] = .ok (im (.bool (isWordD d))) := by
  obtain ⟨m, rfl, _⟩ := num hn (by decide)
  rw [callF_s h rfl]
  show (exs (callF P F m) F A.is_word.body [sD d, .un]).bd _ = _
  unfold A.is_word
  have pl := okS_plain d hd
  cases d with
  | str w =>
    have hl : w.length ≤ LIM := by simpa [okS] using hd
    have e1 : bltop .len [.str w] = .ok (im (.int w.length)) := by
      show gd (decide (w.length ≤ LIM)) _ = _
      rw [decide_eq_true hl]
      rfl
    have e2 : ev (callF P F m) (.lc [("sign", 1)] (.nm 1) .sq [(.var 0)] .nil (.cmp .isin (.var 1) (.glb "SMALL" (.str (Str.ofString "abcdefghijklmnopqrstuvwxyz"))))) [sD (.str w), .un] = .ok (ow (.list ((w.cps.toList.map fun c => cSMALL.cps.toList.contains c).map .bool))) := by
      refine lc_map (g := fun c => .str ⟨#[c]⟩) (by simp! only []; rfl) (by exact hl) fun c _ => ?_
      rw [lcT_nil]
      simp! only []
      rfl
    simp! only [pl, show isiop (.str w) .str = true from rfl, e1]
    by_cases c1 : (w.length : Int) < 1
    · have : goodW w = false := by
        unfold goodW
        rw [decide_eq_false (by omega)]
        rfl
      simp! only [decide_eq_true c1, Bool.not_true, isWordD, this]
    · by_cases c2 : (6 : Int) < w.length
      · have : goodW w = false := by
          unfold goodW
          rw [decide_eq_false (show ¬ w.length ≤ 6 by omega), Bool.and_false]
          rfl
        simp! only [decide_eq_false c1, Bool.not_false, e1, decide_eq_true c2, Bool.not_true, isWordD, this]
      · have : goodW w = (w.cps.toList.map fun c => cSMALL.cps.toList.contains c).all id := by
          unfold goodW
          rw [decide_eq_true (show 1 ≤ w.length by omega), decide_eq_true (show w.length ≤ 6 by omega), List.all_map]
          rfl
        simp! only [decide_eq_false c1, Bool.not_false, e1, decide_eq_false c2, e2, b_all, isWordD, this]
  | _ => simp! only [pl]; rfl
/-- rising, by neighbours -/
def risB {α : Type} [DecidableEq α] [DatumOrd α] (xs : List α) : Bool := (xs.zip (xs.drop 1)).all fun p => ltD p.1 p.2
theorem risB_rise {α : Type} [DecidableEq α] [DatumOrd α] [Sh α] : ∀ {xs : List α}, risB xs = true ↔ Rise xs
  | [] => by simp [risB]
  | [a] => by simp [risB]
  | a :: b :: r => by
    have ih := risB_rise (xs := b :: r)
    have e : risB (a :: b :: r) = (ltD a b && risB (b :: r)) := rfl
    rw [e, Bool.and_eq_true, ih]
    constructor
    · rintro ⟨h1, h2⟩
      refine List.pairwise_cons.mpr ⟨fun c hc => ?_, h2⟩
      rcases List.mem_cons.mp hc with e | e
      · rw [e]; exact h1
      · exact lt_trans h1 ((List.pairwise_cons.mp h2).1 c e)
    · intro h
      obtain ⟨h1, h2⟩ := List.pairwise_cons.mp h
      exact ⟨h1 b List.mem_cons_self, h2⟩
theorem cut1 {α : Type} (xs : List α) : cutD xs (some 1) none = xs.drop 1 := by
  unfold cutD
  have e1 : HT.sIx xs.length 0 (some 1) = min 1 xs.length := by
    cases xs with
    | nil => rfl
    | cons x r => simp [HT.sIx]
  have e2 : HT.sIx xs.length xs.length none = xs.length := rfl
  rw [e1, e2]
  cases xs with
  | nil => rfl
  | cons x r =>
    have : min 1 (x :: r).length = 1 := by simp
    rw [this, List.take_of_length_le (by simp)]
theorem is_rising_ok (h : P "is_rising" = some A.is_rising) {n : Nat} (hn : 1 ≤ n) {α : Type} [DecidableEq α] [DatumOrd α] [Sh α] (xs : List α) (hl : xs.length ≤ LIM) : callF P F n "is_rising" [sD (.tuple (xs.map toD))] = .ok (im (.bool (risB xs))) := by
  obtain ⟨m, rfl, _⟩ := num hn (by decide)
  rw [callF_s h rfl]
  show (exs (callF P F m) F A.is_rising.body [sD (.tuple (xs.map toD)), .un, .un]).bd _ = _
  unfold A.is_rising
  have e2 : ev (callF P F m) (.lc [("one", 1), ("other", 2)] (.tp [(.nm 1), (.nm 2)]) .zp [(.var 0), (.slc (.var 0) (.cst (.int 1)) .nil)] .nil (.cmp .lt (.var 1) (.var 2))) [sD (.tuple (xs.map toD)), .un, .un] = .ok (ow (.list (((xs.zip (xs.drop 1)).map fun p => ltD p.1 p.2).map .bool))) := by
    refine lc_map (g := fun p : α × α => .tuple [toD p.1, toD p.2]) ?_ ?_ fun p _ => ?_
    · simp! only [show slcop (.tuple (xs.map toD)) (some 1) none = .ok (im (.tuple ((xs.drop 1).map toD))) from by
        show Res.ok (im (.tuple (cutD (xs.map toD) (some 1) none))) = _
        rw [cut1, List.map_drop]]
      show Res.ok (((xs.map toD).zip ((xs.drop 1).map toD)).map fun p => PyData.tuple [p.1, p.2]) = _
      rw [List.zip_map, List.map_map]
      rfl
    · rw [List.length_zip]
      exact Nat.le_trans (Nat.min_le_left _ _) hl
    · rw [lcT_nil]
      simp! only [c_lt]
  simp! only [e2, b_all]
  unfold risB
  rw [List.all_map]
  rfl
/-- a word of some words -/
def goodIn (ws : List Str) : PyData → Bool
  | .str w => goodW w && decide (w ∈ ws)
  | _ => false
def txts : List PyData → List Str
  | [] => []
  | .str w :: r => w :: txts r
  | _ :: r => txts r
theorem txts_is {ws : List Str} : ∀ {xs : List PyData}, xs.all (goodIn ws) = true → xs = (txts xs).map toD
  | [], _ => rfl
  | x :: r, h => by
    rw [List.all_cons, Bool.and_eq_true] at h
    cases x with
    | str w => exact congrArg (PyData.str w :: ·) (txts_is h.2)
    | _ => exact absurd h.1 (by simp [goodIn])
theorem txts_len : ∀ xs : List PyData, (txts xs).length ≤ xs.length
  | [] => Nat.le_refl _
  | x :: r => by
    cases x <;> simp only [txts, List.length_cons] <;> first | exact Nat.succ_le_succ (txts_len r) | exact Nat.le_succ_of_le (txts_len r)
def isPartD (ws : List Str) : PyData → Bool
  | .tuple xs => xs.all (goodIn ws) && risB (txts xs)
  | _ => false
structure HD (P : String → Option Fn) : Prop where
  is_word : P "is_word" = some A.is_word
  is_rising : P "is_rising" = some A.is_rising
  is_part : P "is_part" = some A.is_part
  is_lesson : P "is_lesson" = some A.is_lesson
  is_dictionary : P "is_dictionary" = some A.is_dictionary
  look_dictionary : P "look_dictionary" = some A.look_dictionary
theorem is_part_ok (h : HD P) {n : Nat} (hn : 2 ≤ n) (ws : List Str) (d : PyData) (hd : okS d = true) : callF P F n "is_part" [sD (.tuple (ws.map toD)), sD d] = .ok (im (.bool (isPartD ws d))) := by
  obtain ⟨m, rfl, hm⟩ := num hn (by decide)
  rw [callF_s h.is_part rfl]
  show (exs (callF P F m) F A.is_part.body [sD (.tuple (ws.map toD)), sD d, .un]).bd _ = _
  unfold A.is_part
  have pl := okS_plain d hd
  cases d with
  | tuple xs =>
    obtain ⟨hl, hx⟩ : xs.length ≤ 1000 ∧ okSs xs = true := by simpa [okS] using hd
    have lim : xs.length ≤ LIM := Nat.le_trans hl (by decide)
    have e2 : ev (callF P F m) (.lc [("word", 2)] (.nm 2) .sq [(.var 1)] .nil (.bop true [(.call "is_word" [(.var 2)]), (.cmp .isin (.var 2) (.var 0))])) [sD (.tuple (ws.map toD)), sD (.tuple xs), .un] = .ok (ow (.list ((xs.map (goodIn ws)).map .bool))) := by
      refine lc_map (g := id) (by simp! only [w_sqT, List.map_id]) lim fun x hx' => ?_
      rw [lcT_nil]
      simp! only [id, is_word_ok h.is_word hm x (okSs_mem hx x hx')]
      cases x with
      | str w =>
        have : cmpop .isin (.str w) (.tuple (ws.map toD)) = .ok (decide (w ∈ ws)) := c_inT (α := Str) w ws
        cases q : goodW w with
        | true => simp! only [isWordD, q, this, goodIn, Bool.true_and]
        | false => simp! only [isWordD, q, goodIn, Bool.false_and]
      | _ => simp! only [isWordD, goodIn]
    simp! only [pl, show isiop (.tuple xs) .tuple = true from rfl, e2, b_all]
    rw [List.all_map]
    show ((kBop _ _ _ _ (im (.bool (xs.all (goodIn ws))))).bd _ |>.bd _).bd _ = _
    cases q : xs.all (goodIn ws) with
    | false => simp! only [isPartD, q, Bool.false_and]
    | true =>
      have e := txts_is q
      have e3 : callF P F m "is_rising" [sD (.tuple xs)] = .ok (im (.bool (risB (txts xs)))) := by
        rw [congrArg (fun z => callF P F m "is_rising" [sD (.tuple z)]) e]
        exact is_rising_ok h.is_rising (by omega) (txts xs) (Nat.le_trans (txts_len xs) lim)
      simp! only [e3, isPartD, q, Bool.true_and]
  | _ => simp! only [pl]; rfl
theorem c_ne_i (a b : Int) : cmpop .ne (.int a) (.int b) = .ok (!decide (a = b)) := c_ne (α := Int) a b
theorem c_eq_i (a b : Int) : cmpop .eq (.int a) (.int b) = .ok (decide (a = b)) := c_eq (α := Int) a b
def isLessonD (ws : List Str) : PyData → Bool
  | .tuple [a, b] => (isPartD ws a && isPartD ws b) && (match b with | .tuple [] => false | _ => true)
  | _ => false
/-- what is a part is a lot -/
theorem part_is {ws : List Str} {d : PyData} (h : isPartD ws d = true) : ∃ l : List Str, d = .tuple (l.map toD) ∧ Rise l ∧ ∀ w ∈ l, goodW w = true ∧ w ∈ ws := by
  cases d with
  | tuple xs =>
    simp only [isPartD, Bool.and_eq_true] at h
    refine ⟨txts xs, congrArg PyData.tuple (txts_is h.1), risB_rise.mp h.2, fun w hw => ?_⟩
    have h1 := h.1
    rw [txts_is h.1, List.all_eq_true] at h1
    have := h1 (.str w) (List.mem_map.mpr ⟨w, hw, rfl⟩)
    simpa [goodIn] using this
  | _ => simp [isPartD] at h
theorem two {xs : List PyData} (h : xs.length = 2) : ∃ a b, xs = [a, b] := by
  match xs, h with
  | [a, b], _ => exact ⟨a, b, rfl⟩
theorem is_lesson_ok (h : HD P) {n : Nat} (hn : 3 ≤ n) (ws : List Str) (d : PyData) (hd : okS d = true) : callF P F n "is_lesson" [sD (.tuple (ws.map toD)), sD d] = .ok (im (.bool (isLessonD ws d))) := by
  obtain ⟨m, rfl, hm⟩ := num hn (by decide)
  rw [callF_s h.is_lesson rfl]
  show (exs (callF P F m) F A.is_lesson.body [sD (.tuple (ws.map toD)), sD d]).bd _ = _
  unfold A.is_lesson
  have pl := okS_plain d hd
  cases d with
  | tuple xs =>
    obtain ⟨hl, hx⟩ : xs.length ≤ 1000 ∧ okSs xs = true := by simpa [okS] using hd
    by_cases c : xs.length = 2
    · obtain ⟨a, b, rfl⟩ := two c
      have ha := okSs_mem hx a (by simp)
      have hb := okSs_mem hx b (by simp)
      have pa := is_part_ok (F := F) h hm ws a ha
      have pb := is_part_ok (F := F) h hm ws b hb
      have i0 : idxop (.tuple [a, b]) (.int 0) = .ok a := rfl
      have i1 : idxop (.tuple [a, b]) (.int 1) = .ok b := rfl
      simp! only [pl, show isiop (.tuple [a, b]) .tuple = true from rfl, Bool.not_true, b_lenT, c_ne_i, i0, i1, pa, pb, show decide (((([a, b] : List PyData).length : Nat) : Int) = 2) = true from rfl]
      cases q1 : isPartD ws a with
      | false => simp! only [Bool.not_false, isLessonD, q1, Bool.false_and]
      | true =>
        cases q2 : isPartD ws b with
        | false => simp! only [Bool.not_true, Bool.not_false, i1, pb, q2, isLessonD, q1, Bool.false_and, Bool.and_false]
        | true =>
          obtain ⟨l, rfl, _⟩ := part_is q2
          have e : cmpop .ne (.tuple (l.map toD)) (.tuple []) = .ok (!decide ((Tup.mk l : Lot) = Tup.mk [])) := c_ne (α := Lot) ⟨l⟩ ⟨[]⟩
          simp! only [Bool.not_true, i1, pb, q2, e, isLessonD, q1, Bool.true_and]
          cases l <;> simp [isLessonD, q1, q2]
    · have e : decide (((xs.length : Nat) : Int) = 2) = false := decide_eq_false (by omega)
      have e2 : isLessonD ws (.tuple xs) = false := by
        unfold isLessonD
        split
        · rename_i h2
          cases h2
          exact absurd rfl c
        · rfl
      simp! only [pl, show isiop (.tuple xs) .tuple = true from rfl, Bool.not_true, b_lenT, c_ne_i, e, Bool.not_false, e2]
  | _ => simp! only [pl]; rfl
def lotOf : PyData → Lot
  | .tuple xs => ⟨txts xs⟩
  | _ => ⟨[]⟩
def lesOf : PyData → Les
  | .tuple [a, b] => (lotOf a, lotOf b)
  | _ => (⟨[]⟩, ⟨[]⟩)
theorem txts_map : ∀ l : List Str, txts (l.map toD) = l
  | [] => rfl
  | w :: l => congrArg (w :: ·) (txts_map l)
theorem lesson_is {ws : List Str} {d : PyData} (h : isLessonD ws d = true) : d = toD (lesOf d) := by
  unfold isLessonD at h
  split at h
  · rename_i a b
    simp only [Bool.and_eq_true] at h
    obtain ⟨l, rfl, _⟩ := part_is h.1.1
    obtain ⟨l2, rfl, _⟩ := part_is h.1.2
    show _ = PyData.tuple [.tuple ((txts _).map toD), .tuple ((txts _).map toD)]
    rw [txts_map, txts_map]
  · cases h
theorem lessons_is {ws : List Str} : ∀ {ls : List PyData}, ls.all (isLessonD ws) = true → ls = (ls.map lesOf).map toD
  | [], _ => rfl
  | d :: ls, h => by
    rw [List.all_cons, Bool.and_eq_true] at h
    rw [List.map_cons, List.map_cons, ← lesson_is h.1, ← lessons_is h.2]
def isDictD : PyData → Bool
  | .tuple [.tuple ws, .tuple ls] => (((decide (1 ≤ ws.length) && decide (ws.length ≤ 8)) && (ws.all isWordD && risB (txts ws))) && (decide (ls.length ≤ 12) && ls.all (isLessonD (txts ws)))) && risB (ls.map lesOf)
  | _ => false
theorem words_is : ∀ {xs : List PyData}, xs.all isWordD = true → xs = (txts xs).map toD
  | [], _ => rfl
  | x :: r, h => by
    rw [List.all_cons, Bool.and_eq_true] at h
    cases x with
    | str w => exact congrArg (PyData.str w :: ·) (words_is h.2)
    | _ => exact absurd h.1 (by simp [isWordD])
theorem is_dictionary_ok (h : HD P) {n : Nat} (hn : 4 ≤ n) (d : PyData) (hd : okS d = true) : callF P F n "is_dictionary" [sD d] = .ok (im (.bool (isDictD d))) := by
  obtain ⟨m, rfl, hm⟩ := num hn (by decide)
  rw [callF_s h.is_dictionary rfl]
  show (exs (callF P F m) F A.is_dictionary.body [sD d, .un, .un, .un, .un, .un]).bd _ = _
  unfold A.is_dictionary
  have pl := okS_plain d hd
  cases d with
  | tuple xs =>
    obtain ⟨hl, hx⟩ : xs.length ≤ 1000 ∧ okSs xs = true := by simpa [okS] using hd
    have ti : isiop (.tuple xs) .tuple = true := rfl
    by_cases c : xs.length = 2
    · obtain ⟨a, b, rfl⟩ := two c
      have ha := okSs_mem hx a (by simp)
      have hb := okSs_mem hx b (by simp)
      have pa := okS_plain a ha
      have pb := okS_plain b hb
      have e2 : ev (callF P F m) (.lc [("part", 1)] (.nm 1) .sq [(.var 0)] .nil (.isi (.var 1) .tuple)) [sD (.tuple [a, b]), .un, .un, .un, .un, .un] = .ok (ow (.list (([a, b].map fun x => isiop x .tuple).map .bool))) := by
        refine lc_map (g := id) (by simp! only [w_sqT, List.map_id]; rfl) (show 2 ≤ LIM by decide) fun x hx' => ?_
        rw [lcT_nil]
        simp! only [id, okS_plain x (okSs_mem hx x hx')]
      obtain ⟨bs, hbs⟩ : ∃ bs : List Bool, bs = [a, b].map fun x => isiop x .tuple := ⟨_, rfl⟩
      rw [← hbs] at e2
      have len2 : decide (((([a, b] : List PyData).length : Nat) : Int) = 2) = true := rfl
      have two_ : (∃ ws ls, a = .tuple ws ∧ b = .tuple ls) ∨ (([a, b].map fun x => isiop x .tuple).all id = false ∧ isDictD (.tuple [a, b]) = false) := by
        cases a <;> first | exact .inr ⟨rfl, rfl⟩ | skip
        cases b <;> first | exact .inr ⟨rfl, rfl⟩ | exact .inl ⟨_, _, rfl, rfl⟩
      rcases two_ with ⟨ws, ls, rfl, rfl⟩ | ⟨q1, q2⟩
      · obtain ⟨hlw, hxw⟩ : ws.length ≤ 1000 ∧ okSs ws = true := by simpa [okS] using ha
        obtain ⟨hll, hxl⟩ : ls.length ≤ 1000 ∧ okSs ls = true := by simpa [okS] using hb
        have wl : ws.length ≤ LIM := Nat.le_trans hlw (by decide)
        have ll : ls.length ≤ LIM := Nat.le_trans hll (by decide)
        have t2 : (bs.all id) = true := by rw [hbs]; rfl
        have e3 : ev (callF P F m) (.lc [("word", 4)] (.nm 4) .sq [(.var 2)] .nil (.call "is_word" [(.var 4)])) [sD (.tuple [.tuple ws, .tuple ls]), .un, sD (.tuple ws), sD (.tuple ls), .un, .un] = .ok (ow (.list ((ws.map isWordD).map .bool))) := by
          refine lc_map (g := id) (by simp! only [w_sqT, List.map_id]) wl fun x hx' => ?_
          rw [lcT_nil]
          simp! only [id, is_word_ok h.is_word (show 1 ≤ m by omega) x (okSs_mem hxw x hx')]
        rw [exs_cons, ex_iff]
        simp! only [pl, ti, Bool.not_true, b_lenT, c_ne_i, len2, e2, b_all, t2]
        by_cases c1 : (ws.length : Int) < 1
        · have : isDictD (.tuple [.tuple ws, .tuple ls]) = false := by
            simp only [isDictD, decide_eq_false (show ¬ 1 ≤ ws.length by omega), Bool.false_and]
          simp! only [b_lenT, decide_eq_true c1, Bool.not_true, Bool.not_false, this]
        by_cases c2 : (8 : Int) < ws.length
        · have : isDictD (.tuple [.tuple ws, .tuple ls]) = false := by
            simp only [isDictD, decide_eq_false (show ¬ ws.length ≤ 8 by omega), Bool.and_false, Bool.false_and]
          simp! only [b_lenT, decide_eq_false c1, decide_eq_true c2, Bool.not_true, Bool.not_false, this]
        have w18 : (decide (1 ≤ ws.length) && decide (ws.length ≤ 8)) = true := by
          rw [decide_eq_true (show 1 ≤ ws.length by omega), decide_eq_true (show ws.length ≤ 8 by omega)]; rfl
        cases q3 : ws.all isWordD with
        | false =>
          have : isDictD (.tuple [.tuple ws, .tuple ls]) = false := by simp only [isDictD, q3, Bool.false_and, Bool.and_false]
          have a3 : ((ws.map isWordD).all id) = false := by rw [List.all_map]; exact q3
          simp! only [b_lenT, decide_eq_false c1, decide_eq_false c2, Bool.not_true, Bool.not_false, e3, b_all, a3, this]
        | true =>
          have a3 : ((ws.map isWordD).all id) = true := by rw [List.all_map]; exact q3
          have ew := words_is q3
          have er : callF P F m "is_rising" [sD (.tuple ws)] = .ok (im (.bool (risB (txts ws)))) := by
            rw [congrArg (fun z => callF P F m "is_rising" [sD (.tuple z)]) ew]
            exact is_rising_ok h.is_rising (by omega) (txts ws) (Nat.le_trans (txts_len ws) wl)
          cases q4 : risB (txts ws) with
          | false =>
            have : isDictD (.tuple [.tuple ws, .tuple ls]) = false := by simp only [isDictD, q4, Bool.false_and, Bool.and_false]
            simp! only [b_lenT, decide_eq_false c1, decide_eq_false c2, Bool.not_true, Bool.not_false, e3, b_all, a3, er, q4, this]
          | true =>
            simp! only [b_lenT, decide_eq_false c1, decide_eq_false c2, Bool.not_true, Bool.not_false, e3, b_all, a3, er, q4]
            have e4 : ev (callF P F m) (.lc [("lesson", 5)] (.nm 5) .sq [(.var 3)] .nil (.call "is_lesson" [(.var 2), (.var 5)])) [sD (.tuple [.tuple ws, .tuple ls]), .un, sD (.tuple ws), sD (.tuple ls), .un, .un] = .ok (ow (.list ((ls.map (isLessonD (txts ws))).map .bool))) := by
              refine lc_map (g := id) (by simp! only [w_sqT, List.map_id]) ll fun x hx' => ?_
              rw [lcT_nil]
              have := is_lesson_ok (F := F) h (show 3 ≤ m by omega) (txts ws) x (okSs_mem hxl x hx')
              rw [← ew] at this
              simp! only [id, this]
            by_cases c3 : (12 : Int) < ls.length
            · have : isDictD (.tuple [.tuple ws, .tuple ls]) = false := by
                simp only [isDictD, decide_eq_false (show ¬ ls.length ≤ 12 by omega), Bool.and_false, Bool.false_and]
              simp! only [b_lenT, decide_eq_true c3, this]
            · cases q5 : ls.all (isLessonD (txts ws)) with
              | false =>
                have : isDictD (.tuple [.tuple ws, .tuple ls]) = false := by simp only [isDictD, q5, Bool.false_and, Bool.and_false]
                have a5 : ((ls.map (isLessonD (txts ws))).all id) = false := by rw [List.all_map]; exact q5
                simp! only [b_lenT, decide_eq_false c3, e4, b_all, a5, Bool.not_false, this]
              | true =>
                have a5 : ((ls.map (isLessonD (txts ws))).all id) = true := by rw [List.all_map]; exact q5
                have el := lessons_is q5
                have er2 : callF P F m "is_rising" [sD (.tuple ls)] = .ok (im (.bool (risB (ls.map lesOf)))) := by
                  have := is_rising_ok (P := P) (F := F) h.is_rising (n := m) (by omega) (ls.map lesOf) (by rw [List.length_map]; exact ll)
                  rw [← el] at this
                  exact this
                have : isDictD (.tuple [.tuple ws, .tuple ls]) = risB (ls.map lesOf) := by
                  simp only [isDictD, w18, q3, q4, decide_eq_true (show ls.length ≤ 12 by omega), q5, Bool.true_and]
                simp! only [b_lenT, decide_eq_false c3, e4, b_all, a5, Bool.not_true, er2, this]
      · rw [← hbs] at q1
        simp! only [pl, ti, Bool.not_true, b_lenT, c_ne_i, len2, e2, b_all, q1, Bool.not_false, q2]
    · have e : decide (((xs.length : Nat) : Int) = 2) = false := decide_eq_false (by omega)
      have e2 : isDictD (.tuple xs) = false := by
        unfold isDictD
        split
        · rename_i h2
          cases h2
          exact absurd rfl c
        · rfl
      simp! only [pl, ti, Bool.not_true, b_lenT, c_ne_i, e, Bool.not_false, e2]
  | _ => simp! only [pl]; rfl
theorem look_dictionary_ok (h : HD P) {n : Nat} (hn : 5 ≤ n) (d : PyData) (hd : okS d = true) : callF P F n "look_dictionary" [sD d] = if isDictD d then .ok (im .none) else .exc "NoDictionary" := by
  obtain ⟨m, rfl, hm⟩ := num hn (by decide)
  rw [callF_s h.look_dictionary rfl]
  show (exs (callF P F m) F A.look_dictionary.body [sD d]).bd _ = _
  unfold A.look_dictionary
  simp! only [is_dictionary_ok h hm d hd]
  cases isDictD d <;> rfl
end
end Tdl
/-! TpKnown: lots of words, what is known of them. -/
namespace Tdl
open PySem PySem.W
/-- a lot as data -/
abbrev lD (l : List Str) : PyData := .tuple (l.map toD)
abbrev lsD (ls : List Les) : PyData := .tuple (ls.map toD)
abbrev dD (ws : List Str) (ls : List Les) : PyData := .tuple [lD ws, lsD ls]
theorem dD_is (ws : List Str) (ls : List Les) : toD ((⟨ws⟩, ⟨ls⟩) : Dic) = dD ws ls := rfl
theorem les_is (p : Les) : (toD p : PyData) = .tuple [lD p.1.items, lD p.2.items] := rfl
/-! ### dict comprehensions with one value -/
def dedupF {α : Type} [DecidableEq α] : List α → List α → List α
  | ks, [] => ks
  | ks, k :: r => dedupF (if k ∈ ks then ks else ks ++ [k]) r
theorem dedupF_mem {α : Type} [DecidableEq α] {a : α} : ∀ {xs ks : List α}, a ∈ dedupF ks xs ↔ a ∈ ks ∨ a ∈ xs
  | [], ks => by simp [dedupF]
  | k :: r, ks => by
    unfold dedupF
    rw [dedupF_mem]
    by_cases h : k ∈ ks
    · rw [if_pos h, List.mem_cons]
      constructor
      · rintro (q | q)
        · exact .inl q
        · exact .inr (.inr q)
      · rintro (q | q | q)
        · exact .inl q
        · rw [q]; exact .inl h
        · exact .inr q
    · rw [if_neg h, List.mem_append, List.mem_singleton, List.mem_cons, or_assoc]
theorem dedupF_nodup {α : Type} [DecidableEq α] : ∀ {xs ks : List α}, ks.Nodup → (dedupF ks xs).Nodup
  | [], ks, h => h
  | k :: r, ks, h => by
    unfold dedupF
    refine dedupF_nodup ?_
    by_cases c : k ∈ ks
    · rw [if_pos c]; exact h
    · rw [if_neg c]
      refine List.nodup_append.mpr ⟨h, by simp, fun a ha b hb => ?_⟩
      rw [List.mem_singleton] at hb
      subst hb
      rintro rfl
      exact c ha
theorem dput_same {α : Type} [DecidableEq α] [Datum α] (v : PyData) (k : α) : ∀ ks : List α, dput (toD k) v (ks.map fun k => (toD k, v)) = (if k ∈ ks then ks else ks ++ [k]).map fun k => (toD k, v) := fun ks => by
  have e : ((ks.map fun k => ((toD k : PyData), v)).any fun p => PyData.eqv p.1 (toD k)) = decide (k ∈ ks) := by
    rw [List.any_map]
    have := any_datum ks k
    rw [List.any_map] at this
    exact this
  unfold dput
  rw [e]
  by_cases h : k ∈ ks
  · rw [decide_eq_true h, if_pos rfl, if_pos h, List.map_map]
    refine List.map_congr_left fun a _ => ?_
    show (if PyData.eqv (toD a) (toD k) then ((toD a : PyData), v) else ((toD a : PyData), v)) = _
    split <;> rfl
  · rw [decide_eq_false h, if_neg (by decide), if_neg h, List.map_append]
    rfl
theorem goDc_same {β α : Type} [DecidableEq α] [Datum α] {g : β → PyData} {key : β → α} {v : PyData} {f : PyData → List (PyData × PyData) → Res (List (PyData × PyData))} : ∀ {xs : List β} {ks : List α}, (∀ x ∈ xs, ∀ acc, f (g x) acc = .ok (dput (toD (key x)) v acc)) →
    goDc f (xs.map g) (ks.map fun k => (toD k, v)) = .ok ((dedupF ks (xs.map key)).map fun k => (toD k, v))
  | [], ks, _ => rfl
  | x :: xs, ks, h => by
    show (f (g x) (ks.map fun k => (toD k, v))).bd _ = _
    rw [h x List.mem_cons_self, bd_ok, dput_same]
    exact goDc_same fun y hy => h y (List.mem_cons_of_mem _ hy)
section
variable {Φ : Fns} {env : Env}
/-- a turn of a dict comprehension -/
def dcT (Φ : Fns) (own : List (String × Nat)) (tk : Bool) (tg : Tg) (key val : Ex) (env : Env) (x : PyData) (acc : List (PyData × PyData)) : Res (List (PyData × PyData)) := (bindT tg x (wipeS own env)).bd fun e1 => ((calm (ev Φ key e1)).bd fr).bd fun kd => ((calm (ev Φ val e1)).bd fr).bd fun vd => gd (keyK tk kd) (.ok (dput kd vd acc))
theorem dc_same {β α : Type} [DecidableEq α] [Datum α] {own : List (String × Nat)} {tk : Bool} {tg : Tg} {k : Wk} {src : List Ex} {key val : Ex} {xs : List β} {g : β → PyData} {q : β → α} {v : PyData} (hs : (wsrc k (evl Φ src env) (evs Φ src env)).bd (walkop k) = .ok (xs.map g)) (hl : xs.length ≤ LIM)
    (ht : ∀ x ∈ xs, ∀ acc, dcT Φ own tk tg key val env (g x) acc = .ok (dput (toD (q x)) v acc)) : ev Φ (.dc tk own tg k src key val) env = .ok (ow (dct tk ((dedupF [] (xs.map q)).map fun k => (toD k, v)))) := by
  have e : ev Φ (.dc tk own tg k src key val) env = ((wsrc k (evl Φ src env) (evs Φ src env)).bd (walkop k)).bd fun xs => gd (decide (xs.length ≤ LIM)) ((goDc (dcT Φ own tk tg key val env) xs []).bd fun out => .ok (ow (dct tk out))) := by
    show (wsrc k (evl Φ src env) (evs Φ src env)).bd _ = _
    cases wsrc k (evl Φ src env) (evs Φ src env) <;> rfl
  rw [e, hs, bd_ok, List.length_map, decide_eq_true hl, gd_true]
  have := goDc_same (ks := ([] : List α)) ht
  rw [List.map_nil] at this
  rw [this]
  rfl
end
/-! ### the functions -/
structure HK (P : String → Option Fn) : Prop where
  lies_in : P "lies_in" = some A.lies_in
  both : P "both" = some A.both
  taught_now : P "taught_now" = some A.taught_now
section
variable {P : String → Option Fn} {F : Nat}
def liesIn (a b : List Str) : Bool := a.all fun w => decide (w ∈ b)
theorem liesIn_iff {a b : List Str} : liesIn a b = true ↔ ∀ w ∈ a, w ∈ b := by simp [liesIn]
theorem lies_in_ok (h : P "lies_in" = some A.lies_in) {n : Nat} (hn : 1 ≤ n) (a b : List Str) (hl : a.length ≤ LIM) : callF P F n "lies_in" [sD (lD a), sD (lD b)] = .ok (im (.bool (liesIn a b))) := by
  obtain ⟨m, rfl, hm⟩ := num hn (by decide)
  rw [callF_s h rfl]
  show (exs (callF P F m) F A.lies_in.body [sD (lD a), sD (lD b), .un]).bd _ = _
  unfold A.lies_in
  have e2 : ev (callF P F m) (.lc [("word", 2)] (.nm 2) .sq [(.var 0)] .nil (.cmp .isin (.var 2) (.var 1))) [sD (lD a), sD (lD b), .un] = .ok (ow (.list ((a.map fun w => decide (w ∈ b)).map .bool))) := by
    refine lc_map (g := toD) (by simp! only [w_sqT]) hl fun w _ => ?_
    rw [lcT_nil]
    simp! only [c_inT]
  simp! only [e2, b_all]
  rw [List.all_map]
  rfl
/-- the rising one of all that are in one of two -/
def both (a b : List Str) : List Str := sortT (dedupF [] (a ++ b))
theorem both_mem {a b : List Str} {w : Str} : w ∈ both a b ↔ w ∈ a ∨ w ∈ b := by
  unfold both
  rw [sortT_mem, dedupF_mem, List.mem_append]
  simp
theorem both_rise (a b : List Str) : Rise (both a b) := sortT_rise (dedupF_nodup List.nodup_nil)
theorem add_tt (m : Md) (xs ys : List PyData) (h : xs.length + ys.length ≤ LIM) : binop .add m (.tuple xs) (.tuple ys) = .ok (im (.tuple (xs ++ ys))) := by
  show gd (decide _) _ = _
  rw [decide_eq_true h]
  rfl
theorem both_ok (h : P "both" = some A.both) {n : Nat} (hn : 1 ≤ n) (a b : List Str) (hl : a.length + b.length ≤ LIM) : callF P F n "both" [sD (lD a), sD (lD b)] = .ok (im (lD (both a b))) := by
  obtain ⟨m, rfl, hm⟩ := num hn (by decide)
  rw [callF_s h rfl]
  show (exs (callF P F m) F A.both.body [sD (lD a), sD (lD b), .un]).bd _ = _
  unfold A.both
  have e2 : ev (callF P F m) (.dc false [("word", 2)] (.nm 2) .sq [(.bin .add (.var 0) (.var 1))] (.var 2) (.cst (.bool true))) [sD (lD a), sD (lD b), .un] = .ok (ow (dct false ((dedupF [] (a ++ b)).map fun k => (toD k, .bool true)))) := by
    have := dc_same (Φ := callF P F m) (env := [sD (lD a), sD (lD b), .un]) (own := [("word", 2)]) (tk := false) (tg := .nm 2) (k := .sq) (src := [(.bin .add (.var 0) (.var 1))]) (key := .var 2) (val := .cst (.bool true)) (xs := a ++ b) (g := toD) (q := id) (v := .bool true) (by
      simp! only [add_tt _ (a.map toD) (b.map toD) (by rw [List.length_map, List.length_map]; exact hl), w_sqT, List.map_append]) (by rw [List.length_append]; exact hl) fun w _ acc => by
      unfold dcT
      simp! only []
      rfl
    rw [List.map_id] at this
    exact this
  have e3 : bltop .sorted [dct false ((dedupF [] (a ++ b)).map fun k => ((toD k : PyData), PyData.bool true))] = .ok (ow (.list ((both a b).map toD))) := by
    show gd (alikes ((((dedupF [] (a ++ b)).map fun k => ((toD k : PyData), PyData.bool true))).map (·.1))) (.ok (ow (.list (srtD (((dedupF [] (a ++ b)).map fun k => ((toD k : PyData), PyData.bool true)).map (·.1)))))) = _
    rw [List.map_map]
    show gd (alikes ((dedupF [] (a ++ b)).map toD)) (.ok (ow (.list (srtD ((dedupF [] (a ++ b)).map toD))))) = _
    rw [alikes_d, srtD_map]
    rfl
  simp! only [e2, e3, b_tupL]
/-- what is learnt at once -/
def tn (ls : List Les) (l : List Str) : List Str := ls.foldl (fun made p => if liesIn p.1.items l then both made p.2.items else made) l
/-- a lot of some words -/
structure LotOf (ws l : List Str) : Prop where
  rise : Rise l
  sub : ∀ w ∈ l, w ∈ ws
theorem nodup_len {α : Type} [DecidableEq α] : ∀ {xs ys : List α}, xs.Nodup → (∀ a ∈ xs, a ∈ ys) → xs.length ≤ ys.length
  | [], _, _, _ => Nat.zero_le _
  | x :: xs, ys, h, s => by
    obtain ⟨h1, h2⟩ := List.nodup_cons.mp h
    have hx := s x List.mem_cons_self
    have := nodup_len (ys := ys.erase x) h2 fun a ha => (List.mem_erase_of_ne fun e => h1 (by rw [← e]; exact ha)).mpr (s a (List.mem_cons_of_mem _ ha))
    rw [List.length_erase_of_mem hx] at this
    have hp := List.length_pos_of_mem hx
    rw [List.length_cons]
    omega
theorem LotOf.len {ws l : List Str} (h : LotOf ws l) : l.length ≤ ws.length := nodup_len h.rise.nodup h.sub
theorem LotOf.ext {ws a b : List Str} (ha : LotOf ws a) (hb : LotOf ws b) (h : ∀ w, w ∈ a ↔ w ∈ b) : a = b := Rise.ext ha.rise hb.rise h
theorem LotOf.both {ws a b : List Str} (ha : LotOf ws a) (hb : LotOf ws b) : LotOf ws (both a b) := ⟨both_rise a b, fun w hw => (both_mem.mp hw).elim (ha.sub w) (hb.sub w)⟩
/-- words that rise, lessons of them -/
structure WfD (ws : List Str) (ls : List Les) : Prop where
  rise : Rise ws
  few : ws.length ≤ 8
  fewL : ls.length ≤ 12
  good : ∀ w ∈ ws, goodW w = true
  one : ws ≠ []
  need : ∀ p ∈ ls, LotOf ws p.1.items
  taught : ∀ p ∈ ls, LotOf ws p.2.items ∧ p.2.items ≠ []
  riseL : Rise ls
theorem tn_from {ws : List Str} {ls : List Les} {l : List Str} (h : ∀ p ∈ ls, LotOf ws p.2.items) : ∀ (made : List Str), LotOf ws made → LotOf ws (ls.foldl (fun made p => if liesIn p.1.items l then both made p.2.items else made) made) ∧
    ∀ w, w ∈ ls.foldl (fun made p => if liesIn p.1.items l then both made p.2.items else made) made ↔ w ∈ made ∨ ∃ p ∈ ls, liesIn p.1.items l = true ∧ w ∈ p.2.items := by
  induction ls with
  | nil => intro made hm; exact ⟨hm, fun w => by simp⟩
  | cons p ls ih =>
    intro made hm
    have hp := h p List.mem_cons_self
    have hr := fun q hq => h q (List.mem_cons_of_mem p hq)
    by_cases c : liesIn p.1.items l = true
    · obtain ⟨h1, h2⟩ := ih hr (both made p.2.items) (hm.both hp)
      rw [List.foldl_cons, if_pos c]
      refine ⟨h1, fun w => ?_⟩
      rw [h2, both_mem]
      constructor
      · rintro ((q | q) | ⟨q, q1, q2, q3⟩)
        · exact .inl q
        · exact .inr ⟨p, List.mem_cons_self, c, q⟩
        · exact .inr ⟨q, List.mem_cons_of_mem _ q1, q2, q3⟩
      · rintro (q | ⟨q, q1, q2, q3⟩)
        · exact .inl (.inl q)
        · rcases List.mem_cons.mp q1 with e | e
          · subst e; exact .inl (.inr q3)
          · exact .inr ⟨q, e, q2, q3⟩
    · obtain ⟨h1, h2⟩ := ih hr made hm
      rw [List.foldl_cons, if_neg c]
      refine ⟨h1, fun w => ?_⟩
      rw [h2]
      constructor
      · rintro (q | ⟨q, q1, q2, q3⟩)
        · exact .inl q
        · exact .inr ⟨q, List.mem_cons_of_mem _ q1, q2, q3⟩
      · rintro (q | ⟨q, q1, q2, q3⟩)
        · exact .inl q
        · rcases List.mem_cons.mp q1 with e | e
          · subst e; exact absurd q2 c
          · exact .inr ⟨q, e, q2, q3⟩
theorem tn_lot {ws : List Str} {ls : List Les} {l : List Str} (h : ∀ p ∈ ls, LotOf ws p.2.items) (hl : LotOf ws l) : LotOf ws (tn ls l) := (tn_from h l hl).1
theorem tn_mem {ws : List Str} {ls : List Les} {l : List Str} (h : ∀ p ∈ ls, LotOf ws p.2.items) (hl : LotOf ws l) {w : Str} : w ∈ tn ls l ↔ w ∈ l ∨ ∃ p ∈ ls, liesIn p.1.items l = true ∧ w ∈ p.2.items := (tn_from h l hl).2 w
theorem taught_now_ok (h : HK P) {n : Nat} (hn : 2 ≤ n) {ws : List Str} {ls : List Les} (hw : ws.length ≤ 1000) (h1 : ∀ p ∈ ls, LotOf ws p.1.items) (h2 : ∀ p ∈ ls, LotOf ws p.2.items) {l : List Str} (hl : LotOf ws l) : callF P F n "taught_now" [sD (lsD ls), sD (lD l)] = .ok (im (lD (tn ls l))) := by
  obtain ⟨m, rfl, hm⟩ := num hn (by decide)
  rw [callF_s h.taught_now rfl]
  show (exs (callF P F m) F A.taught_now.body [sD (lsD ls), sD (lD l), .un, .un, .un]).bd _ = _
  unfold A.taught_now
  have lim : ∀ {a : List Str}, LotOf ws a → a.length ≤ 1000 := fun ha => Nat.le_trans ha.len hw
  have loop := loopF_fold (g := fun p : Les => (toD p : PyData)) (t := .tp [(.nm 3), (.nm 4)]) (body := exs (callF P F m) F [.iff (.call "lies_in" [(.var 3), (.var 1)]) [.asg (.nm 2) false (.call "both" [(.var 2), (.var 4)])] []])
    (R := fun (made : List Str) e => LotOf ws made ∧ ∃ x y, e = [sD (lsD ls), sD (lD l), sD (lD made), x, y]) (fun made p => if liesIn p.1.items l then both made p.2.items else made) ls l [sD (lsD ls), sD (lD l), sD (lD l), .un, .un] ⟨hl, _, _, rfl⟩ fun made e p hp ⟨hmd, x, y, he⟩ => by
      subst he
      have a1 := lies_in_ok (F := F) h.lies_in hm p.1.items l (Nat.le_trans (lim (h1 p hp)) (by decide))
      have a2 := both_ok (F := F) h.both hm made p.2.items (Nat.le_trans (Nat.add_le_add (lim hmd) (lim (h2 p hp))) (by decide))
      rw [les_is]
      simp! only [a1]
      by_cases c : liesIn p.1.items l = true
      · rw [if_pos c]
        refine ⟨[sD (lsD ls), sD (lD l), sD (lD (both made p.2.items)), sD (lD p.1.items), sD (lD p.2.items)], ?_, hmd.both (h2 p hp), _, _, rfl⟩
        simp! only [c, a2]
      · rw [if_neg c]
        refine ⟨[sD (lsD ls), sD (lD l), sD (lD made), sD (lD p.1.items), sD (lD p.2.items)], ?_, hmd, _, _, rfl⟩
        simp! only [show liesIn p.1.items l = false by simpa using c]
  obtain ⟨e', q1, hmd, x, y, rfl⟩ := loop
  simp! only [ex_for, w_sqT, q1]
  rfl
theorem ctx_sub {ws : List Str} {ls : List Les} {l : List Str} (h : ∀ p ∈ ls, LotOf ws p.2.items) (hl : LotOf ws l) : ∀ w ∈ l, w ∈ tn ls l := fun w hw => (tn_mem h hl).mpr (.inl hw)
/-- what grows is longer -/
theorem LotOf.lt {ws a b : List Str} (ha : LotOf ws a) (hb : LotOf ws b) (s : ∀ w ∈ a, w ∈ b) (ne : b ≠ a) : a.length < b.length := by
  refine Nat.lt_of_le_of_ne (nodup_len ha.rise.nodup s) fun e => ne (hb.ext ha fun w => ⟨fun hw => ?_, s w⟩)
  by_cases c : w ∈ a
  · exact c
  · have := nodup_len (ys := b.erase w) ha.rise.nodup fun v hv => (List.mem_erase_of_ne fun z => c (by rw [← z]; exact hv)).mpr (s v hv)
    rw [List.length_erase_of_mem hw] at this
    have hp := List.length_pos_of_mem hw
    omega
def knF (ls : List Les) : Nat → List Str → List Str
  | 0, l => l
  | k + 1, l => if tn ls l = l then l else knF ls k (tn ls l)
/-- what is known of a lot -/
def kn (ls : List Les) (l : List Str) : List Str := knF ls 8 l
/-- nothing is learnt of it -/
def Shut (ls : List Les) (l : List Str) : Prop := ∀ p ∈ ls, (∀ w ∈ p.1.items, w ∈ l) → ∀ w ∈ p.2.items, w ∈ l
theorem shut_tn {ws : List Str} {ls : List Les} {l : List Str} (h : ∀ p ∈ ls, LotOf ws p.2.items) (hl : LotOf ws l) : tn ls l = l ↔ Shut ls l := by
  constructor
  · intro e p hp hn w hw
    rw [← e]
    exact (tn_mem h hl).mpr (.inr ⟨p, hp, liesIn_iff.mpr hn, hw⟩)
  · intro s
    refine (tn_lot h hl).ext hl fun w => ⟨fun hw => ?_, ctx_sub h hl w⟩
    rcases (tn_mem h hl).mp hw with q | ⟨p, hp, q1, q2⟩
    · exact q
    · exact s p hp (liesIn_iff.mp q1) w q2
theorem knF_spec {ws : List Str} {ls : List Les} (h : ∀ p ∈ ls, LotOf ws p.2.items) : ∀ (k : Nat) (l : List Str), LotOf ws l → ws.length ≤ l.length + k → LotOf ws (knF ls k l) ∧ (∀ w ∈ l, w ∈ knF ls k l) ∧ tn ls (knF ls k l) = knF ls k l ∧ ∀ M, LotOf ws M → (∀ w ∈ l, w ∈ M) → Shut ls M → ∀ w ∈ knF ls k l, w ∈ M
  | 0, l, hl, hk => by
    refine ⟨hl, fun w hw => hw, ?_, fun M _ s _ => s⟩
    show tn ls l = l
    by_cases c : tn ls l = l
    · exact c
    · have h1 := hl.lt (tn_lot h hl) (ctx_sub h hl) c
      have h2 := (tn_lot h hl).len
      omega
  | k + 1, l, hl, hk => by
    unfold knF
    by_cases c : tn ls l = l
    · rw [if_pos c]
      exact ⟨hl, fun w hw => hw, c, fun M _ s _ => s⟩
    · rw [if_neg c]
      have h1 := hl.lt (tn_lot h hl) (ctx_sub h hl) c
      obtain ⟨a1, a2, a3, a4⟩ := knF_spec h k (tn ls l) (tn_lot h hl) (by omega)
      refine ⟨a1, fun w hw => a2 w (ctx_sub h hl w hw), a3, fun M hM s sh => a4 M hM (fun w hw => ?_) sh⟩
      rcases (tn_mem h hl).mp hw with q | ⟨p, hp, q1, q2⟩
      · exact s w q
      · exact sh p hp (fun v hv => s v (liesIn_iff.mp q1 v hv)) w q2
theorem known_loop (h : HK P) {n : Nat} (hn : 2 ≤ n) {ws : List Str} {ls : List Les} (hw : ws.length ≤ 1000) (h1 : ∀ p ∈ ls, LotOf ws p.1.items) (h2 : ∀ p ∈ ls, LotOf ws p.2.items) : ∀ (k t : Nat) (l : List Str), LotOf ws l → ws.length ≤ l.length + k → k < t →
    loopW (tst (callF P F n) (.cmp .ne (.var 2) (.var 1))) (exs (callF P F n) F [.par [1, 2] [false, false] [(.var 2), (.call "taught_now" [(.var 0), (.var 2)])]]) t [sD (lsD ls), sD (lD l), sD (lD (tn ls l))] = .ok (.nx [sD (lsD ls), sD (lD (knF ls k l)), sD (lD (tn ls (knF ls k l)))])
  | k, 0, l, _, _, ht => by omega
  | k, t + 1, l, hl, hk, ht => by
    rw [loopW_s, tst_is]
    have e : cmpop .ne (lD (tn ls l)) (lD l) = .ok (!decide ((⟨tn ls l⟩ : Lot) = ⟨l⟩)) := c_ne (α := Lot) ⟨tn ls l⟩ ⟨l⟩
    have e0 : ((⟨tn ls l⟩ : Lot) = ⟨l⟩) ↔ tn ls l = l := by simp
    by_cases c : tn ls l = l
    · simp! only [e, decide_eq_true (e0.mpr c), Bool.not_true]
      cases k with
      | zero => rfl
      | succ k => rw [show knF ls (k + 1) l = l by unfold knF; rw [if_pos c]]
    · have hlt := hl.lt (tn_lot h2 hl) (ctx_sub h2 hl) c
      cases k with
      | zero =>
        have := (tn_lot h2 hl).len
        omega
      | succ k =>
        have a1 := taught_now_ok (F := F) h hn hw h1 h2 (tn_lot h2 hl)
        simp! only [e, decide_eq_false (fun z => c (e0.mp z)), Bool.not_false, a1]
        rw [show knF ls (k + 1) l = knF ls k (tn ls l) by rw [knF, if_neg c]]
        exact known_loop h hn hw h1 h2 k t (tn ls l) (tn_lot h2 hl) (by omega) (by omega)
theorem known_by_ok (hk : P "known_by" = some A.known_by) (h : HK P) {n : Nat} (hn : 3 ≤ n) (hF : 8 < F) {ws : List Str} {ls : List Les} (hw : ws.length ≤ 8) (h1 : ∀ p ∈ ls, LotOf ws p.1.items) (h2 : ∀ p ∈ ls, LotOf ws p.2.items) {l : List Str} (hl : LotOf ws l) : callF P F n "known_by" [sD (lsD ls), sD (lD l)] = .ok (im (lD (kn ls l))) := by
  obtain ⟨m, rfl, hm⟩ := num hn (by decide)
  rw [callF_s hk rfl]
  show (exs (callF P F m) F A.known_by.body [sD (lsD ls), sD (lD l), .un]).bd _ = _
  unfold A.known_by
  have a1 := taught_now_ok (F := F) h hm (by omega) h1 h2 hl
  have a2 := known_loop (P := P) (F := F) h hm (by omega) h1 h2 8 F l hl (by omega) hF
  simp! only [a1, ex_whl, a2]
  rfl
/-- what is known of a lot: the least lot that holds it and is shut -/
theorem kn_spec {ws : List Str} {ls : List Les} (hw : ws.length ≤ 8) (h : ∀ p ∈ ls, LotOf ws p.2.items) {l : List Str} (hl : LotOf ws l) : LotOf ws (kn ls l) ∧ (∀ w ∈ l, w ∈ kn ls l) ∧ Shut ls (kn ls l) ∧ ∀ M, LotOf ws M → (∀ w ∈ l, w ∈ M) → Shut ls M → ∀ w ∈ kn ls l, w ∈ M := by
  obtain ⟨a1, a2, a3, a4⟩ := knF_spec h 8 l hl (by omega)
  exact ⟨a1, a2, (shut_tn h a1).mp a3, a4⟩
theorem kn_uniq {ws : List Str} {ls : List Les} (hw : ws.length ≤ 8) (h : ∀ p ∈ ls, LotOf ws p.2.items) {l M : List Str} (hl : LotOf ws l) (hM : LotOf ws M) (s : ∀ w ∈ l, w ∈ M) (sh : Shut ls M) (le : ∀ w ∈ M, ∀ N, LotOf ws N → (∀ v ∈ l, v ∈ N) → Shut ls N → w ∈ N) : M = kn ls l := by
  obtain ⟨a1, a2, a3, a4⟩ := kn_spec hw h hl
  exact hM.ext a1 fun w => ⟨fun hw => le w hw _ a1 a2 a3, a4 M hM s sh w⟩
end
end Tdl
/-! TpPick: numbers drawn from a script. -/
namespace Tdl
open PySem PySem.W
def dPick : Fn := ⟨3, ["_law_script", "_law_k", "_law_many", "_law_cell", "_law_rest", "_law_again", "_law_drawn"], [
    .asg (.nm 3) false (.ite (.cmp .ne (.var 0) (.lst [])) (.idx (.var 0) (.bin .mod (.var 1) (.blt .len [(.var 0)]))) (.cst (.int 0))),
    .par [4, 5] [false, false] [(.bin .fdiv (.var 3) (.bin .pow (.cst (.int 10)) (.cst (.int 18)))), (.bin .fdiv (.var 1) (.blt .max2 [(.blt .len [(.var 0)]), (.cst (.int 1))]))],
    .whl (.bop true [(.cmp .gt (.var 4) (.cst (.int 0))), (.cmp .gt (.var 5) (.cst (.int 0)))]) [
      .par [4, 5] [false, false] [(.bin .fdiv (.var 4) (.cst (.int 840))), (.bin .sub (.var 5) (.cst (.int 1)))]],
    .iff (.cmp .gt (.var 4) (.cst (.int 0))) [
      .ret (.bin .mod (.bin .mod (.var 4) (.cst (.int 840))) (.var 2))] [],
    .asg (.nm 6) false (.bin .mod (.bin .mul (.bin .add (.bin .mul (.var 3) (.cst (.int 31))) (.bin .mul (.cst (.int 6151)) (.bin .add (.var 1) (.cst (.int 1))))) (.cst (.int 40692))) (.cst (.int 2147483399))),
    .ret (.bin .mod (.bin .mod (.bin .add (.bin .mul (.var 6) (.var 6)) (.bin .fdiv (.var 6) (.cst (.int 31)))) (.cst (.int 2147483629))) (.var 2))]⟩
theorem ints_plain : ∀ ns : List Int, PyData.plainAll (ns.map .int) = true
  | [] => by simp [PyData.plainAll]
  | _ :: ns => by simp [PyData.plainAll, PyData.plain, ints_plain ns]
theorem ne_nil (ns : List Int) : cmpop .ne (.list (ns.map .int)) (.list []) = .ok (!ns.isEmpty) := by
  show gd (eqOk (.list (ns.map .int)) (.list [])) _ = _
  have : eqOk (.list (ns.map .int)) (.list []) = true := by
    unfold eqOk
    simp [PyData.plain, PyData.plainAll, ints_plain, PyData.depth, PyData.depthAll]
  rw [this]
  cases ns <;> simp [PyData.eqv, PyData.eqvAll]
section
variable {Φ : Fns} {F : Nat}
abbrev lpC : Ex := .bop true [(.cmp .gt (.var 4) (.cst (.int 0))), (.cmp .gt (.var 5) (.cst (.int 0)))]
abbrev lpB : List Stm := [.par [4, 5] [false, false] [(.bin .fdiv (.var 4) (.cst (.int 840))), (.bin .sub (.var 5) (.cst (.int 1)))]]
theorem pick_loop (s k m c d : SV) : ∀ (a n : Nat) (r : Int), a < n → ∃ r' a' : Int, loopW (tst Φ lpC) (exs Φ F lpB) n [s, k, m, c, sD (.int r), sD (.int a), d] = .ok (.nx [s, k, m, c, sD (.int r'), sD (.int a'), d])
  | a, 0, r, h => by omega
  | a, n + 1, r, h => by
    rw [loopW_s, tst_is]
    by_cases hr : 0 < r
    · cases a with
      | zero =>
        refine ⟨r, 0, ?_⟩
        simp! only [hr, decide_true]
        simp [bl_b, kW_f]
      | succ a =>
        obtain ⟨r', a', e⟩ := pick_loop s k m c d a n (r / 840) (by omega)
        refine ⟨r', a', ?_⟩
        have h0 : (0 : Int) < ((a + 1 : Nat) : Int) := by omega
        simp! only [hr, h0, decide_true, fdiv_ii _ (show (0 : Int) < 840 ∧ (840 : Int) < 1180591620717411303424 by decide), show ((a + 1 : Nat) : Int) - 1 = a by omega]
        exact e
    · refine ⟨r, a, ?_⟩
      simp! only [hr, decide_false]
theorem ev_one_ge {ns : List Int} (h : ns ≠ []) : 0 < (ns.length : Int) := by
  have := List.length_pos_iff.mpr h
  omega
theorem len_l (xs : List PyData) : bltop .len [.list xs] = .ok (im (.int xs.length)) := rfl
theorem max2_ii (i j : Int) : bltop .max2 [.int i, .int j] = .ok (im (.int (if j > i then j else i))) := rfl
theorem idx_int {ns : List Int} {i : Int} (h0 : 0 ≤ i) (h1 : i < ns.length) : ∃ c : Int, idxop (.list (ns.map .int)) (.int i) = .ok (.int c) := by
  have hp : place (ns.map PyData.int).length i = some i.toNat := by
    unfold place
    rw [if_pos h0, if_pos (by rw [List.length_map]; exact h1)]
  have hl : i.toNat < ns.length := by omega
  refine ⟨ns[i.toNat], ?_⟩
  show (match (place (ns.map PyData.int).length i).bind ((ns.map PyData.int)[·]?) with | some x => Res.ok x | none => Res.err) = _
  rw [hp]
  simp [hl]
/-- the cell that is drawn from -/
theorem pick_cell (Φ : Fns) (ns : List Int) (k : Nat) (m c r a d : SV) : ∃ x : Int, ev Φ (.ite (.cmp .ne (.var 0) (.lst [])) (.idx (.var 0) (.bin .mod (.var 1) (.blt .len [(.var 0)]))) (.cst (.int 0))) [sD (.list (ns.map .int)), sD (.int k), m, c, r, a, d] = .ok (im (.int x)) := by
  by_cases h : ns = []
  · subst h
    refine ⟨0, ?_⟩
    simp! only [ne_nil []]
    rfl
  · have hl := ev_one_ge h
    obtain ⟨x, hx⟩ := idx_int (ns := ns) (i := (k : Int) % ns.length) (Int.emod_nonneg _ (by omega)) (Int.emod_lt_of_pos _ hl)
    refine ⟨x, ?_⟩
    simp! only [ne_nil ns, len_l, List.length_map]
    have he : (!ns.isEmpty) = true := by cases ns with | nil => exact absurd rfl h | cons => rfl
    rw [he]
    simp! only [len_l, List.length_map, mod_ii _ hl, hx]
theorem pick_ok {P : String → Option Fn} (hP : P "_law_pick" = some dPick) (n F : Nat) (ns : List Int) (hs : ns.length ≤ 63) (k many : Nat) (hm : 0 < many) (hk : k < F) : ∃ r : Nat, r < many ∧ callF P F (n + 1) "_law_pick" [sD (.list (ns.map .int)), sD (.int k), sD (.int many)] = .ok (im (.int r)) := by
  have hm' : (0 : Int) < (many : Int) := by omega
  obtain ⟨x, hx⟩ := pick_cell (callF P F n) ns k (sD (.int many)) .un .un .un .un
  unfold callF
  rw [hP]
  show ∃ r : Nat, r < many ∧ gd true ((exs (callF P F n) F dPick.body [sD (.list (ns.map .int)), sD (.int k), sD (.int many), .un, .un, .un, .un]).bd fun fl => .ok (out fl)) = _
  unfold dPick
  have q1 : (0 : Int) < 1000000000000000000 ∧ (1000000000000000000 : Int) < 1180591620717411303424 := by decide
  have pw : binop .pow .im (.int 10) (.int 18) = .ok (im (.int 1000000000000000000)) := by rfl
  obtain ⟨q, hq, hq2⟩ : ∃ q : Nat, (k : Int) / (if (1 : Int) > (ns.length : Int) then 1 else (ns.length : Int)) = q ∧ q ≤ k := by
    have hd : (1 : Int) ≤ (if (1 : Int) > (ns.length : Int) then 1 else (ns.length : Int)) := by split <;> omega
    have h0 : 0 ≤ (k : Int) / (if (1 : Int) > (ns.length : Int) then 1 else (ns.length : Int)) := Int.ediv_nonneg (by omega) (by omega)
    have h1 : (k : Int) / (if (1 : Int) > (ns.length : Int) then 1 else (ns.length : Int)) ≤ k := Int.ediv_le_self _ (by omega)
    exact ⟨((k : Int) / (if (1 : Int) > (ns.length : Int) then 1 else (ns.length : Int))).toNat, by omega, by omega⟩
  have hd : (0 : Int) < (if (1 : Int) > (ns.length : Int) then 1 else (ns.length : Int)) ∧ (if (1 : Int) > (ns.length : Int) then 1 else (ns.length : Int)) < 1180591620717411303424 := by split <;> omega
  obtain ⟨r', a', hl⟩ := pick_loop (Φ := callF P F n) (F := F) (sD (.list (ns.map .int))) (sD (.int k)) (sD (.int many)) (sD (.int x)) .un q F (x / 1000000000000000000) (by omega)
  rw [exs_cons, ex_asg, hx]
  simp! only [ex_whl, pw, fdiv_ii _ q1, len_l, List.length_map, max2_ii, fdiv_ii _ hd, hq, hl]
  by_cases hr : 0 < r'
  · refine ⟨(r' % 840 % many).toNat, ?_, ?_⟩
    · have := Int.emod_lt_of_pos (r' % 840) hm'
      have := Int.emod_nonneg (r' % 840) (show (many : Int) ≠ 0 by omega)
      omega
    · have e : ((r' % 840 % many).toNat : Int) = r' % 840 % many := Int.toNat_of_nonneg (Int.emod_nonneg _ (by omega))
      simp only [hr, decide_true]
      simp! only [mod_ii _ (show (0 : Int) < 840 by decide), mod_ii _ hm', e]
  · have hr' : decide (0 < r') = false := decide_eq_false hr
    rw [hr']
    have b1 : ((-18446744073709551616 : Int) < 31 ∧ (31 : Int) < 18446744073709551616) := by decide
    have b2 : ((-18446744073709551616 : Int) < 6151 ∧ (6151 : Int) < 18446744073709551616) := by decide
    have b3 : ((-18446744073709551616 : Int) < 40692 ∧ (40692 : Int) < 18446744073709551616) := by decide
    generalize hD : (x * 31 + 6151 * ((k : Int) + 1)) * 40692 % 2147483399 = D
    have d0 : 0 ≤ D := by rw [← hD]; exact Int.emod_nonneg _ (by decide)
    have d1 : D < 2147483399 := by rw [← hD]; exact Int.emod_lt_of_pos _ (by decide)
    have b4 : (-18446744073709551616 < D ∧ D < 18446744073709551616) := by omega
    refine ⟨((D * D + D / 31) % 2147483629 % many).toNat, ?_, ?_⟩
    · have := Int.emod_lt_of_pos ((D * D + D / 31) % 2147483629) hm'
      have := Int.emod_nonneg ((D * D + D / 31) % 2147483629) (show (many : Int) ≠ 0 by omega)
      omega
    · have e : (((D * D + D / 31) % 2147483629 % many).toNat : Int) = (D * D + D / 31) % 2147483629 % many := Int.toNat_of_nonneg (Int.emod_nonneg _ (by omega))
      simp! only [mul_ii _ (.inr b1), mul_ii _ (.inl b2), mul_ii _ (.inr b3), mod_ii _ (show (0 : Int) < 2147483399 by decide), hD, mul_ii _ (.inl b4), fdiv_ii _ (show (0 : Int) < 31 ∧ (31 : Int) < 1180591620717411303424 by decide), mod_ii _ (show (0 : Int) < 2147483629 by decide), mod_ii _ hm', e]
end
end Tdl
/-! TpMake: a dictionary, drawn. -/
namespace Tdl
open PySem PySem.W
def WA : List Str := [Str.ofString "wa", Str.ofString "wb", Str.ofString "wc", Str.ofString "wd", Str.ofString "we", Str.ofString "wf"]
theorem WA_rise : Rise WA := risB_rise.mp (by decide +kernel)
theorem WA_good : ∀ w ∈ WA, goodW w = true := by decide +kernel
/-! ### indices -/
section
variable {α : Type} [DecidableEq α] [Datum α]
theorem place_nat {n i : Nat} (h : i < n) : place n (i : Int) = some i := by
  unfold place
  rw [if_pos (by omega), if_pos (by omega)]
  rfl
theorem idx_L (xs : List PyData) {i : Nat} (h : i < xs.length) : idxop (.list xs) (.int i) = .ok xs[i] := by
  show (match (place xs.length i).bind (xs[·]?) with | some x => Res.ok x | none => .err) = _
  rw [place_nat h]
  simp [h]
theorem idx_T (xs : List PyData) {i : Nat} (h : i < xs.length) : idxop (.tuple xs) (.int i) = .ok xs[i] := by
  show (match (place xs.length i).bind (xs[·]?) with | some x => Res.ok x | none => .err) = _
  rw [place_nat h]
  simp [h]
theorem idx_Lm {β : Type} (g : β → PyData) (xs : List β) {i : Nat} (h : i < xs.length) : idxop (.list (xs.map g)) (.int i) = .ok (g xs[i]) := by
  rw [idx_L _ (by rw [List.length_map]; exact h), List.getElem_map]
theorem idx_Tm {β : Type} (g : β → PyData) (xs : List β) {i : Nat} (h : i < xs.length) : idxop (.tuple (xs.map g)) (.int i) = .ok (g xs[i]) := by
  rw [idx_T _ (by rw [List.length_map]; exact h), List.getElem_map]
/-! ### each once -/
def onceT : List α → List α
  | [] => []
  | x :: r => if x ∈ r then onceT r else x :: onceT r
theorem onceT_mem {a : α} : ∀ {xs : List α}, a ∈ onceT xs ↔ a ∈ xs
  | [] => Iff.rfl
  | x :: r => by
    unfold onceT
    split
    · rename_i h
      rw [onceT_mem, List.mem_cons]
      exact ⟨.inr, fun c => c.elim (fun e => by rw [e]; exact h) id⟩
    · rw [List.mem_cons, onceT_mem, List.mem_cons]
theorem onceT_nodup : ∀ (xs : List α), (onceT xs).Nodup
  | [] => List.nodup_nil
  | x :: r => by
    unfold onceT
    split
    · exact onceT_nodup r
    · rename_i h
      exact List.nodup_cons.mpr ⟨fun c => h (onceT_mem.mp c), onceT_nodup r⟩
theorem onceT_len : ∀ (xs : List α), (onceT xs).length ≤ xs.length
  | [] => Nat.le_refl _
  | x :: r => by
    unfold onceT
    split
    · exact Nat.le_succ_of_le (onceT_len r)
    · exact Nat.succ_le_succ (onceT_len r)
theorem onceD_map : ∀ (xs : List α), onceD (xs.map toD) = (onceT xs).map toD
  | [] => rfl
  | x :: r => by
    have e : ((r.map toD).any fun y => PyData.eqv y (toD x)) = decide (x ∈ r) := any_datum r x
    rw [List.map_cons]
    unfold onceD onceT
    rw [e, onceD_map r]
    by_cases h : x ∈ r
    · rw [decide_eq_true h, if_pos rfl, if_pos h]
    · rw [decide_eq_false h, if_neg (by decide), if_neg h]
      rfl
end
/-- hashable, not deep -/
class Hk (α : Type) [DecidableEq α] [Datum α] : Prop where
  hk : ∀ a : α, hdk (toD a) = true
  dp : Datum.depth α ≤ 6
theorem hdks_map {α : Type} {g : α → PyData} (h : ∀ a, hdk (g a) = true) : ∀ xs : List α, hdks (xs.map g) = true
  | [] => by simp [hdks]
  | x :: r => by
    rw [List.map_cons]
    unfold hdks
    rw [h x, hdks_map h r]
    rfl
instance : Hk Str := ⟨fun _ => by unfold hdk; rfl, by decide⟩
theorem hdk_lot (l : Lot) : hdk (toD l) = true := by
  show hdk (.tuple (l.items.map toD)) = true
  unfold hdk
  exact hdks_map (fun w => by unfold hdk; rfl) l.items
instance : Hk Lot := ⟨hdk_lot, by decide⟩
instance : Hk Les := ⟨fun p => by
  show hdk (.tuple [toD p.1, toD p.2]) = true
  unfold hdk hdks hdks hdks
  rw [hdk_lot, hdk_lot]
  rfl, by decide⟩
theorem b_sset {α : Type} [DecidableEq α] [DatumOrd α] [Sh α] [Hk α] (xs : List α) (hl : xs.length < 64) : bltop .sset [.list (xs.map toD)] = .ok (ow (.list ((sortT (onceT xs)).map toD))) := by
  show gd (okSet (xs.map toD)) (.ok (ow (.list (srtD (onceD (xs.map toD)))))) = _
  have e : okSet (xs.map toD) = true := by
    unfold okSet
    rw [List.length_map, decide_eq_true hl, alikes_d, hdks_map Hk.hk]
    simp only [Bool.and_self, Bool.true_and, List.all_eq_true]
    intro d hd
    obtain ⟨a, _, rfl⟩ := List.mem_map.mp hd
    exact decide_eq_true (Nat.le_trans (Datum.depth_le a) Hk.dp)
  rw [e, onceD_map, srtD_map]
  rfl
/-! ### a loop over a range -/
section
variable {Φ : Fns} {F : Nat}
theorem w_r1 {n : Nat} (h : n < 1000000) : walkop .r1 [.int (n : Int)] = .ok ((List.range n).map fun (i : Nat) => PyData.int i) := by
  have e : smI 1000000 (n : Int) = true := smI_iff.mpr ⟨by omega, by omega⟩
  simp only [walkop, e, gd_true, Int.toNat_natCast]
/-- a range's walk, sealed: the kernel is not to look at the test of its size -/
theorem hs_r1 {src : List Ex} {env : Env} {n : Nat} (h : wsrc .r1 (evl Φ src env) (evs Φ src env) = .ok [.int (n : Int)]) (hn : n < 1000000) : (wsrc .r1 (evl Φ src env) (evs Φ src env)).bd (walkop .r1) = .ok ((List.range n).map fun (i : Nat) => PyData.int i) := by
  rw [h, bd_ok, w_r1 hn]
theorem ex_r1 {t : Tg} {src : List Ex} {b : List Stm} {env : Env} {n : Nat} (h : evs Φ src (frzL src env) = .ok [.int (n : Int)]) (hn : n < 1000000) : ex Φ F (.for_ t .r1 src b) env = loopF t (exs Φ F b) ((List.range n).map fun (i : Nat) => PyData.int i) (frzL src env) := by
  rw [ex_for, h, bd_ok, w_r1 hn, bd_ok]
theorem loopF_rng' {t : Tg} {body : Env → Res Flow} (R : Nat → Env → Prop) : ∀ (n k : Nat) (env : Env), R k env → (∀ j env, k ≤ j → j < k + n → R j env → ∃ env', (bindT t (.int j) env).bd body = .ok (.nx env') ∧ R (j + 1) env') →
    ∃ env', loopF t body ((List.range' k n).map fun (i : Nat) => PyData.int i) env = .ok (.nx env') ∧ R (k + n) env'
  | 0, k, env, r, _ => ⟨env, rfl, r⟩
  | n + 1, k, env, r, h => by
    obtain ⟨e1, q1, q2⟩ := h k env (Nat.le_refl _) (by omega) r
    obtain ⟨e2, q3, q4⟩ := loopF_rng' R n (k + 1) e1 q2 fun j env h1 h2 => h j env (by omega) (by omega)
    refine ⟨e2, ?_, by rw [show k + (n + 1) = k + 1 + n by omega]; exact q4⟩
    rw [List.range'_succ, List.map_cons, loopF_cons]
    cases e : bindT t (.int (k : Int)) env with
    | ok e0 =>
      rw [e, bd_ok] at q1
      rw [bd_ok, q1, bd_ok, kF_nx]
      exact q3
    | exc c => rw [e] at q1; cases q1
    | err => rw [e] at q1; cases q1
theorem loopF_rng {t : Tg} {body : Env → Res Flow} (R : Nat → Env → Prop) (n : Nat) (env : Env) (r : R 0 env) (h : ∀ j env, j < n → R j env → ∃ env', (bindT t (.int j) env).bd body = .ok (.nx env') ∧ R (j + 1) env') :
    ∃ env', loopF t body ((List.range n).map fun (i : Nat) => PyData.int i) env = .ok (.nx env') ∧ R n env' := by
  have := loopF_rng' R n 0 env r fun j env _ h2 => h j env (by omega)
  rw [Nat.zero_add] at this
  rw [List.range_eq_range']
  exact this
/-- a comprehension whose turns give something of a kind -/
theorem lc_ex {β α : Type} {own : List (String × Nat)} {tg : Tg} {k : Wk} {src : List Ex} {elt : Ex} {env : Env} {xs : List β} {g : β → PyData} {h : α → PyData} {Q : α → Prop} (hs : (wsrc k (evl Φ src env) (evs Φ src env)).bd (walkop k) = .ok (xs.map g)) (hl : xs.length ≤ LIM)
    (ht : ∀ x ∈ xs, ∃ a, lcT Φ own tg .nil elt env (g x) = .ok (some (h a)) ∧ Q a) : ∃ ys : List α, ev Φ (.lc own tg k src .nil elt) env = .ok (ow (.list (ys.map h))) ∧ ys.length = xs.length ∧ ∀ a ∈ ys, Q a := by
  classical
  by_cases hx : xs = []
  · subst hx
    refine ⟨[], ?_, rfl, fun a ha => by cases ha⟩
    exact lc_fm (p := fun _ => (none : Option α)) (h := h) hs hl fun x hx => by cases hx
  · obtain ⟨x0, hx0⟩ := List.exists_mem_of_ne_nil xs hx
    obtain ⟨a0, _, _⟩ := ht x0 hx0
    let q : β → α := fun x => if c : ∃ a, lcT Φ own tg .nil elt env (g x) = .ok (some (h a)) ∧ Q a then Classical.choose c else a0
    have hq : ∀ x ∈ xs, lcT Φ own tg .nil elt env (g x) = .ok (some (h (q x))) ∧ Q (q x) := fun x hx => by
      have c := ht x hx
      show lcT Φ own tg .nil elt env (g x) = .ok (some (h (dite _ _ _))) ∧ Q (dite _ _ _)
      rw [dif_pos c]
      exact Classical.choose_spec c
    refine ⟨xs.map q, lc_map (q := q) hs hl fun x hx => (hq x hx).1, List.length_map _, fun a ha => ?_⟩
    obtain ⟨x, hx, rfl⟩ := List.mem_map.mp ha
    exact (hq x hx).2
end
end Tdl
/-! TpMak2: a dictionary, drawn. -/
namespace Tdl
open PySem PySem.W
/-- a lot of words some of which were drawn -/
def drawn (xs : List Str) : List Str := sortT (onceT xs)
theorem drawn_mem {xs : List Str} {w : Str} : w ∈ drawn xs ↔ w ∈ xs := by unfold drawn; rw [sortT_mem, onceT_mem]
theorem drawn_lot {ws xs : List Str} (h : ∀ w ∈ xs, w ∈ ws) : LotOf ws (drawn xs) := ⟨sortT_rise (onceT_nodup xs), fun w hw => h w (drawn_mem.mp hw)⟩
theorem drawn_ne {xs : List Str} (h : xs ≠ []) : drawn xs ≠ [] := by
  obtain ⟨w, hw⟩ := List.exists_mem_of_ne_nil xs h
  intro e
  have := drawn_mem.mpr hw
  rw [e] at this
  cases this
/-- a drawn lesson -/
def LesOf (ws : List Str) (p : Les) : Prop := LotOf ws p.1.items ∧ LotOf ws p.2.items ∧ p.2.items ≠ []
theorem slcWA : ∀ r : Nat, r < 5 → slcop (.tuple (WA.map toD)) none (some (2 + (r : Int))) = .ok (im (lD (WA.take (2 + r))))
  | 0, _ => rfl
  | 1, _ => rfl
  | 2, _ => rfl
  | 3, _ => rfl
  | 4, _ => rfl
  | r + 5, h => absurd h (by omega)
theorem manys : ∀ r : Nat, r < 6 → ∃ m : Nat, m ≤ 3 ∧ idxop (.list [.int 0, .int 1, .int 1, .int 2, .int 2, .int 3]) (.int (r : Int)) = .ok (.int (m : Int))
  | 0, _ => ⟨0, by decide, rfl⟩
  | 1, _ => ⟨1, by decide, rfl⟩
  | 2, _ => ⟨1, by decide, rfl⟩
  | 3, _ => ⟨2, by decide, rfl⟩
  | 4, _ => ⟨2, by decide, rfl⟩
  | 5, _ => ⟨3, by decide, rfl⟩
  | r + 6, h => absurd h (by omega)
theorem m_app {xs : List PyData} {x : PyData} (h : xs.length < LIM) : mutop .app (.list xs) [x] = .ok (.list (xs ++ [x])) := by
  show gd (decide _) _ = _
  rw [decide_eq_true h]
  rfl
theorem g_app (xs : List PyData) : mutG .app (.list xs) = true := rfl
theorem g_ext (xs : List PyData) : mutG .ext (.list xs) = true := rfl
theorem m_ext {xs ys : List PyData} (h : xs.length + ys.length ≤ LIM) : mutop .ext (.list xs) [.list ys] = .ok (.list (xs ++ ys)) := by
  show gd (decide _) _ = _
  rw [decide_eq_true h]
  rfl
section
variable {P : String → Option Fn} {F : Nat}
theorem pick_i (hp : P "_law_pick" = some dPick) {n : Nat} (hn : 1 ≤ n) (ns : List Int) (hs : ns.length ≤ 63) (k many : Nat) (hm : 0 < many) (hk : k < F) (i j : Int) (hi : i = k) (hj : j = many) : ∃ r : Nat, r < many ∧ callF P F n "_law_pick" [sD (.list (ns.map .int)), sD (.int i), sD (.int j)] = .ok (im (.int r)) := by
  obtain ⟨m, rfl, _⟩ := num hn (by decide)
  subst hi
  subst hj
  exact pick_ok hp m F ns hs k many hm hk
abbrev dBody : List Stm := [
      .asg (.nm 7) false (.bin .add (.bin .add (.var 1) (.cst (.int 10))) (.bin .mul (.cst (.int 9)) (.var 6))),
      .asg (.nm 8) false (.idx (.lst [(.cst (.int 0)), (.cst (.int 1)), (.cst (.int 1)), (.cst (.int 2)), (.cst (.int 2)), (.cst (.int 3))]) (.call "_law_pick" [(.var 0), (.var 7), (.cst (.int 6))])),
      .asg (.nm 9) false (.lc [("_law_j", 10)] (.nm 10) .r1 [(.var 8)] .nil (.idx (.var 4) (.call "_law_pick" [(.var 0), (.bin .add (.bin .add (.var 7) (.cst (.int 1))) (.var 10)), (.blt .len [(.var 4)])]))),
      .asg (.nm 11) false (.lc [("_law_j", 10)] (.nm 10) .r1 [(.bin .add (.cst (.int 1)) (.call "_law_pick" [(.var 0), (.bin .add (.var 7) (.cst (.int 8))), (.cst (.int 2))]))] .nil (.idx (.var 4) (.call "_law_pick" [(.var 0), (.bin .add (.bin .add (.var 7) (.cst (.int 5))) (.var 10)), (.blt .len [(.var 4)])]))),
      .mut .app 5 [(.tup [(.blt .tuple [(.blt .sset [(.var 9)])]), (.blt .tuple [(.blt .sset [(.var 11)])])])]]
theorem dict_turn (hp : P "_law_pick" = some dPick) {m : Nat} (hm : 1 ≤ m) (ns : List Int) (hs : ns.length ≤ 63) (a t l : Nat) (W : List Str) (hW0 : 0 < W.length) (j : Nat) (hj : j ≤ 12) (hF : a + 200 < F) (found : List Les) (hf : found.length = j) (hg : ∀ p ∈ found, LesOf W p) (x0 x1 x2 x3 x4 x5 : SV) :
    ∃ (p : Les) (y1 y2 y3 y4 y5 : SV), LesOf W p ∧ exs (callF P F m) F dBody [sD (.list (ns.map .int)), sD (.int (a : Int)), sD (.int (t : Int)), sD (.int (l : Int)), sD (lD W), .rv (ow (.list (found.map toD))), sD (.int (j : Int)), x1, x2, x3, x4, x5] = .ok (.nx [sD (.list (ns.map .int)), sD (.int (a : Int)), sD (.int (t : Int)), sD (.int (l : Int)), sD (lD W), .rv (ow (.list ((found ++ [p]).map toD))), sD (.int (j : Int)), y1, y2, y3, y4, y5]) := by
  have draw : ∀ (k : Nat) (i : Int), i = k → k < F → ∃ w, w ∈ W ∧ ((callF P F m "_law_pick" [sD (.list (ns.map .int)), sD (.int i), sD (.int (W.length : Int))]).bd fun y => (idxop (lD W) y.d).bd fun z => .ok (im z)) = .ok (im (toD w)) := fun k i hi hk => by
    obtain ⟨r1, h1, e1⟩ := pick_i (F := F) hp hm ns hs k W.length hW0 hk i (W.length : Int) hi rfl
    refine ⟨W[r1], List.getElem_mem h1, ?_⟩
    rw [e1, bd_ok, idx_Tm toD W h1]
    rfl
  have hh : (a : Int) + 10 + 9 * (j : Int) = ((a + 10 + 9 * j : Nat) : Int) := by omega
  have hmul := mul_ii .im (i := 9) (j := (j : Int)) (.inl (by decide))
  obtain ⟨r2, hr2, er2⟩ := pick_i (F := F) hp hm ns hs (a + 10 + 9 * j) 6 (by decide) (by omega) ((a + 10 + 9 * j : Nat) : Int) 6 rfl rfl
  obtain ⟨my, hmy, emy⟩ := manys r2 hr2
  obtain ⟨r3, hr3, er3⟩ := pick_i (F := F) hp hm ns hs (a + 10 + 9 * j + 8) 2 (by decide) (by omega) (((a + 10 + 9 * j : Nat) : Int) + 8) 2 (by omega) rfl
  have hHF : a + 10 + 9 * j + 20 < F := by omega
  generalize a + 10 + 9 * j = H at *
  have en := lc_ex (Φ := callF P F m) (own := [("_law_j", 10)]) (tg := .nm 10) (k := .r1) (src := [(.var 8)]) (elt := .idx (.var 4) (.call "_law_pick" [(.var 0), (.bin .add (.bin .add (.var 7) (.cst (.int 1))) (.var 10)), (.blt .len [(.var 4)])])) (env := [sD (.list (ns.map .int)), sD (.int (a : Int)), sD (.int (t : Int)), sD (.int (l : Int)), sD (lD W), .rv (ow (.list (found.map toD))), sD (.int (j : Int)), sD (.int (H : Int)), sD (.int (my : Int)), x3, x4, x5])
    (xs := List.range my) (g := fun i : Nat => PyData.int i) (h := fun w : Str => toD w) (Q := fun w => w ∈ W) (hs_r1 (by simp! only []) (by omega)) (by rw [List.length_range]; unfold LIM; omega) fun x hx => by
      have hx' := List.mem_range.mp hx
      obtain ⟨w, hw, ew⟩ := draw (H + 1 + x) ((H : Int) + 1 + (x : Int)) (by omega) (by omega)
      refine ⟨w, ?_, hw⟩
      rw [lcT_nil]
      simp! only [b_lenT, List.length_map, ew]
  obtain ⟨need, en, ln, gn⟩ := en
  have et := lc_ex (Φ := callF P F m) (own := [("_law_j", 10)]) (tg := .nm 10) (k := .r1) (src := [(.bin .add (.cst (.int 1)) (.call "_law_pick" [(.var 0), (.bin .add (.var 7) (.cst (.int 8))), (.cst (.int 2))]))]) (elt := .idx (.var 4) (.call "_law_pick" [(.var 0), (.bin .add (.bin .add (.var 7) (.cst (.int 5))) (.var 10)), (.blt .len [(.var 4)])])) (env := [sD (.list (ns.map .int)), sD (.int (a : Int)), sD (.int (t : Int)), sD (.int (l : Int)), sD (lD W), .rv (ow (.list (found.map toD))), sD (.int (j : Int)), sD (.int (H : Int)), sD (.int (my : Int)), sD (.list (need.map toD)), x4, x5])
    (xs := List.range (1 + r3)) (g := fun i : Nat => PyData.int i) (h := fun w : Str => toD w) (Q := fun w => w ∈ W) (hs_r1 (by
      simp! only [er3]
      rw [show (1 : Int) + (r3 : Int) = ((1 + r3 : Nat) : Int) by omega]) (by omega)) (by rw [List.length_range]; unfold LIM; omega) fun x hx => by
      have hx' := List.mem_range.mp hx
      obtain ⟨w, hw, ew⟩ := draw (H + 5 + x) ((H : Int) + 5 + (x : Int)) (by omega) (by omega)
      refine ⟨w, ?_, hw⟩
      rw [lcT_nil]
      simp! only [b_lenT, List.length_map, ew]
  obtain ⟨tg, et, lt, gt⟩ := et
  rw [List.length_range] at ln lt
  have s1 := b_sset need (by omega)
  have s2 := b_sset tg (by omega)
  have tne : tg ≠ [] := by intro e; rw [e, List.length_nil] at lt; omega
  refine ⟨(⟨drawn need⟩, ⟨drawn tg⟩), sD (.int (H : Int)), sD (.int (my : Int)), sD (.list (need.map toD)), x4, sD (.list (tg.map toD)), ⟨drawn_lot gn, drawn_lot gt, drawn_ne tne⟩, ?_⟩
  have ap := fun x => m_app (xs := found.map toD) (x := x) (by rw [List.length_map]; unfold LIM; omega)
  simp! only [hmul, hh, er2, emy, en, et, s1, s2, b_tupL, g_app, ap, List.map_append]
  rfl
theorem law_dictionary_ok (hp : P "_law_pick" = some dPick) (hd : P "_law_dictionary" = some A.law_dictionary_k50) {n : Nat} (hn : 2 ≤ n) (ns : List Int) (hs : ns.length ≤ 63) (a t l : Nat) (ht : 2 ≤ t ∧ t ≤ 6) (hl : l ≤ 12) (hF : a + 200 < F) :
    ∃ k ls, 2 ≤ k ∧ k ≤ t ∧ WfD (WA.take k) ls ∧ ls.length ≤ l ∧ callF P F n "_law_dictionary" [sD (.list (ns.map .int)), sD (.int (a : Int)), sD (.int (t : Int)), sD (.int (l : Int))] = .ok (im (dD (WA.take k) ls)) := by
  obtain ⟨m, rfl, hm⟩ := num hn (by decide)
  rw [callF_s hd rfl]
  show ∃ k ls, _ ∧ _ ∧ _ ∧ _ ∧ (exs (callF P F m) F A.law_dictionary_k50.body [sD (.list (ns.map .int)), sD (.int (a : Int)), sD (.int (t : Int)), sD (.int (l : Int)), .un, .un, .un, .un, .un, .un, .un, .un]).bd _ = _
  unfold A.law_dictionary_k50
  obtain ⟨r, hr, er⟩ := pick_i (F := F) hp hm ns hs a (t - 1) (by omega) (by omega) (a : Int) ((t : Int) - 1) rfl (by omega)
  have es : slcop (.tuple [.str (Str.ofString "wa"), .str (Str.ofString "wb"), .str (Str.ofString "wc"), .str (Str.ofString "wd"), .str (Str.ofString "we"), .str (Str.ofString "wf")]) none (some (2 + (r : Int))) = .ok (im (lD (WA.take (2 + r)))) := slcWA r (by omega)
  obtain ⟨q, hq, eq⟩ := pick_i (F := F) hp hm ns hs (a + 1) (l + 1) (by omega) (by omega) ((a : Int) + 1) ((l : Int) + 1) (by omega) (by omega)
  have hWl : (WA.take (2 + r)).length = 2 + r := by rw [List.length_take]; exact Nat.min_eq_left (show 2 + r ≤ 6 by omega)
  have hWr : Rise (WA.take (2 + r)) := List.Pairwise.sublist (List.take_sublist _ _) WA_rise
  have hWg : ∀ w ∈ WA.take (2 + r), goodW w = true := fun w hw => WA_good w (List.mem_of_mem_take hw)
  suffices h : ∃ ls, WfD (WA.take (2 + r)) ls ∧ ls.length ≤ l ∧ _ from
    h.elim fun ls h => ⟨2 + r, ls, by omega, by omega, h.1, h.2.1, h.2.2⟩
  generalize WA.take (2 + r) = W at *
  have loop := loopF_rng (t := .nm 6) (body := exs (callF P F m) F dBody)
    (fun j e => ∃ (found : List Les) (x0 x1 x2 x3 x4 x5 : SV), found.length = j ∧ (∀ p ∈ found, LesOf W p) ∧ e = [sD (.list (ns.map .int)), sD (.int (a : Int)), sD (.int (t : Int)), sD (.int (l : Int)), sD (lD W), .rv (ow (.list (found.map toD))), x0, x1, x2, x3, x4, x5])
    q [sD (.list (ns.map .int)), sD (.int (a : Int)), sD (.int (t : Int)), sD (.int (l : Int)), sD (lD W), .rv (ow (.list [])), .un, .un, .un, .un, .un, .un] ⟨[], _, _, _, _, _, _, rfl, (fun p hp => by cases hp), rfl⟩ fun j e hj ⟨found, x0, x1, x2, x3, x4, x5, hf, hg, he⟩ => by
      subst he
      obtain ⟨p, y1, y2, y3, y4, y5, h1, h2⟩ := dict_turn hp hm ns hs a t l W (by omega) j (by omega) hF found hf hg x0 x1 x2 x3 x4 x5
      refine ⟨_, ?_, found ++ [p], sD (.int (j : Int)), y1, y2, y3, y4, y5, by rw [List.length_append, hf]; rfl, fun p' hp' => ?_, rfl⟩
      · rw [← h2]
        rfl
      · rcases List.mem_append.mp hp' with h | h
        · exact hg p' h
        · rw [List.mem_singleton] at h
          subst h
          exact h1
  obtain ⟨e', q1, found, x0, x1, x2, x3, x4, x5, hf, hg, rfl⟩ := loop
  have s3 := b_sset found (by omega)
  refine ⟨sortT (onceT found), ?_, by rw [(sortT_perm _).length_eq]; exact Nat.le_trans (onceT_len found) (by omega), ?_⟩
  · exact {
      rise := hWr
      few := by omega
      fewL := by rw [(sortT_perm _).length_eq]; exact Nat.le_trans (onceT_len found) (by omega)
      good := hWg
      one := by intro e; rw [e, List.length_nil] at hWl; omega
      need := fun p hp => (hg p (onceT_mem.mp (sortT_mem.mp hp))).1
      taught := fun p hp => (hg p (onceT_mem.mp (sortT_mem.mp hp))).2
      riseL := sortT_rise (onceT_nodup found) }
  · rw [exs_cons, ex_asg]
    simp! only [er, es]
    rw [ex_r1 (n := q) (by simp! only [eq]) (by omega)]
    simp! only [q1, s3, b_tupL]
end
end Tdl
/-! TpLots: all lots. -/
namespace Tdl
open PySem PySem.W
/-! ### a drawn dictionary is one -/
theorem goodIn_map {ws l : List Str} (h : ∀ w ∈ l, w ∈ ws) (g : ∀ w ∈ ws, goodW w = true) : (l.map toD).all (goodIn ws) = true := by
  rw [List.all_eq_true]
  intro d hd
  obtain ⟨w, hw, rfl⟩ := List.mem_map.mp hd
  show (goodW w && decide (w ∈ ws)) = true
  rw [g w (h w hw), decide_eq_true (h w hw)]
  rfl
theorem part_ok {ws l : List Str} (h : LotOf ws l) (g : ∀ w ∈ ws, goodW w = true) : isPartD ws (lD l) = true := by
  show ((l.map toD).all (goodIn ws) && risB (txts (l.map toD))) = true
  rw [goodIn_map h.sub g, txts_map, risB_rise.mpr h.rise]
  rfl
theorem words_map {ws : List Str} (g : ∀ w ∈ ws, goodW w = true) : (ws.map toD).all isWordD = true := by
  rw [List.all_eq_true]
  intro d hd
  obtain ⟨w, hw, rfl⟩ := List.mem_map.mp hd
  exact g w hw
theorem lesOf_toD (p : Les) : lesOf (toD p) = p := by
  show ((⟨txts (p.1.items.map toD)⟩, ⟨txts (p.2.items.map toD)⟩) : Les) = p
  rw [txts_map, txts_map]
theorem lesson_ok {ws : List Str} {p : Les} (h1 : LotOf ws p.1.items) (h2 : LotOf ws p.2.items) (h3 : p.2.items ≠ []) (g : ∀ w ∈ ws, goodW w = true) : isLessonD ws (toD p) = true := by
  obtain ⟨⟨a⟩, ⟨b⟩⟩ := p
  cases b with
  | nil => exact absurd rfl h3
  | cons w l =>
    show ((isPartD ws (lD a) && isPartD ws (lD (w :: l))) && true) = true
    rw [part_ok h1 g, part_ok h2 g]
    rfl
theorem wf_dict {ws : List Str} {ls : List Les} (h : WfD ws ls) : isDictD (dD ws ls) = true := by
  have hp : 1 ≤ ws.length := by
    cases e : ws with
    | nil => exact absurd e h.one
    | cons w l => simp
  have hl : (ls.map toD).all (isLessonD ws) = true := by
    rw [List.all_eq_true]
    intro d hd
    obtain ⟨p, hp, rfl⟩ := List.mem_map.mp hd
    exact lesson_ok (h.need p hp) (h.taught p hp).1 (h.taught p hp).2 h.good
  have hm : (ls.map toD).map lesOf = ls := by
    rw [List.map_map]
    have : (lesOf ∘ toD : Les → Les) = id := by funext p; exact lesOf_toD p
    rw [this, List.map_id]
  show (((((decide (1 ≤ (ws.map toD).length) && decide ((ws.map toD).length ≤ 8)) && ((ws.map toD).all isWordD && risB (txts (ws.map toD)))) && (decide ((ls.map toD).length ≤ 12) && (ls.map toD).all (isLessonD (txts (ws.map toD)))))) && risB ((ls.map toD).map lesOf)) = true
  rw [List.length_map, List.length_map, words_map h.good, txts_map, hl, hm, risB_rise.mpr h.rise, risB_rise.mpr h.riseL, decide_eq_true hp, decide_eq_true h.few, decide_eq_true h.fewL]
  rfl
theorem okSs_map {α : Type} {g : α → PyData} : ∀ {xs : List α}, (∀ x ∈ xs, okS (g x) = true) → okSs (xs.map g) = true
  | [], _ => by simp [okSs]
  | x :: r, h => by
    rw [List.map_cons]
    unfold okSs
    rw [h x List.mem_cons_self, okSs_map fun y hy => h y (List.mem_cons_of_mem _ hy)]
    rfl
theorem good_len {w : Str} (h : goodW w = true) : w.length ≤ 6 := by
  unfold goodW at h
  simp only [Bool.and_eq_true, decide_eq_true_eq] at h
  exact h.1.2
theorem okS_str {w : Str} (h : w.length ≤ 6) : okS (toD w) = true := by
  show okS (.str w) = true
  unfold okS
  exact decide_eq_true (Nat.le_trans h (by decide))
theorem okS_tup {α : Type} {g : α → PyData} {xs : List α} (hl : xs.length ≤ 1000) (h : ∀ x ∈ xs, okS (g x) = true) : okS (.tuple (xs.map g)) = true := by
  unfold okS
  rw [List.length_map, decide_eq_true hl, okSs_map h]
  rfl
theorem okS_list {α : Type} {g : α → PyData} {xs : List α} (hl : xs.length ≤ 1000) (h : ∀ x ∈ xs, okS (g x) = true) : okS (.list (xs.map g)) = true := by
  unfold okS
  rw [List.length_map, decide_eq_true hl, okSs_map h]
  rfl
theorem okS_lot {ws l : List Str} (h : LotOf ws l) (hw : ws.length ≤ 1000) (g : ∀ w ∈ ws, goodW w = true) : okS (lD l) = true := okS_tup (Nat.le_trans h.len hw) fun w hw => okS_str (good_len (g w (h.sub w hw)))
theorem okS_two {a b : PyData} (ha : okS a = true) (hb : okS b = true) : okS (.tuple [a, b]) = true := by
  unfold okS
  simp only [okSs, ha, hb]
  rfl
theorem okS_les {ws : List Str} {p : Les} (h1 : LotOf ws p.1.items) (h2 : LotOf ws p.2.items) (hw : ws.length ≤ 1000) (g : ∀ w ∈ ws, goodW w = true) : okS (toD p) = true := okS_two (okS_lot h1 hw g) (okS_lot h2 hw g)
theorem wf_okS {ws : List Str} {ls : List Les} (h : WfD ws ls) : okS (dD ws ls) = true := by
  have hw : ws.length ≤ 1000 := Nat.le_trans h.few (by decide)
  exact okS_two (okS_tup hw fun w hw => okS_str (good_len (h.good w hw))) (okS_tup (Nat.le_trans h.fewL (by decide)) fun p hp => okS_les (h.need p hp) (h.taught p hp).1 hw h.good)
/-! ### lots of a size -/
/-- a loop by its index -/
theorem loopF_idx {β : Type} {g : β → PyData} {t : Tg} {body : Env → Res Flow} (xs : List β) (R : Nat → Env → Prop) (h : ∀ j (hj : j < xs.length) env, R j env → ∃ env', (bindT t (g xs[j]) env).bd body = .ok (.nx env') ∧ R (j + 1) env') :
    ∀ (n k : Nat) (env : Env), n + k = xs.length → R k env → ∃ env', loopF t body ((xs.drop k).map g) env = .ok (.nx env') ∧ R xs.length env'
  | 0, k, env, e, r => by
    have : xs.drop k = [] := List.drop_eq_nil_of_le (by omega)
    rw [this]
    exact ⟨env, rfl, by rw [← e, Nat.zero_add]; exact r⟩
  | n + 1, k, env, e, r => by
    have hk : k < xs.length := by omega
    obtain ⟨e1, q1, q2⟩ := h k hk env r
    obtain ⟨e2, q3, q4⟩ := loopF_idx xs R h n (k + 1) e1 (by omega) q2
    refine ⟨e2, ?_, q4⟩
    rw [List.drop_eq_getElem_cons hk, List.map_cons, loopF_cons]
    cases e : bindT t (g xs[k]) env with
    | ok e0 =>
      rw [e, bd_ok] at q1
      rw [bd_ok, q1, bd_ok, kF_nx]
      exact q3
    | exc c => rw [e] at q1; cases q1
    | err => rw [e] at q1; cases q1
def lotsIn (ws : List Str) : Nat → List (List Str)
  | 0 => [[]]
  | m + 1 => (List.range ws.length).flatMap fun i => (lotsIn (ws.drop (i + 1)) m).map (ws.getD i default :: ·)
def preL (ws : List Str) (m j : Nat) : List (List Str) := (List.range j).flatMap fun i => (lotsIn (ws.drop (i + 1)) m).map (ws.getD i default :: ·)
theorem preL_succ (ws : List Str) (m j : Nat) : preL ws m (j + 1) = preL ws m j ++ (lotsIn (ws.drop (j + 1)) m).map (ws.getD j default :: ·) := by
  unfold preL
  rw [List.range_succ, List.flatMap_append]
  simp
theorem preL_all (ws : List Str) (m : Nat) : lotsIn ws (m + 1) = preL ws m ws.length := rfl
theorem lotsIn_len : ∀ (m : Nat) (ws : List Str), (lotsIn ws m).length ≤ 2 ^ ws.length
  | 0, ws => Nat.pos_of_ne_zero (by simp)
  | m + 1, ws => by
    have key : ∀ j, j ≤ ws.length → (preL ws m j).length + 2 ^ (ws.length - j) ≤ 2 ^ ws.length := by
      intro j
      induction j with
      | zero => intro _; simp [preL]
      | succ j ih =>
        intro hj
        have h1 := ih (by omega)
        have h2 := lotsIn_len m (ws.drop (j + 1))
        rw [List.length_drop] at h2
        rw [preL_succ, List.length_append, List.length_map]
        have e : ws.length - j = (ws.length - (j + 1)) + 1 := by omega
        rw [e, Nat.pow_succ] at h1
        omega
    have := key ws.length (Nat.le_refl _)
    rw [preL_all]
    exact Nat.le_trans (Nat.le_add_right _ _) this
theorem preL_len (ws : List Str) (m j : Nat) (hj : j ≤ ws.length) : (preL ws m j).length ≤ 2 ^ ws.length := by
  have key : ∀ j, j ≤ ws.length → (preL ws m j).length + 2 ^ (ws.length - j) ≤ 2 ^ ws.length := by
    intro j
    induction j with
    | zero => intro _; simp [preL]
    | succ j ih =>
      intro hj
      have h1 := ih (by omega)
      have h2 := lotsIn_len m (ws.drop (j + 1))
      rw [List.length_drop] at h2
      rw [preL_succ, List.length_append, List.length_map]
      have e : ws.length - j = (ws.length - (j + 1)) + 1 := by omega
      rw [e, Nat.pow_succ] at h1
      omega
  exact Nat.le_trans (Nat.le_add_right _ _) (key j hj)
theorem lotsIn_mem : ∀ (m : Nat) {ws l : List Str}, l ∈ lotsIn ws m ↔ l.Sublist ws ∧ l.length = m
  | 0, ws, l => by
    constructor
    · intro h
      rw [List.mem_singleton.mp h]
      exact ⟨List.nil_sublist _, rfl⟩
    · rintro ⟨_, h⟩
      rw [List.length_eq_zero_iff.mp h]
      exact List.mem_singleton.mpr rfl
  | m + 1, ws, l => by
    unfold lotsIn
    rw [List.mem_flatMap]
    constructor
    · rintro ⟨i, hi, h⟩
      have hi := List.mem_range.mp hi
      obtain ⟨l', hl', rfl⟩ := List.mem_map.mp h
      obtain ⟨h1, h2⟩ := (lotsIn_mem m).mp hl'
      refine ⟨?_, by rw [List.length_cons, h2]⟩
      have e : ws.getD i default = ws[i] := by simp [List.getD, hi]
      rw [e]
      have h3 : (ws[i] :: l').Sublist (ws[i] :: ws.drop (i + 1)) := List.Sublist.cons₂ _ h1
      rw [← List.drop_eq_getElem_cons hi] at h3
      exact h3.trans (List.drop_sublist _ _)
    · rintro ⟨h, hl⟩
      cases l with
      | nil => cases hl
      | cons a l' =>
        obtain ⟨r1, r2, e, ha, hs⟩ := List.cons_sublist_iff.mp h
        obtain ⟨i, hi, rfl⟩ := List.mem_iff_getElem.mp ha
        have hi2 : i < ws.length := by rw [e, List.length_append]; omega
        refine ⟨i, List.mem_range.mpr hi2, List.mem_map.mpr ⟨l', (lotsIn_mem m).mpr ⟨?_, by simpa using hl⟩, ?_⟩⟩
        · have : ws.drop (i + 1) = r1.drop (i + 1) ++ r2 := by rw [e, List.drop_append_of_le_length (by omega)]
          rw [this]
          exact hs.trans (List.sublist_append_right _ _)
        · subst e
          simp [List.getD, hi, List.getElem?_append_left]
def allLots (ws : List Str) : List (List Str) := (List.range (ws.length + 1)).flatMap (lotsIn ws)
theorem allLots_sub {ws l : List Str} : l ∈ allLots ws ↔ l.Sublist ws := by
  unfold allLots
  rw [List.mem_flatMap]
  constructor
  · rintro ⟨m, _, h⟩
    exact ((lotsIn_mem m).mp h).1
  · intro h
    exact ⟨l.length, List.mem_range.mpr (by have := h.length_le; omega), (lotsIn_mem _).mpr ⟨h, rfl⟩⟩
theorem rise_sub : ∀ {ws l : List Str}, Rise ws → Rise l → (∀ w ∈ l, w ∈ ws) → l.Sublist ws
  | ws, [], _, _, _ => List.nil_sublist ws
  | [], a :: l, _, _, h => absurd (h a List.mem_cons_self) (by simp)
  | b :: ws, a :: l, hr, hl, h => by
    obtain ⟨w1, w2⟩ := List.pairwise_cons.mp hr
    obtain ⟨l1, l2⟩ := List.pairwise_cons.mp hl
    by_cases e : a = b
    · subst e
      refine List.Sublist.cons₂ _ (rise_sub w2 l2 fun w hw => ?_)
      rcases List.mem_cons.mp (h w (List.mem_cons_of_mem _ hw)) with q | q
      · subst q
        have := l1 w hw
        rw [lt_irr] at this
        cases this
      · exact q
    · refine List.Sublist.cons _ (rise_sub w2 hl fun w hw => ?_)
      rcases List.mem_cons.mp (h w hw) with q | q
      · subst q
        rcases List.mem_cons.mp (h a List.mem_cons_self) with q2 | q2
        · exact absurd q2 e
        · rcases List.mem_cons.mp hw with q3 | q3
          · exact absurd q3.symm e
          · have h1 := w1 a q2
            have h2 := l1 w q3
            rw [lt_asymm h1] at h2
            cases h2
      · exact q
theorem sub_lot {ws l : List Str} (hw : Rise ws) (h : l.Sublist ws) : LotOf ws l := ⟨hw.sublist h, fun w hw => h.subset hw⟩
theorem allLots_mem {ws l : List Str} (hw : Rise ws) : l ∈ allLots ws ↔ LotOf ws l := by
  rw [allLots_sub]
  exact ⟨sub_lot hw, fun h => rise_sub hw h.rise h.sub⟩
end Tdl
/-! TpLot2: all lots, walked. -/
namespace Tdl
open PySem PySem.W
theorem cut_from {α : Type} (xs : List α) (k : Nat) : cutD xs (some (k : Int)) none = xs.drop k := by
  unfold cutD
  have e1 : HT.sIx xs.length 0 (some (k : Int)) = min k xs.length := by
    simp only [HT.sIx]
    split <;> omega
  have e2 : HT.sIx xs.length xs.length none = xs.length := rfl
  rw [e1, e2, List.take_of_length_le (by rw [List.length_drop]; omega)]
  by_cases h : k ≤ xs.length
  · rw [Nat.min_eq_left h]
  · rw [Nat.min_eq_right (by omega), List.drop_eq_nil_of_le (Nat.le_refl _), List.drop_eq_nil_of_le (by omega)]
theorem cut_to {α : Type} (xs : List α) (k : Nat) : cutD xs none (some (k : Int)) = xs.take k := by
  unfold cutD
  have e1 : HT.sIx xs.length xs.length (some (k : Int)) = min k xs.length := by
    simp only [HT.sIx]
    split <;> omega
  have e2 : HT.sIx xs.length 0 none = 0 := rfl
  rw [e1, e2, List.drop_zero, Nat.sub_zero]
  by_cases h : k ≤ xs.length
  · rw [Nat.min_eq_left h]
  · rw [Nat.min_eq_right (by omega), List.take_of_length_le (Nat.le_refl _), List.take_of_length_le (by omega)]
theorem slc_from {α : Type} (f : α → PyData) (xs : List α) (k : Nat) (i : Int) (hi : i = k) : slcop (.tuple (xs.map f)) (some i) none = .ok (im (.tuple ((xs.drop k).map f))) := by
  subst hi
  show Res.ok (im (.tuple (cutD (xs.map f) _ _))) = _
  rw [cut_from, List.map_drop]
theorem slc_to {α : Type} (f : α → PyData) (xs : List α) (k : Nat) (i : Int) (hi : i = k) : slcop (.tuple (xs.map f)) none (some i) = .ok (im (.tuple ((xs.take k).map f))) := by
  subst hi
  show Res.ok (im (.tuple (cutD (xs.map f) _ _))) = _
  rw [cut_to, List.map_take]
theorem w_enT {α : Type} (f : α → PyData) (xs : List α) : walkop .en [.tuple (xs.map f)] = .ok (((List.range xs.length).zip xs).map fun p => PyData.tuple [.int (p.1 : Nat), f p.2]) := by
  show Res.ok (((List.range (xs.map f).length).zip (xs.map f)).map fun p => PyData.tuple [.int (p.1 : Nat), p.2]) = _
  rw [List.length_map, List.zip_map_right, List.map_map]
  rfl
theorem m_ext' {α : Type} {f : α → PyData} {xs ys : List α} (h : xs.length + ys.length ≤ LIM) : mutop .ext (.list (xs.map f)) [.list (ys.map f)] = .ok (.list ((xs ++ ys).map f)) := by
  rw [m_ext (by rw [List.length_map, List.length_map]; exact h), List.map_append]
section
variable {P : String → Option Fn} {F : Nat}
theorem ow_ni : decide (Md.ow ≠ Md.im) = true := rfl
theorem lots_in_ok (h : P "lots_in" = some A.lots_in) : ∀ (m : Nat) {n : Nat}, m + 1 ≤ n → ∀ (ws : List Str), ws.length ≤ 20 → ∀ i : Int, i = m → callF P F n "lots_in" [sD (lD ws), sD (.int i)] = .ok (ow (.list ((lotsIn ws m).map lD)))
  | 0, n, hn, ws, hw, i, hi => by
    obtain ⟨k, rfl, hk⟩ := num hn (by decide)
    subst hi
    rw [callF_s h rfl]
    show (exs (callF P F k) F A.lots_in.body [sD (lD ws), sD (.int ((0 : Nat) : Int)), .un, .un, .un, .un]).bd _ = _
    unfold A.lots_in
    simp! only [c_eq_i, show decide (((0 : Nat) : Int) = 0) = true from rfl]
    rfl
  | m + 1, n, hn, ws, hw, i, hi => by
    obtain ⟨k, rfl, hk⟩ := num hn (by omega)
    subst hi
    rw [callF_s h rfl]
    show (exs (callF P F k) F A.lots_in.body [sD (lD ws), sD (.int ((m + 1 : Nat) : Int)), .un, .un, .un, .un]).bd _ = _
    unfold A.lots_in
    have ih := fun (ws : List Str) (hw : ws.length ≤ 20) => lots_in_ok h m (n := k) (by omega) ws hw
    have p20 : 2 ^ ws.length ≤ 1048576 := Nat.le_trans (Nat.pow_le_pow_right (by decide) hw) (by decide)
    have loop := loopF_idx (g := fun p : Nat × Str => PyData.tuple [.int (p.1 : Nat), toD p.2]) (t := .tp [(.nm 3), (.nm 4)]) (body := exs (callF P F k) F [.mut .ext 2 [(.lc [("more", 5)] (.nm 5) .sq [(.call "lots_in" [(.slc (.var 0) (.bin .add (.var 3) (.cst (.int 1))) .nil), (.bin .sub (.var 1) (.cst (.int 1)))])] .nil (.bin .add (.tup [(.var 4)]) (.var 5)))]])
      ((List.range ws.length).zip ws) (fun j e => ∃ x3 x4 x5, e = [sD (lD ws), sD (.int ((m + 1 : Nat) : Int)), .rv (ow (.list ((preL ws m j).map lD))), x3, x4, x5]) (fun j hj env ⟨x3, x4, x5, he⟩ => by
        subst he
        have hj' : j < ws.length := by
          rw [List.length_zip, List.length_range, Nat.min_self] at hj
          exact hj
        have e0 : ((List.range ws.length).zip ws)[j] = (j, ws[j]) := by simp
        have e1 : ws.getD j default = ws[j] := by simp [List.getD, hj']
        have l1 := Nat.le_trans (lotsIn_len m (ws.drop (j + 1))) (Nat.pow_le_pow_right (by decide) (show (ws.drop (j + 1)).length ≤ ws.length by rw [List.length_drop]; omega))
        have l2 := preL_len ws m j (by omega)
        have a1 := ih (ws.drop (j + 1)) (by rw [List.length_drop]; omega) (((m + 1 : Nat) : Int) - 1) (by omega)
        have s1 := slc_from toD ws (j + 1) ((j : Int) + 1) (by omega)
        have lc := lc_map (Φ := callF P F k) (own := [("more", 5)]) (tg := .nm 5) (k := .sq) (src := [(.call "lots_in" [(.slc (.var 0) (.bin .add (.var 3) (.cst (.int 1))) .nil), (.bin .sub (.var 1) (.cst (.int 1)))])]) (elt := .bin .add (.tup [(.var 4)]) (.var 5)) (env := [sD (lD ws), sD (.int ((m + 1 : Nat) : Int)), .rv (ow (.list ((preL ws m j).map lD))), sD (.int (j : Int)), sD (toD ws[j]), x5])
          (xs := lotsIn (ws.drop (j + 1)) m) (g := lD) (h := lD) (q := (ws[j] :: ·)) (by simp! only [s1, a1, w_sqL]) (Nat.le_trans l1 (Nat.le_trans p20 (by decide))) fun l hl => by
            have hll := (lotsIn_mem m).mp hl
            have := hll.1.length_le
            rw [List.length_drop] at this
            rw [lcT_nil]
            simp! only [add_tt _ [toD ws[j]] (l.map toD) (by rw [List.length_map]; exact Nat.le_trans (show 1 + l.length ≤ 1000 by omega) (by decide))]
            rfl
        refine ⟨[sD (lD ws), sD (.int ((m + 1 : Nat) : Int)), .rv (ow (.list ((preL ws m (j + 1)).map lD))), sD (.int (j : Int)), sD (toD ws[j]), x5], ?_, _, _, _, rfl⟩
        have me := m_ext' (f := lD) (xs := preL ws m j) (ys := (lotsIn (ws.drop (j + 1)) m).map (ws[j] :: ·)) (by rw [List.length_map]; exact Nat.le_trans (Nat.add_le_add l2 l1) (Nat.le_trans (Nat.add_le_add p20 p20) (by decide)))
        rw [e0, preL_succ, e1]
        simp! only [lc, g_ext, ow_ni, me])
      ((List.range ws.length).zip ws).length 0 [sD (lD ws), sD (.int ((m + 1 : Nat) : Int)), .rv (ow (.list [])), .un, .un, .un] (by omega) ⟨_, _, _, rfl⟩
    obtain ⟨e', q1, x3, x4, x5, rfl⟩ := loop
    rw [List.drop_zero] at q1
    simp! only [c_eq_i, decide_eq_false (show ¬ ((m + 1 : Nat) : Int) = 0 by omega), ex_for, w_enT, q1]
    rw [preL_all, List.length_zip, List.length_range, Nat.min_self]
theorem goLc2_fm {Φ : Fns} {own : List (String × Nat)} {tg tg1 : Tg} {k1 : Wk} {src1 : List Ex} {elt : Ex} {env : Env} {β γ : Type} {g : β → PyData} {ys : β → List γ} {g1 : γ → PyData} {h : γ → PyData} :
    ∀ {xs : List β} {acc : List PyData}, (∀ x ∈ xs, ∃ e1, bindT tg (g x) (wipeS own env) = .ok e1 ∧ (calm (evs Φ src1 e1)).bd (walkop k1) = .ok ((ys x).map g1) ∧ ∀ y ∈ ys x, (bindT tg1 (g1 y) e1).bd (fun e2 => ((calm (ev Φ elt e2)).bd fr).bd fun d => .ok (some d)) = .ok (some (h y))) →
      goLc2 (fun x acc => (bindT tg x (wipeS own env)).bd fun e1 => (calm (evs Φ src1 e1)).bd fun ds1 => (walkop k1 ds1).bd fun xs1 => goLc (fun x1 => (bindT tg1 x1 e1).bd fun e2 => ((calm (ev Φ elt e2)).bd fr).bd fun d => .ok (some d)) xs1 acc) (xs.map g) acc = .ok (acc ++ (xs.flatMap ys).map h)
  | [], acc, _ => by simp [goLc2]
  | x :: xs, acc, hf => by
    obtain ⟨e1, h1, h2, h3⟩ := hf x List.mem_cons_self
    rw [List.map_cons]
    unfold goLc2
    have h4 : (calm (evs Φ src1 e1)).bd (fun ds1 => (walkop k1 ds1).bd fun xs1 => goLc (fun x1 => (bindT tg1 x1 e1).bd fun e2 => ((calm (ev Φ elt e2)).bd fr).bd fun d => .ok (some d)) xs1 acc) = .ok (acc ++ (ys x).map h) := by
      cases e : calm (evs Φ src1 e1) with
      | ok ds1 =>
        rw [e, bd_ok] at h2
        rw [bd_ok, h2, bd_ok]
        have := goLc_fm (g := g1) (h := h) (p := fun y => some y) (f := fun x1 => (bindT tg1 x1 e1).bd fun e2 => ((calm (ev Φ elt e2)).bd fr).bd fun d => .ok (some d)) (xs := ys x) (acc := acc) h3
        rw [this, List.filterMap_some]
      | exc c => rw [e] at h2; cases h2
      | err => rw [e] at h2; cases h2
    show (((bindT tg (g x) (wipeS own env)).bd fun e1 => _).bd _) = _
    rw [h1, bd_ok, h4, bd_ok, goLc2_fm fun y hy => hf y (List.mem_cons_of_mem _ hy), List.flatMap_cons, List.map_append, List.append_assoc]
theorem lc2_fm {Φ : Fns} {own : List (String × Nat)} {tg tg1 : Tg} {k k1 : Wk} {src src1 : List Ex} {elt : Ex} {env : Env} {β γ : Type} {g : β → PyData} {ys : β → List γ} {g1 : γ → PyData} {h : γ → PyData} {xs : List β}
    (hs : (wsrc k (evl Φ src env) (evs Φ src env)).bd (walkop k) = .ok (xs.map g)) (ht : ∀ x ∈ xs, ∃ e1, bindT tg (g x) (wipeS own env) = .ok e1 ∧ (calm (evs Φ src1 e1)).bd (walkop k1) = .ok ((ys x).map g1) ∧ ∀ y ∈ ys x, (bindT tg1 (g1 y) e1).bd (fun e2 => ((calm (ev Φ elt e2)).bd fr).bd fun d => .ok (some d)) = .ok (some (h y)))
    (hl : (xs.flatMap ys).length ≤ LIM) : ev Φ (.lc2 own tg k src tg1 k1 src1 elt) env = .ok (ow (.list ((xs.flatMap ys).map h))) := by
  have e : ev Φ (.lc2 own tg k src tg1 k1 src1 elt) env = ((wsrc k (evl Φ src env) (evs Φ src env)).bd (walkop k)).bd fun xs => (goLc2 (fun x acc => (bindT tg x (wipeS own env)).bd fun e1 => (calm (evs Φ src1 e1)).bd fun ds1 => (walkop k1 ds1).bd fun xs1 => goLc (fun x1 => (bindT tg1 x1 e1).bd fun e2 => ((calm (ev Φ elt e2)).bd fr).bd fun d => .ok (some d)) xs1 acc) xs []).bd fun out => gd (decide (out.length ≤ LIM)) (.ok (ow (.list out))) := by
    show (wsrc k (evl Φ src env) (evs Φ src env)).bd _ = _
    cases wsrc k (evl Φ src env) (evs Φ src env) <;> rfl
  rw [e, hs, bd_ok, goLc2_fm ht, bd_ok, List.nil_append, List.length_map, decide_eq_true hl]
  rfl
theorem allLots_len {ws : List Str} (hw : ws.length ≤ 15) : (allLots ws).length ≤ 16 * 2 ^ ws.length := by
  have key : ∀ j, ((List.range j).flatMap (lotsIn ws)).length ≤ j * 2 ^ ws.length := by
    intro j
    induction j with
    | zero => simp
    | succ j ih =>
      rw [List.range_succ, List.flatMap_append, List.length_append, Nat.add_mul, Nat.one_mul]
      refine Nat.add_le_add ih ?_
      have := lotsIn_len j ws
      simpa using this
  exact Nat.le_trans (key _) (Nat.mul_le_mul_right _ (by omega))
theorem allLots_lim {ws : List Str} (hw : ws.length ≤ 15) : (allLots ws).length ≤ LIM :=
  Nat.le_trans (allLots_len hw) (Nat.le_trans (Nat.mul_le_mul_left 16 (Nat.pow_le_pow_right (by decide) hw)) (by decide))
theorem all_lots_ok (h : P "lots_in" = some A.lots_in) (h2 : P "all_lots" = some A.all_lots) {n : Nat} (ws : List Str) (hw : ws.length ≤ 15) (hn : ws.length + 2 ≤ n) : callF P F n "all_lots" [sD (lD ws)] = .ok (ow (.list ((allLots ws).map lD))) := by
  obtain ⟨k, rfl, hk⟩ := num hn (by omega)
  rw [callF_s h2 rfl]
  show (exs (callF P F k) F A.all_lots.body [sD (lD ws), .un, .un]).bd _ = _
  unfold A.all_lots
  have lc := lc2_fm (Φ := callF P F k) (own := [("many", 1), ("lot", 2)]) (tg := .nm 1) (k := .r1) (src := [(.bin .add (.blt .len [(.var 0)]) (.cst (.int 1)))]) (tg1 := .nm 2) (k1 := .sq) (src1 := [(.call "lots_in" [(.var 0), (.var 1)])]) (elt := .var 2) (env := [sD (lD ws), .un, .un])
    (xs := List.range (ws.length + 1)) (g := fun i : Nat => PyData.int i) (ys := lotsIn ws) (g1 := lD) (h := lD) (hs_r1 (by
      simp! only [b_lenT, List.length_map]
      rw [show (ws.length : Int) + 1 = ((ws.length + 1 : Nat) : Int) by omega]) (by omega)) (fun j hj => by
      have hj' := List.mem_range.mp hj
      have a1 := lots_in_ok (F := F) h j (n := k) (by omega) ws (by omega) (j : Int) rfl
      refine ⟨[sD (lD ws), sD (.int (j : Int)), .un], rfl, ?_, fun l hl => ?_⟩
      · simp! only [a1, w_sqL]
      · simp! only []) (allLots_lim hw)
  simp! only [lc]
  rfl
end
end Tdl
/-! TpStart: closed lots, starts. -/
namespace Tdl
open PySem PySem.W
/-! ### lists of lots -/
theorem lD_eqv (a b : List Str) : PyData.eqv (lD a) (lD b) = decide (a = b) := by
  have := Datum.eqv (⟨a⟩ : Lot) ⟨b⟩
  rw [show (decide (a = b)) = decide ((⟨a⟩ : Lot) = ⟨b⟩) by simp]
  exact this
def sortL (ls : List (List Str)) : List (List Str) := (sortT (ls.map fun l => (⟨l⟩ : Lot))).map (·.items)
theorem lD_map (ls : List (List Str)) : ls.map lD = (ls.map fun l => (⟨l⟩ : Lot)).map toD := by rw [List.map_map]; rfl
theorem sortL_map (ls : List (List Str)) : srtD (ls.map lD) = (sortL ls).map lD := by
  rw [lD_map, srtD_map]
  unfold sortL
  rw [List.map_map]
  rfl
theorem alikes_L (ls : List (List Str)) : alikes (ls.map lD) = true := by rw [lD_map]; exact alikes_d _
theorem sortL_perm (ls : List (List Str)) : (sortL ls).Perm ls := by
  have := (sortT_perm (ls.map fun l => (⟨l⟩ : Lot))).map (·.items)
  rw [List.map_map] at this
  have e : (Tup.items ∘ fun l : List Str => (⟨l⟩ : Lot)) = id := rfl
  rw [e, List.map_id] at this
  exact this
theorem sortL_mem {ls : List (List Str)} {l : List Str} : l ∈ sortL ls ↔ l ∈ ls := (sortL_perm ls).mem_iff
theorem b_sortLL (ls : List (List Str)) : bltop .sorted [.list (ls.map lD)] = .ok (ow (.list ((sortL ls).map lD))) := by
  show gd (alikes (ls.map lD)) (Res.ok (ow (.list (srtD (ls.map lD))))) = _
  rw [alikes_L, sortL_map]
  rfl
theorem b_sortLK (tk : Bool) (vf : List Str → PyData) (ls : List (List Str)) : bltop .sorted [dct tk (ls.map fun l => (lD l, vf l))] = .ok (ow (.list ((sortL ls).map lD))) := by
  show gd (alikes ((ls.map fun l => (lD l, vf l)).map (·.1))) (.ok (ow (.list (srtD ((ls.map fun l => (lD l, vf l)).map (·.1)))))) = _
  rw [List.map_map]
  exact b_sortLL ls
theorem c_neL (a b : List Str) : cmpop .ne (lD a) (lD b) = .ok (!decide (a = b)) := by
  have := c_ne (⟨a⟩ : Lot) ⟨b⟩
  rw [show (decide (a = b)) = decide ((⟨a⟩ : Lot) = ⟨b⟩) by simp]
  exact this
theorem c_eqL (a b : List Str) : cmpop .eq (lD a) (lD b) = .ok (decide (a = b)) := by
  have := c_eq (⟨a⟩ : Lot) ⟨b⟩
  rw [show (decide (a = b)) = decide ((⟨a⟩ : Lot) = ⟨b⟩) by simp]
  exact this
theorem lots_inj {as bs : List (List Str)} : (as.map fun l => (⟨l⟩ : Lot)) = (bs.map fun l => (⟨l⟩ : Lot)) ↔ as = bs := by
  constructor
  · intro h
    have := congrArg (List.map (·.items)) h
    rw [List.map_map, List.map_map] at this
    have e : (Tup.items ∘ fun l : List Str => (⟨l⟩ : Lot)) = id := rfl
    rw [e, List.map_id, List.map_id] at this
    exact this
  · rintro rfl; rfl
theorem c_eqLL (as bs : List (List Str)) : cmpop .eq (.list (as.map lD)) (.list (bs.map lD)) = .ok (decide (as = bs)) := by
  have := c_eq (as.map fun l => (⟨l⟩ : Lot)) (bs.map fun l => (⟨l⟩ : Lot))
  rw [lD_map, lD_map, show decide (as = bs) = decide ((as.map fun l => (⟨l⟩ : Lot)) = (bs.map fun l => (⟨l⟩ : Lot))) by simp only [lots_inj]]
  exact this
theorem c_neLL (as bs : List (List Str)) : cmpop .ne (.list (as.map lD)) (.list (bs.map lD)) = .ok (!decide (as = bs)) := by
  have := c_ne (as.map fun l => (⟨l⟩ : Lot)) (bs.map fun l => (⟨l⟩ : Lot))
  rw [lD_map, lD_map, show decide (as = bs) = decide ((as.map fun l => (⟨l⟩ : Lot)) = (bs.map fun l => (⟨l⟩ : Lot))) by simp only [lots_inj]]
  exact this
/-! ### dicts by lots -/
theorem any_lot (vf : List Str → PyData) (k : List Str) : ∀ ks : List (List Str), ((ks.map fun l => (lD l, vf l)).any fun p => PyData.eqv p.1 (lD k)) = decide (k ∈ ks)
  | [] => by simp
  | a :: ks => by
    rw [List.map_cons, List.any_cons, any_lot vf k ks, lD_eqv]
    by_cases h : a = k
    · subst h; simp
    · rw [decide_eq_false h, Bool.false_or]
      simp only [List.mem_cons, show ¬ k = a from fun e => h e.symm, false_or]
theorem dput_lot (vf : List Str → PyData) (k : List Str) (ks : List (List Str)) : dput (lD k) (vf k) (ks.map fun l => (lD l, vf l)) = (if k ∈ ks then ks else ks ++ [k]).map fun l => (lD l, vf l) := by
  unfold dput
  rw [any_lot]
  by_cases h : k ∈ ks
  · rw [decide_eq_true h, if_pos rfl, if_pos h, List.map_map]
    refine List.map_congr_left fun a _ => ?_
    show (if PyData.eqv (lD a) (lD k) then (lD a, vf k) else (lD a, vf a)) = _
    rw [lD_eqv]
    by_cases e : a = k
    · rw [decide_eq_true e, if_pos rfl, e]
    · rw [decide_eq_false e, if_neg (by decide)]
  · rw [decide_eq_false h, if_neg (by decide), if_neg h, List.map_append]
    rfl
theorem dget_lot (vf : List Str → PyData) (k : List Str) : ∀ ks : List (List Str), k ∈ ks → dget (lD k) (ks.map fun l => (lD l, vf l)) = some (vf k)
  | [], h => by cases h
  | a :: ks, h => by
    show (if PyData.eqv (lD a) (lD k) then some (vf a) else dget (lD k) (ks.map fun l => (lD l, vf l))) = _
    rw [lD_eqv]
    by_cases e : a = k
    · rw [decide_eq_true e, if_pos rfl, e]
    · rw [decide_eq_false e, if_neg (by decide)]
      refine dget_lot vf k ks ?_
      rcases List.mem_cons.mp h with q | q
      · exact absurd q.symm e
      · exact q
theorem keyK_lot (l : List Str) : keyK true (lD l) = true := by
  show (true && (l.map toD).all flatK) = true
  rw [Bool.true_and, List.all_eq_true]
  intro d hd
  obtain ⟨w, _, rfl⟩ := List.mem_map.mp hd
  rfl
theorem idx_lot (vf : List Str → PyData) (k : List Str) (ks : List (List Str)) (h : k ∈ ks) : idxop (dct true (ks.map fun l => (lD l, vf l))) (lD k) = .ok (vf k) := by
  show gd (keyK true (lD k)) (match dget (lD k) (ks.map fun l => (lD l, vf l)) with | some v => .ok v | none => .err) = _
  rw [keyK_lot, dget_lot vf k ks h]
  rfl
section
variable {Φ : Fns} {F : Nat} {env : Env}
/-- a comprehension over a dict's keys -/
theorem lcd_fm {β α : Type} {own : List (String × Nat)} {tg : Tg} {i : Nat} {cond elt : Ex} {tk : Bool} {xs : List β} {kf vf : β → PyData} {h : α → PyData} {p : β → Option α} (he : env[i]? = some (.rv (ow (dct tk (xs.map fun x => (kf x, vf x)))))) (hl : xs.length ≤ LIM)
    (ht : ∀ x ∈ xs, lcT Φ own tg cond elt env (kf x) = .ok ((p x).map h)) : ev Φ (.lcd own tg false i cond elt) env = .ok (ow (.list ((xs.filterMap p).map h))) := by
  have e : ev Φ (.lcd own tg false i cond elt) env = gd (decide ((xs.map fun x => (kf x, vf x)).length ≤ LIM) && (!false || !tk)) ((goLc (lcT Φ own tg cond elt env) (dwalk false (xs.map fun x => (kf x, vf x))) []).bd fun out => .ok (ow (.list out))) := by
    rw [ev]
    rw [he]
    rfl
  have e2 : dwalk false (xs.map fun x => (kf x, vf x)) = xs.map kf := by
    show (xs.map fun x => (kf x, vf x)).map (·.1) = _
    rw [List.map_map]
    rfl
  rw [e, List.length_map, decide_eq_true hl, e2, goLc_fm ht]
  rfl
end
section
variable {P : String → Option Fn} {F : Nat}
/-- what the functions on lots are -/
structure HL (P : String → Option Fn) : Prop where
  k : HK P
  known_by : P "known_by" = some A.known_by
  lots_in : P "lots_in" = some A.lots_in
  all_lots : P "all_lots" = some A.all_lots
theorem dD1 (ws : List Str) (ls : List Les) : idxop (dD ws ls) (.int 1) = .ok (lsD ls) := rfl
theorem dD0 (ws : List Str) (ls : List Les) : idxop (dD ws ls) (.int 0) = .ok (lD ws) := rfl
def closedL (ws : List Str) (ls : List Les) : List (List Str) := sortL ((allLots ws).filter fun l => decide (tn ls l = l))
theorem plain_closed_lots_ok (h : HL P) (hp : P "plain_closed_lots" = some A.plain_closed_lots) {n : Nat} {ws : List Str} {ls : List Les} (w : WfD ws ls) (hn : 11 ≤ n) : callF P F n "plain_closed_lots" [sD (dD ws ls)] = .ok (ow (.list ((closedL ws ls).map lD))) := by
  obtain ⟨k, rfl, hk⟩ := num hn (by decide)
  have hf := w.few
  rw [callF_s hp rfl]
  show (exs (callF P F k) F A.plain_closed_lots.body [sD (dD ws ls), .un]).bd _ = _
  unfold A.plain_closed_lots
  have a1 := all_lots_ok (F := F) h.lots_in h.all_lots (n := k) ws (by omega) (by omega)
  have lc := lc_fil (Φ := callF P F k) (own := [("lot", 1)]) (tg := .nm 1) (k := .sq) (src := [(.call "all_lots" [(.idx (.var 0) (.cst (.int 0)))])]) (cond := .cmp .eq (.call "taught_now" [(.idx (.var 0) (.cst (.int 1))), (.var 1)]) (.var 1)) (elt := .var 1) (env := [sD (dD ws ls), .un])
    (xs := allLots ws) (g := lD) (p := fun l => decide (tn ls l = l)) (by simp! only [dD0, a1, w_sqL]) (allLots_lim (by omega)) fun l hl => by
      have hl' := (allLots_mem w.rise).mp hl
      have a2 := taught_now_ok (F := F) h.k (n := k) (by omega) (by omega) w.need (fun p hp => (w.taught p hp).1) hl'
      rw [lcT_is]
      simp! only [dD1, a2, c_eqL]
      by_cases c : tn ls l = l
      · rw [decide_eq_true c]
        simp! only [kC_t]
        rfl
      · rw [decide_eq_false c]
        simp! only [kC_f]
        rfl
  simp! only [lc, b_sortLL]
  rfl
/-- a start is found -/
def stS (ls : List Les) (ks : List (List Str)) (l : List Str) : List (List Str) :=
  if (!decide (kn ls l = l)) && ((ks.filterMap fun one => if liesIn one l then some (liesIn (kn ls one) l) else none).all id) then (if l ∈ ks then ks else ks ++ [l]) else ks
def startsL (ws : List Str) (ls : List Les) : List (List Str) := sortL ((allLots ws).foldl (stS ls) [])
theorem plain_starts_ok (h : HL P) (hp : P "plain_starts" = some A.plain_starts) {n : Nat} {ws : List Str} {ls : List Les} (w : WfD ws ls) (hn : 11 ≤ n) (hF : 8 < F) : callF P F n "plain_starts" [sD (dD ws ls)] = .ok (ow (.list ((startsL ws ls).map lD))) := by
  obtain ⟨k, rfl, hk⟩ := num hn (by decide)
  have hf := w.few
  rw [callF_s hp rfl]
  show (exs (callF P F k) F A.plain_starts.body [sD (dD ws ls), .un, .un, .un, .un]).bd _ = _
  unfold A.plain_starts
  have a1 := all_lots_ok (F := F) h.lots_in h.all_lots (n := k) ws (by omega) (by omega)
  have loop := loopF_fold (g := lD) (t := .nm 2) (body := exs (callF P F k) F [
      .asg (.nm 3) false (.call "known_by" [(.idx (.var 0) (.cst (.int 1))), (.var 2)]),
      .iff (.bop true [(.cmp .ne (.var 3) (.var 2)), (.blt .all [(.lcd [("one", 4)] (.nm 4) false 1 (.call "lies_in" [(.var 4), (.var 2)]) (.call "lies_in" [(.idx (.var 1) (.var 4)), (.var 2)]))])]) [
      .put 1 (.var 2) (.var 3)] []])
    (R := fun (ks : List (List Str)) e => (ks.Nodup ∧ ∀ l ∈ ks, l ∈ allLots ws) ∧ ∃ x y z, e = [sD (dD ws ls), .rv (ow (dct true (ks.map fun l => (lD l, lD (kn ls l))))), x, y, z]) (stS ls) (allLots ws) [] [sD (dD ws ls), .rv (ow (dct true [])), .un, .un, .un] ⟨⟨List.nodup_nil, fun l hl => by cases hl⟩, _, _, _, rfl⟩ fun ks e l hl ⟨⟨hnd, hks⟩, x, y, z, he⟩ => by
      subst he
      have hl' := (allLots_mem w.rise).mp hl
      have hh : ∀ p ∈ ls, LotOf ws p.2.items := fun p hp => (w.taught p hp).1
      have a2 := known_by_ok (F := F) h.known_by h.k (n := k) (by omega) hF w.few w.need hh hl'
      have hlen : ks.length ≤ LIM := Nat.le_trans (nodup_len hnd hks) (allLots_lim (by omega))
      have hlen2 : ks.length < LIM := Nat.lt_of_le_of_lt (Nat.le_trans (nodup_len hnd hks) (allLots_len (by omega))) (Nat.lt_of_le_of_lt (Nat.mul_le_mul_left 16 (Nat.pow_le_pow_right (by decide) hf)) (by decide))
      have lim : ∀ {a : List Str}, LotOf ws a → a.length ≤ LIM := fun ha => Nat.le_trans ha.len (Nat.le_trans hf (by decide))
      have lcd := lcd_fm (Φ := callF P F k) (own := [("one", 4)]) (tg := .nm 4) (i := 1) (cond := .call "lies_in" [(.var 4), (.var 2)]) (elt := .call "lies_in" [(.idx (.var 1) (.var 4)), (.var 2)]) (tk := true) (xs := ks) (kf := lD) (vf := fun l => lD (kn ls l)) (h := PyData.bool) (p := fun one => if liesIn one l then some (liesIn (kn ls one) l) else none)
        (env := [sD (dD ws ls), .rv (ow (dct true (ks.map fun l => (lD l, lD (kn ls l))))), sD (lD l), sD (lD (kn ls l)), z]) rfl hlen fun one ho => by
          have ho' := (allLots_mem w.rise).mp (hks one ho)
          have b1 := lies_in_ok (F := F) h.k.lies_in (n := k) (by omega) one l (lim ho')
          have b2 := lies_in_ok (F := F) h.k.lies_in (n := k) (by omega) (kn ls one) l (lim (kn_spec w.few hh ho').1)
          rw [lcT_is]
          by_cases c : liesIn one l = true
          · simp! only [b1, c, kC_t, idx_lot (fun l => lD (kn ls l)) one ks ho, b2]
            rfl
          · rw [Bool.not_eq_true] at c
            simp! only [b1, c, kC_f]
            rfl
      have wf2 : ∀ ks' : List (List Str), ks' = stS ls ks l → ks'.Nodup ∧ ∀ l ∈ ks', l ∈ allLots ws := fun ks' e => by
        subst e
        unfold stS
        split
        · split
          · exact ⟨hnd, hks⟩
          · rename_i hn
            refine ⟨List.nodup_append.mpr ⟨hnd, by simp, fun a ha b hb => ?_⟩, fun a ha => ?_⟩
            · rw [List.mem_singleton] at hb
              subst hb
              rintro rfl
              exact hn ha
            · rcases List.mem_append.mp ha with q | q
              · exact hks a q
              · rw [List.mem_singleton.mp q]; exact hl
        · exact ⟨hnd, hks⟩
      refine ⟨[sD (dD ws ls), .rv (ow (dct true ((stS ls ks l).map fun l => (lD l, lD (kn ls l))))), sD (lD l), sD (lD (kn ls l)), z], ?_, wf2 _ rfl, _, _, _, rfl⟩
      by_cases c1 : kn ls l = l
      · have e1 : stS ls ks l = ks := by unfold stS; rw [decide_eq_true c1]; rfl
        rw [e1]
        simp! only [dD1, a2, c_neL, decide_eq_true c1, Bool.not_true]
      · cases c2 : (ks.filterMap fun one => if liesIn one l then some (liesIn (kn ls one) l) else none).all id with
        | false =>
          have e1 : stS ls ks l = ks := by unfold stS; rw [c2, Bool.and_false]; rfl
          rw [e1]
          simp! only [dD1, a2, c_neL, decide_eq_false c1, Bool.not_false, lcd, b_all, c2]
        | true =>
          have e1 : stS ls ks l = if l ∈ ks then ks else ks ++ [l] := by unfold stS; rw [c2, decide_eq_false c1]; rfl
          have pu : putop (dct true (ks.map fun l => (lD l, lD (kn ls l)))) (lD l) (lD (kn ls l)) = .ok (dct true ((stS ls ks l).map fun l => (lD l, lD (kn ls l)))) := by
            rw [e1, ← dput_lot (fun l => lD (kn ls l)) l ks]
            show gd (keyK true (lD l) && decide ((ks.map fun l => (lD l, lD (kn ls l))).length < LIM)) _ = _
            rw [keyK_lot, List.length_map, decide_eq_true hlen2]
            rfl
          simp! only [dD1, a2, c_neL, decide_eq_false c1, Bool.not_false, lcd, b_all, c2, pu]
  obtain ⟨e', q1, hks, x, y, z, rfl⟩ := loop
  simp! only [dD0, a1, ex_for, w_sqL, q1, b_sortLK true (fun l => lD (kn ls l))]
  rfl
end
end Tdl
/-! TpMatch: lessons that stand for starts. -/
namespace Tdl
open PySem PySem.W
/-! ### what is known, and closed -/
theorem tn_kn {ws : List Str} {ls : List Les} (w : WfD ws ls) {l : List Str} (hl : LotOf ws l) : tn ls l = l ↔ kn ls l = l := by
  have hh : ∀ p ∈ ls, LotOf ws p.2.items := fun p hp => (w.taught p hp).1
  constructor
  · intro e
    show knF ls 8 l = l
    unfold knF
    rw [if_pos e]
  · intro e
    obtain ⟨a1, a2, a3, a4⟩ := kn_spec w.few hh hl
    rw [e] at a3
    exact (shut_tn hh hl).mpr a3
def stands (p : Les) (l : List Str) : Bool := liesIn p.1.items l && !liesIn p.2.items l
theorem stands_ex {ws : List Str} {ls : List Les} (w : WfD ws ls) {l : List Str} (hl : LotOf ws l) (h : kn ls l ≠ l) : ∃ p ∈ ls, stands p l = true := by
  have hh : ∀ p ∈ ls, LotOf ws p.2.items := fun p hp => (w.taught p hp).1
  have h1 : ¬ Shut ls l := fun s => h ((tn_kn w hl).mp ((shut_tn hh hl).mpr s))
  obtain ⟨p, h1⟩ := Classical.not_forall.mp h1
  obtain ⟨hp, h1⟩ := Classical.not_forall.mp h1
  obtain ⟨hn, h1⟩ := Classical.not_forall.mp h1
  refine ⟨p, hp, ?_⟩
  have q1 := liesIn_iff.mpr hn
  have q2 : liesIn p.2.items l = false := by
    cases q : liesIn p.2.items l with
    | false => rfl
    | true => exact absurd (liesIn_iff.mp q) h1
  unfold stands
  rw [q1, q2]
  rfl
theorem stS_mem {ls : List Les} {ks : List (List Str)} {l a : List Str} (h : a ∈ stS ls ks l) : a ∈ ks ∨ (a = l ∧ kn ls l ≠ l) := by
  unfold stS at h
  split at h
  · rename_i c
    have : kn ls l ≠ l := by
      intro e
      rw [decide_eq_true e] at c
      simp at c
    split at h
    · exact .inl h
    · rcases List.mem_append.mp h with q | q
      · exact .inl q
      · exact .inr ⟨List.mem_singleton.mp q, this⟩
  · exact .inl h
theorem fold_mem {ls : List Les} {a : List Str} : ∀ {xs ks : List (List Str)}, a ∈ xs.foldl (stS ls) ks → a ∈ ks ∨ (a ∈ xs ∧ kn ls a ≠ a)
  | [], ks, h => .inl h
  | x :: xs, ks, h => by
    rw [List.foldl_cons] at h
    rcases fold_mem h with q | ⟨q1, q2⟩
    · rcases stS_mem q with q | ⟨rfl, q⟩
      · exact .inl q
      · exact .inr ⟨List.mem_cons_self, q⟩
    · exact .inr ⟨List.mem_cons_of_mem _ q1, q2⟩
theorem stS_ne {ls : List Les} {ks : List (List Str)} {l : List Str} (h : ks ≠ []) : stS ls ks l ≠ [] := by
  unfold stS
  split
  · split
    · exact h
    · simp
  · exact h
theorem fold_ne {ls : List Les} : ∀ {xs ks : List (List Str)}, ks ≠ [] → xs.foldl (stS ls) ks ≠ []
  | [], _, h => h
  | x :: xs, ks, h => by rw [List.foldl_cons]; exact fold_ne (stS_ne h)
theorem fold_nil {ls : List Les} : ∀ {xs : List (List Str)}, xs.foldl (stS ls) [] = [] ↔ ∀ l ∈ xs, kn ls l = l
  | [] => by simp
  | x :: xs => by
    rw [List.foldl_cons]
    by_cases c : kn ls x = x
    · have e : stS ls [] x = [] := by unfold stS; rw [decide_eq_true c]; rfl
      rw [e, fold_nil]
      constructor
      · intro h l hl
        rcases List.mem_cons.mp hl with q | q
        · rw [q]; exact c
        · exact h l q
      · intro h l hl
        exact h l (List.mem_cons_of_mem _ hl)
    · have e : stS ls [] x = [x] := by unfold stS; rw [decide_eq_false c]; rfl
      rw [e]
      constructor
      · intro h; exact absurd h (fold_ne (by simp))
      · intro h; exact absurd (h x List.mem_cons_self) c
theorem starts_mem {ws : List Str} {ls : List Les} (w : WfD ws ls) {l : List Str} (h : l ∈ startsL ws ls) : LotOf ws l ∧ kn ls l ≠ l := by
  rcases fold_mem (sortL_mem.mp h) with q | ⟨q1, q2⟩
  · cases q
  · exact ⟨(allLots_mem w.rise).mp q1, q2⟩
theorem starts_len {ws : List Str} {ls : List Les} (w : WfD ws ls) : (startsL ws ls).length ≤ 100000 := by
  have key : ∀ (xs ks : List (List Str)), (xs.foldl (stS ls) ks).length ≤ ks.length + xs.length := by
    intro xs
    induction xs with
    | nil => intro ks; simp
    | cons x xs ih =>
      intro ks
      rw [List.foldl_cons, List.length_cons]
      have : (stS ls ks x).length ≤ ks.length + 1 := by
        unfold stS
        split
        · split
          · omega
          · rw [List.length_append]; exact Nat.le_refl _
        · omega
      have := ih (stS ls ks x)
      omega
  have h1 := key (allLots ws) []
  have h2 := allLots_len (ws := ws) (by have := w.few; omega)
  have h3 : 2 ^ ws.length ≤ 2 ^ 8 := Nat.pow_le_pow_right (by decide) w.few
  unfold startsL
  rw [(sortL_perm _).length_eq]
  simp only [List.length_nil, Nat.zero_add] at h1
  refine Nat.le_trans h1 (Nat.le_trans h2 ?_)
  exact Nat.le_trans (Nat.mul_le_mul_left 16 h3) (by decide)
theorem starts_nil {ws : List Str} {ls : List Les} : startsL ws ls = [] ↔ ∀ l ∈ allLots ws, kn ls l = l := by
  rw [← fold_nil]
  unfold startsL
  constructor
  · intro h
    have := (sortL_perm ((allLots ws).foldl (stS ls) [])).length_eq
    rw [h] at this
    exact List.length_eq_zero_iff.mp this.symm
  · intro h
    rw [h]
    rfl
theorem c_inT_t {α : Type} [DecidableEq α] [Datum α] [Sh α] {a : α} {xs : List α} (h : a ∈ xs) : cmpop .isin (toD a) (.tuple (xs.map toD)) = .ok true := by rw [c_inT, decide_eq_true h]
theorem c_inT_f {α : Type} [DecidableEq α] [Datum α] [Sh α] {a : α} {xs : List α} (h : a ∉ xs) : cmpop .isin (toD a) (.tuple (xs.map toD)) = .ok false := by rw [c_inT, decide_eq_false h]
/-! ### rows -/
abbrev Row2 : Type := List Str × Les
abbrev rD (r : Row2) : PyData := .tuple [lD r.1, toD r.2]
section
variable {P : String → Option Fn} {F : Nat}
structure HM (P : String → Option Fn) : Prop where
  l : HL P
  d : HD P
  plain_starts : P "plain_starts" = some A.plain_starts
  does_stand_for : P "does_stand_for" = some A.does_stand_for
theorem les0 (p : Les) : idxop (toD p) (.int 0) = .ok (lD p.1.items) := rfl
theorem les1 (p : Les) : idxop (toD p) (.int 1) = .ok (lD p.2.items) := rfl
theorem does_stand_for_ok (h : HM P) {n : Nat} (hn : 2 ≤ n) (p : Les) (l : List Str) (h1 : p.1.items.length ≤ LIM) (h2 : p.2.items.length ≤ LIM) : callF P F n "does_stand_for" [sD (toD p), sD (lD l)] = .ok (im (.bool (stands p l))) := by
  obtain ⟨k, rfl, hk⟩ := num hn (by decide)
  rw [callF_s h.does_stand_for rfl]
  show (exs (callF P F k) F A.does_stand_for.body [sD (toD p), sD (lD l)]).bd _ = _
  unfold A.does_stand_for
  have a1 := lies_in_ok (F := F) h.l.k.lies_in hk p.1.items l h1
  have a2 := lies_in_ok (F := F) h.l.k.lies_in hk p.2.items l h2
  cases c : liesIn p.1.items l with
  | false => simp! only [les0, a1, c, stands, Bool.false_and]
  | true => simp! only [les0, les1, a1, c, a2, stands, Bool.true_and]
/-- the first lesson that stands for a lot -/
def firstS (ls : List Les) (l : List Str) : Les := (ls.filter fun p => stands p l).headD (⟨[]⟩, ⟨[]⟩)
def mtL (ws : List Str) (ls : List Les) : List Row2 := (startsL ws ls).map fun l => (l, firstS ls l)
theorem firstS_ok {ws : List Str} {ls : List Les} (w : WfD ws ls) {l : List Str} (hl : LotOf ws l) (h : kn ls l ≠ l) : firstS ls l ∈ ls ∧ stands (firstS ls l) l = true ∧ idxop (.list ((ls.filter fun p => stands p l).map toD)) (.int 0) = .ok (toD (firstS ls l)) := by
  obtain ⟨p, hp, hs⟩ := stands_ex w hl h
  have hm : p ∈ ls.filter fun p => stands p l := List.mem_filter.mpr ⟨hp, hs⟩
  unfold firstS
  cases e : ls.filter fun p => stands p l with
  | nil => rw [e] at hm; cases hm
  | cons q r =>
    have hq : q ∈ ls.filter fun p => stands p l := by rw [e]; exact List.mem_cons_self
    obtain ⟨q1, q2⟩ := List.mem_filter.mp hq
    exact ⟨q1, q2, idx_Lm toD (q :: r) (i := 0) (Nat.succ_pos _)⟩
theorem look_ok (h : HM P) {n : Nat} (hn : 5 ≤ n) {ws : List Str} {ls : List Les} (w : WfD ws ls) : callF P F n "look_dictionary" [sD (dD ws ls)] = .ok (im .none) := by
  have := look_dictionary_ok (F := F) h.d hn (dD ws ls) (wf_okS w)
  rw [wf_dict w] at this
  exact this
theorem matched_ok (h : HM P) (hp : P "matched" = some A.matched) {n : Nat} {ws : List Str} {ls : List Les} (w : WfD ws ls) (hn : 12 ≤ n) (hF : 8 < F) : callF P F n "matched" [sD (dD ws ls)] = .ok (ow (.list ((mtL ws ls).map rD))) := by
  obtain ⟨k, rfl, hk⟩ := num hn (by decide)
  have hf := w.few
  rw [callF_s hp rfl]
  show (exs (callF P F k) F A.matched.body [sD (dD ws ls), .un, .un, .un]).bd _ = _
  unfold A.matched
  have a0 := look_ok (F := F) h (n := k) (by omega) w
  have a1 := plain_starts_ok (F := F) h.l h.plain_starts (n := k) w (by omega) hF
  have sl := starts_len w
  have loop := loopF_idx (g := lD) (t := .nm 2) (body := exs (callF P F k) F [.mut .app 1 [(.tup [(.var 2), (.idx (.lc [("lesson", 3)] (.nm 3) .sq [(.idx (.var 0) (.cst (.int 1)))] (.call "does_stand_for" [(.var 3), (.var 2)]) (.var 3)) (.cst (.int 0)))])]])
    (startsL ws ls) (fun j e => ∃ x y, e = [sD (dD ws ls), .rv (ow (.list (((startsL ws ls).take j).map fun l => rD (l, firstS ls l)))), x, y]) (fun j hj env ⟨x, y, he⟩ => by
      subst he
      obtain ⟨h1, h2⟩ := starts_mem w (List.getElem_mem hj)
      obtain ⟨f1, f2, f3⟩ := firstS_ok w h1 h2
      generalize hl : (startsL ws ls)[j] = l at *
      have lc := lc_fil (Φ := callF P F k) (own := [("lesson", 3)]) (tg := .nm 3) (k := .sq) (src := [(.idx (.var 0) (.cst (.int 1)))]) (cond := .call "does_stand_for" [(.var 3), (.var 2)]) (elt := .var 3) (env := [sD (dD ws ls), .rv (ow (.list (((startsL ws ls).take j).map fun l => rD (l, firstS ls l)))), sD (lD l), y])
        (xs := ls) (g := fun p : Les => toD p) (p := fun p => stands p l) (by simp! only [dD1, w_sqT]) (Nat.le_trans w.fewL (by decide)) fun p hp => by
          have b1 := does_stand_for_ok (F := F) h (n := k) (by omega) p l (Nat.le_trans (w.need p hp).len (Nat.le_trans hf (by decide))) (Nat.le_trans (w.taught p hp).1.len (Nat.le_trans hf (by decide)))
          rw [lcT_is]
          cases c : stands p l with
          | true =>
            simp! only [b1, c, kC_t]
            rfl
          | false =>
            simp! only [b1, c, kC_f]
            rfl
      have ap := fun x => m_app (xs := ((startsL ws ls).take j).map fun l => rD (l, firstS ls l)) (x := x) (by rw [List.length_map, List.length_take]; exact Nat.lt_of_le_of_lt (Nat.le_trans (Nat.min_le_right _ _) sl) (by decide))
      refine ⟨[sD (dD ws ls), .rv (ow (.list (((startsL ws ls).take (j + 1)).map fun l => rD (l, firstS ls l)))), sD (lD l), y], ?_, _, _, rfl⟩
      rw [List.take_succ_eq_append_getElem hj, List.map_append, hl]
      simp! only [lc, f3, g_app, ap])
    (startsL ws ls).length 0 [sD (dD ws ls), .rv (ow (.list [])), .un, .un] (by omega) ⟨_, _, rfl⟩
  obtain ⟨e', q1, x, y, rfl⟩ := loop
  rw [List.drop_zero, List.take_length] at q1
  simp! only [a0, a1, ex_for, w_sqL, q1]
  unfold mtL
  rw [List.map_map]
  rfl
/-- a row of two -/
def isT2 : PyData → Bool
  | .tuple xs => decide (xs.length = 2)
  | _ => false
/-- a thing that is shown, by its kind -/
def shown (d : PyData) (m : Md) : SV := .rv ⟨d, m⟩
theorem is_matched_not (h : HM P) (hp : P "is_matched" = some A.is_matched) {n : Nat} {ws : List Str} {ls : List Les} (w : WfD ws ls) (hn : 12 ≤ n) {d : PyData} (hd : d.plain = true) (hb : isiop d .list = false) : callF P F n "is_matched" [sD (dD ws ls), sD d] = .ok (im (.bool false)) := by
  obtain ⟨k, rfl, hk⟩ := num hn (by decide)
  rw [callF_s hp rfl]
  show (exs (callF P F k) F A.is_matched.body [sD (dD ws ls), sD d, .un]).bd _ = _
  unfold A.is_matched
  have a0 := look_ok (F := F) h (n := k) (by omega) w
  simp! only [a0, hd, hb, Bool.not_false]
theorem plainAll_mem : ∀ {xs : List PyData}, PyData.plainAll xs = true → ∀ x ∈ xs, x.plain = true
  | y :: r, h, x, hx => by
    simp only [PyData.plainAll, Bool.and_eq_true] at h
    rcases List.mem_cons.mp hx with e | e
    · rw [e]; exact h.1
    · exact plainAll_mem h.2 x e
theorem t2_lc {k : Nat} {xs : List PyData} (D : SV) (m : Md) (hm : m = .im ∨ m = .bo) (hx : PyData.plainAll xs = true) (hl : xs.length ≤ LIM) : ev (callF P F k) (.lc [("row", 2)] (.nm 2) .sq [(.var 1)] .nil (.bop true [(.isi (.var 2) .tuple), (.cmp .eq (.blt .len [(.var 2)]) (.cst (.int 2)))])) [D, .rv ⟨.list xs, m⟩, .un] = .ok (ow (.list ((xs.map isT2).map .bool))) := by
  refine lc_map (g := id) (by rcases hm with rfl | rfl <;> simp! only [w_sqL, List.map_id]) hl fun x hx' => ?_
  have hp := plainAll_mem hx x hx'
  rw [lcT_nil]
  cases x with
  | tuple ys =>
    simp! only [id, hp, show isiop (.tuple ys) .tuple = true from rfl, b_lenT, c_eq_i]
    have : decide (((ys.length : Nat) : Int) = 2) = decide (ys.length = 2) := by
      by_cases c : ys.length = 2
      · rw [decide_eq_true c, decide_eq_true (by omega)]
      · rw [decide_eq_false c, decide_eq_false (by omega)]
    rw [this]
    rfl
  | _ => simp! only [id, hp]; rfl
theorem is_matched_bad (h : HM P) (hp : P "is_matched" = some A.is_matched) {n : Nat} {ws : List Str} {ls : List Les} (w : WfD ws ls) (hn : 12 ≤ n) {xs : List PyData} (hx : PyData.plainAll xs = true) (hl : xs.length ≤ LIM) (hb : xs.all isT2 = false) : callF P F n "is_matched" [sD (dD ws ls), sD (.list xs)] = .ok (im (.bool false)) := by
  obtain ⟨k, rfl, hk⟩ := num hn (by decide)
  rw [callF_s hp rfl]
  show (exs (callF P F k) F A.is_matched.body [sD (dD ws ls), sD (.list xs), .un]).bd _ = _
  unfold A.is_matched
  have a0 := look_ok (F := F) h (n := k) (by omega) w
  have hd : (PyData.list xs).plain = true := by simp only [PyData.plain, hx]
  have lc := t2_lc (P := P) (F := F) (k := k) (sD (dD ws ls)) .im (.inl rfl) hx hl
  have hb' : ((xs.map isT2).all id) = false := by rw [List.all_map]; exact hb
  simp! only [a0, hd, show isiop (.list xs) .list = true from rfl, Bool.not_true, lc, b_all, hb', Bool.not_false]
theorem rD_plain (r : Row2) : (rD r).plain = true := by
  have h1 : (lD r.1).plain = true := Datum.plain (⟨r.1⟩ : Lot)
  have h2 : (toD r.2 : PyData).plain = true := Datum.plain r.2
  show ((lD r.1).plain && ((toD r.2 : PyData).plain && true)) = true
  rw [h1, h2]
  rfl
theorem rows_plain : ∀ rs : List Row2, PyData.plainAll (rs.map rD) = true
  | [] => by simp [PyData.plainAll]
  | r :: rs => by
    rw [List.map_cons]
    simp only [PyData.plainAll, rD_plain, rows_plain rs, Bool.and_self]
theorem rD0 (r : Row2) : idxop (rD r) (.int 0) = .ok (lD r.1) := rfl
theorem isi_lD (l : List Str) : isiop (lD l) .tuple = true := rfl
theorem isi_les (p : Les) : isiop (toD p) .tuple = true := rfl
theorem rD1 (r : Row2) : idxop (rD r) (.int 1) = .ok (toD r.2) := rfl
/-- is_matched, of rows of a lot and a lesson -/
def isMt (ws : List Str) (ls : List Les) (rs : List Row2) : Bool := decide (rs.map (·.1) = startsL ws ls) && rs.all fun r => decide (r.2 ∈ ls) && stands r.2 r.1
theorem is_matched_ok (h : HM P) (hp : P "is_matched" = some A.is_matched) {n : Nat} {ws : List Str} {ls : List Les} (w : WfD ws ls) (hn : 12 ≤ n) (hF : 8 < F) {m : Md} (hm : m = .im ∨ m = .bo) {rs : List Row2} (hl : rs.length ≤ LIM) : callF P F n "is_matched" [sD (dD ws ls), .rv ⟨.list (rs.map rD), m⟩] = .ok (im (.bool (isMt ws ls rs))) := by
  obtain ⟨k, rfl, hk⟩ := num hn (by decide)
  have hf := w.few
  rw [callF_s hp rfl]
  show (exs (callF P F k) F A.is_matched.body [sD (dD ws ls), .rv ⟨.list (rs.map rD), m⟩, .un]).bd _ = _
  unfold A.is_matched
  have a0 := look_ok (F := F) h (n := k) (by omega) w
  have a1 := plain_starts_ok (F := F) h.l h.plain_starts (n := k) w (by omega) hF
  have hx := rows_plain rs
  have hd : (PyData.list (rs.map rD)).plain = true := by simp only [PyData.plain, hx]
  have l1 := t2_lc (P := P) (F := F) (k := k) (sD (dD ws ls)) m hm hx (by rw [List.length_map]; exact hl)
  have t1 : (((rs.map rD).map isT2).all id) = true := by
    rw [List.map_map, List.all_map]
    exact List.all_eq_true.mpr fun r _ => rfl
  have pl : ∀ r : Row2, (lD r.1).plain = true := fun r => Datum.plain (⟨r.1⟩ : Lot)
  have pl2 : ∀ r : Row2, (toD r.2 : PyData).plain = true := fun r => Datum.plain r.2
  have l2 : ev (callF P F k) (.lc [("row", 2)] (.nm 2) .sq [(.var 1)] .nil (.bop true [(.isi (.idx (.var 2) (.cst (.int 0))) .tuple), (.isi (.idx (.var 2) (.cst (.int 1))) .tuple)])) [sD (dD ws ls), .rv ⟨.list (rs.map rD), m⟩, .un] = .ok (ow (.list ((rs.map fun _ => true).map .bool))) := by
    refine lc_map (g := rD) (by rcases hm with rfl | rfl <;> simp! only [w_sqL]) hl fun r hr => ?_
    rw [lcT_nil]
    simp! only [rD0, rD1, pl r, pl2 r, isi_lD, isi_les]
  have t2 : ((rs.map fun _ => true).all id) = true := by
    rw [List.all_map]
    exact List.all_eq_true.mpr fun r _ => rfl
  have l3 : ev (callF P F k) (.lc [("row", 2)] (.nm 2) .sq [(.var 1)] .nil (.idx (.var 2) (.cst (.int 0)))) [sD (dD ws ls), .rv ⟨.list (rs.map rD), m⟩, .un] = .ok (ow (.list ((rs.map (·.1)).map lD))) := by
    refine lc_map (g := rD) (by rcases hm with rfl | rfl <;> simp! only [w_sqL]) hl fun r hr => ?_
    rw [lcT_nil]
    simp! only [rD0]
  have go : ∀ b : Bool, (!decide (rs.map (·.1) = startsL ws ls)) = b → _ := fun b hb => hb
  cases c : decide (rs.map (·.1) = startsL ws ls) with
  | false =>
    have e : isMt ws ls rs = false := by unfold isMt; rw [c]; rfl
    rcases hm with rfl | rfl <;> simp! only [a0, hd, show isiop (.list (rs.map rD)) .list = true from rfl, Bool.not_true, l1, b_all, t1, l2, t2, l3, a1, c_neLL, c, Bool.not_false, e]
  | true =>
    have c' := of_decide_eq_true c
    have e : isMt ws ls rs = rs.all fun r => decide (r.2 ∈ ls) && stands r.2 r.1 := by unfold isMt; rw [c]; rfl
    have l4 : ev (callF P F k) (.lc [("row", 2)] (.nm 2) .sq [(.var 1)] .nil (.bop true [(.cmp .isin (.idx (.var 2) (.cst (.int 1))) (.idx (.var 0) (.cst (.int 1)))), (.call "does_stand_for" [(.idx (.var 2) (.cst (.int 1))), (.idx (.var 2) (.cst (.int 0)))])])) [sD (dD ws ls), .rv ⟨.list (rs.map rD), m⟩, .un] = .ok (ow (.list ((rs.map fun r => decide (r.2 ∈ ls) && stands r.2 r.1).map .bool))) := by
      refine lc_map (g := rD) (by rcases hm with rfl | rfl <;> simp! only [w_sqL]) hl fun r hr => ?_
      rw [lcT_nil]
      by_cases d : r.2 ∈ ls
      · have q : cmpop .isin (toD r.2) (lsD ls) = .ok true := c_inT_t d
        have b1 := does_stand_for_ok (F := F) h (n := k) (by omega) r.2 r.1 (Nat.le_trans (w.need r.2 d).len (Nat.le_trans hf (by decide))) (Nat.le_trans (w.taught r.2 d).1.len (Nat.le_trans hf (by decide)))
        simp! only [rD1, dD1, q, decide_eq_true d, rD0, b1, Bool.true_and]
      · have q : cmpop .isin (toD r.2) (lsD ls) = .ok false := c_inT_f d
        simp! only [rD1, dD1, q, decide_eq_false d, Bool.false_and]
    have e2 : ((rs.map fun r => decide (r.2 ∈ ls) && stands r.2 r.1).all id) = isMt ws ls rs := by
      rw [List.all_map, e]
      rfl
    rcases hm with rfl | rfl <;> simp! only [a0, hd, show isiop (.list (rs.map rD)) .list = true from rfl, Bool.not_true, l1, b_all, t1, l2, t2, l3, a1, c_neLL, c, Bool.not_false, l4, e2]
end
end Tdl
/-! TpK68: the law on matched lessons. -/
namespace Tdl
open PySem PySem.W
theorem c_ne_nil {xs : List PyData} (hx : PyData.plainAll xs = true) : cmpop .ne (.list xs) (.list []) = .ok (!xs.isEmpty) := by
  show gd (eqOk (.list xs) (.list [])) _ = _
  have : eqOk (.list xs) (.list []) = true := by
    unfold eqOk
    simp [PyData.plain, PyData.plainAll, hx, PyData.depth, PyData.depthAll]
  rw [this]
  cases xs <;> simp [PyData.eqv, PyData.eqvAll]
theorem c_eq_nil {xs : List PyData} (hx : PyData.plainAll xs = true) : cmpop .eq (.list xs) (.list []) = .ok xs.isEmpty := by
  show gd (eqOk (.list xs) (.list [])) _ = _
  have : eqOk (.list xs) (.list []) = true := by
    unfold eqOk
    simp [PyData.plain, PyData.plainAll, hx, PyData.depth, PyData.depthAll]
  rw [this]
  cases xs <;> simp [PyData.eqv, PyData.eqvAll]
theorem c_neB (a b : Bool) : cmpop .ne (.bool a) (.bool b) = .ok (!decide (a = b)) := c_ne (α := Bool) a b
theorem add_ll (m : Md) {xs ys : List PyData} (h : xs.length + ys.length ≤ LIM) : binop .add m (.list xs) (.list ys) = .ok (ow (.list (xs ++ ys))) := by
  show gd (decide _) _ = _
  rw [decide_eq_true h]
  rfl
/-! ### all lots, the law's way -/
def lawLots (ws : List Str) : List (List Str) := ws.foldl (fun f w => f ++ f.map (· ++ [w])) [[]]
theorem lawLots_len : ∀ (ws : List Str), (lawLots ws).length = 2 ^ ws.length ∧ ∀ l ∈ lawLots ws, l.length ≤ ws.length := fun ws => by
  have key : ∀ (ws : List Str) (f : List (List Str)) (k : Nat), (∀ l ∈ f, l.length ≤ k) → (ws.foldl (fun f w => f ++ f.map (· ++ [w])) f).length = f.length * 2 ^ ws.length ∧ ∀ l ∈ ws.foldl (fun f w => f ++ f.map (· ++ [w])) f, l.length ≤ k + ws.length := by
    intro ws
    induction ws with
    | nil => intro f k hf; exact ⟨by simp, hf⟩
    | cons w ws ih =>
      intro f k hf
      have := ih (f ++ f.map (· ++ [w])) (k + 1) (fun l hl => by
        rcases List.mem_append.mp hl with q | q
        · have := hf l q; omega
        · obtain ⟨l', hl', rfl⟩ := List.mem_map.mp q
          have := hf l' hl'
          rw [List.length_append, List.length_singleton]
          omega)
      rw [List.foldl_cons]
      refine ⟨?_, fun l hl => ?_⟩
      · rw [this.1, List.length_append, List.length_map, List.length_cons, Nat.pow_succ, ← Nat.mul_two, Nat.mul_assoc, Nat.mul_comm 2]
      · have := this.2 l hl
        rw [List.length_cons]
        omega
  have := key ws [[]] 0 (by simp)
  unfold lawLots
  simpa using this
theorem lawLots_take {ws : List Str} {j : Nat} (h : j < ws.length) : lawLots (ws.take (j + 1)) = lawLots (ws.take j) ++ (lawLots (ws.take j)).map (· ++ [ws[j]]) := by
  unfold lawLots
  rw [List.take_succ_eq_append_getElem h, List.foldl_append]
  rfl
section
variable {P : String → Option Fn} {F : Nat}
theorem law_lots_ok (hp : P "_law_lots" = some A.law_lots_k50) {n : Nat} (hn : 1 ≤ n) (ws : List Str) (hw : ws.length ≤ 15) : callF P F n "_law_lots" [sD (lD ws)] = .ok (im (.list ((lawLots ws).map lD))) := by
  obtain ⟨k, rfl, hk⟩ := num hn (by decide)
  rw [callF_s hp rfl]
  show (exs (callF P F k) F A.law_lots_k50.body [sD (lD ws), .un, .un, .un]).bd _ = _
  unfold A.law_lots_k50
  have loop := loopF_idx (g := fun w : Str => toD w) (t := .nm 2) (body := exs (callF P F k) F [.asg (.nm 1) false (.bin .add (.var 1) (.lc [("_law_lot", 3)] (.nm 3) .sq [(.var 1)] .nil (.bin .add (.var 3) (.tup [(.var 2)]))))])
    ws (fun j e => ∃ x y, e = [sD (lD ws), sD (.list ((lawLots (ws.take j)).map lD)), x, y]) (fun j hj env ⟨x, y, he⟩ => by
      subst he
      obtain ⟨q1, q2⟩ := lawLots_len (ws.take j)
      have hle : (lawLots (ws.take j)).length ≤ 32768 := by
        rw [q1]
        exact Nat.le_trans (Nat.pow_le_pow_right (by decide) (show (ws.take j).length ≤ 15 by rw [List.length_take]; omega)) (by decide)
      have lc := lc_map (Φ := callF P F k) (own := [("_law_lot", 3)]) (tg := .nm 3) (k := .sq) (src := [(.var 1)]) (elt := .bin .add (.var 3) (.tup [(.var 2)])) (env := [sD (lD ws), sD (.list ((lawLots (ws.take j)).map lD)), sD (toD ws[j]), y])
        (xs := lawLots (ws.take j)) (g := lD) (h := lD) (q := (· ++ [ws[j]])) (by simp! only [w_sqL]) (Nat.le_trans hle (by decide)) fun l hl => by
          have := q2 l hl
          rw [List.length_take] at this
          rw [lcT_nil]
          simp! only [add_tt _ (l.map toD) [toD ws[j]] (by rw [List.length_map]; exact Nat.le_trans (show l.length + 1 ≤ 1000 by omega) (by decide))]
          rw [show lD (l ++ [ws[j]]) = PyData.tuple ((l ++ [ws[j]]).map toD) from rfl, List.map_append]
          rfl
      refine ⟨[sD (lD ws), sD (.list ((lawLots (ws.take (j + 1))).map lD)), sD (toD ws[j]), y], ?_, _, _, rfl⟩
      rw [lawLots_take hj, List.map_append]
      simp! only [lc, add_ll _ (show ((lawLots (ws.take j)).map lD).length + (((lawLots (ws.take j)).map (· ++ [ws[j]])).map lD).length ≤ LIM by rw [List.length_map, List.length_map, List.length_map]; exact Nat.le_trans (Nat.add_le_add hle hle) (by decide))])
    ws.length 0 [sD (lD ws), sD (.list [.tuple []]), .un, .un] (by omega) ⟨_, _, rfl⟩
  obtain ⟨e', q1, x, y, rfl⟩ := loop
  rw [List.drop_zero, List.take_length] at q1
  simp! only [ex_for, w_sqT, q1]
theorem closed_lots_ok (h : HM P) (hc : P "closed_lots" = some A.closed_lots) (hp : P "plain_closed_lots" = some A.plain_closed_lots) {n : Nat} {ws : List Str} {ls : List Les} (w : WfD ws ls) (hn : 12 ≤ n) : callF P F n "closed_lots" [sD (dD ws ls)] = .ok (ow (.list ((closedL ws ls).map lD))) := by
  obtain ⟨k, rfl, hk⟩ := num hn (by decide)
  rw [callF_s hc rfl]
  show (exs (callF P F k) F A.closed_lots.body [sD (dD ws ls)]).bd _ = _
  unfold A.closed_lots
  have a0 := look_ok (F := F) h (n := k) (by omega) w
  have a1 := plain_closed_lots_ok (F := F) h.l hp (n := k) w (by omega)
  simp! only [a0, a1]
abbrev sS (s : String) : PyData := .str (Str.ofString s)
/-- the odd things -/
def oddL (r : Int) : List PyData := [.none, .bool true, sS "", sS "A", sS "5", .list [.int 1], .tuple [.none], .int (-1 - r), sS "abcdefgh", .list [.list [sS "a"]], .int 1000000000, .tuple [sS "a", .int 1]]
theorem law_odd_ok (hk : P "_law_pick" = some dPick) (hp : P "_law_odd" = some A.law_odd) {n : Nat} (hn : 2 ≤ n) (ns : List Int) (hs : ns.length ≤ 63) (a : Nat) (ha : a < F) (i : Int) (hi : i = a) : ∃ r : Int, callF P F n "_law_odd" [sD (.list (ns.map .int)), sD (.int i)] = .ok (ow (.list (oddL r))) := by
  obtain ⟨k, rfl, hk'⟩ := num hn (by decide)
  subst hi
  obtain ⟨r, hr, er⟩ := pick_i (F := F) hk hk' ns hs a 9 (by decide) ha (a : Int) 9 rfl rfl
  refine ⟨r, ?_⟩
  rw [callF_s hp rfl]
  show (exs (callF P F k) F A.law_odd.body [sD (.list (ns.map .int)), sD (.int (a : Int)), .un]).bd _ = _
  unfold A.law_odd
  have pw : binop .pow .im (.int 10) (.int 9) = .ok (im (.int 1000000000)) := by rfl
  simp! only [er, pw]
  rfl
end
/-- all closed, or not -/
theorem closed_all {ws : List Str} {ls : List Les} (w : WfD ws ls) (hL : sortL (allLots ws) = sortL (lawLots ws)) : decide (closedL ws ls = sortL (lawLots ws)) = (startsL ws ls).isEmpty := by
  have key : startsL ws ls = [] ↔ closedL ws ls = sortL (lawLots ws) := by
    rw [starts_nil, ← hL]
    constructor
    · intro h
      unfold closedL
      have : (allLots ws).filter (fun l => decide (tn ls l = l)) = allLots ws := by
        rw [List.filter_eq_self]
        intro l hl
        exact decide_eq_true ((tn_kn w ((allLots_mem w.rise).mp hl)).mpr (h l hl))
      rw [this]
    · intro h l hl
      have h1 : ((allLots ws).filter (fun l => decide (tn ls l = l))).length = (allLots ws).length := by
        rw [← (sortL_perm ((allLots ws).filter fun l => decide (tn ls l = l))).length_eq, ← (sortL_perm (allLots ws)).length_eq]
        exact congrArg List.length h
      have h2 := List.length_filter_eq_length_iff.mp h1 l hl
      exact (tn_kn w ((allLots_mem w.rise).mp hl)).mp (of_decide_eq_true h2)
  cases e : startsL ws ls with
  | nil => exact decide_eq_true (key.mp e)
  | cons a r =>
    refine decide_eq_false fun c => ?_
    have := key.mpr c
    rw [e] at this
    cases this
theorem WA_lots : ∀ k, 2 ≤ k → k ≤ 6 → sortL (allLots (WA.take k)) = sortL (lawLots (WA.take k)) := by
  have h2 : sortL (allLots (WA.take 2)) = sortL (lawLots (WA.take 2)) := by decide +kernel
  have h3 : sortL (allLots (WA.take 3)) = sortL (lawLots (WA.take 3)) := by decide +kernel
  have h4 : sortL (allLots (WA.take 4)) = sortL (lawLots (WA.take 4)) := by decide +kernel
  have h5 : sortL (allLots (WA.take 5)) = sortL (lawLots (WA.take 5)) := by decide +kernel
  have h6 : sortL (allLots (WA.take 6)) = sortL (lawLots (WA.take 6)) := by decide +kernel
  intro k a b
  have : k = 2 ∨ k = 3 ∨ k = 4 ∨ k = 5 ∨ k = 6 := by omega
  rcases this with rfl | rfl | rfl | rfl | rfl <;> assumption
end Tdl
/-! TpK68b: the law on matched lessons, its turns. -/
namespace Tdl
open PySem PySem.W
structure H68 (P : String → Option Fn) : Prop where
  m : HM P
  pick : P "_law_pick" = some dPick
  dict : P "_law_dictionary" = some A.law_dictionary_k50
  lots : P "_law_lots" = some A.law_lots_k50
  odd : P "_law_odd" = some A.law_odd
  matched : P "matched" = some A.matched
  is_matched : P "is_matched" = some A.is_matched
  closed_lots : P "closed_lots" = some A.closed_lots
  plain_closed_lots : P "plain_closed_lots" = some A.plain_closed_lots
  law : P "law" = some A.law_k68
section
variable {P : String → Option Fn} {F : Nat}
theorem mut_pop {xs : List PyData} {i : Nat} (h : i < xs.length) : mutop .pop (.list xs) [.int (i : Int)] = .ok (.list (xs.eraseIdx i)) := by
  show (match place xs.length (i : Int) with | some j => Res.ok (PyData.list (xs.eraseIdx j)) | none => .err) = _
  rw [place_nat h]
theorem g_pop (xs : List PyData) : mutG .pop (.list xs) = true := rfl
theorem put_L {xs : List PyData} {i : Nat} (v : PyData) (h : i < xs.length) : putop (.list xs) (.int (i : Int)) v = .ok (.list (xs.set i v)) := by
  show (match place xs.length (i : Int) with | some j => Res.ok (PyData.list (xs.set j v)) | none => .err) = _
  rw [place_nat h]
theorem rev_L (xs : List PyData) : revop (.list xs) = .ok (ow (.list xs.reverse)) := rfl
theorem all_cg {α : Type} {f g : α → Bool} : ∀ {xs : List α}, (∀ x ∈ xs, f x = g x) → xs.all f = xs.all g
  | [], _ => rfl
  | x :: xs, h => by rw [List.all_cons, List.all_cons, h x List.mem_cons_self, all_cg fun y hy => h y (List.mem_cons_of_mem _ hy)]
theorem erase_map {α β : Type} (f : α → β) : ∀ (xs : List α) (i : Nat), (xs.map f).eraseIdx i = (xs.eraseIdx i).map f
  | [], _ => rfl
  | x :: xs, 0 => rfl
  | x :: xs, i + 1 => by
    show f x :: (xs.map f).eraseIdx i = f x :: (xs.eraseIdx i).map f
    rw [erase_map f xs i]
/-- the rows that a turn asks about -/
abbrev bodyP : List Stm := [
      .par [5, 6] [true, false] [(.blt .list [(.var 2)]), (.bin .add (.cst (.int 100)) (.bin .mul (.cst (.int 9)) (.var 4)))],
      .asg (.nm 7) false (.ite (.bop true [(.cmp .gt (.var 4) (.cst (.int 0))), (.cmp .ne (.var 2) (.lst []))]) (.call "_law_pick" [(.var 0), (.var 6), (.cst (.int 5))]) (.cst (.int 9))),
      .asg (.nm 8) false (.call "_law_pick" [(.var 0), (.bin .add (.var 6) (.cst (.int 1))), (.blt .max2 [(.blt .len [(.var 2)]), (.cst (.int 1))])])]
abbrev bodyC : List Stm := [
      .iff (.cmp .eq (.var 7) (.cst (.int 0))) [
      .mut .pop 5 [(.var 8)]] [
      .iff (.cmp .lt (.var 7) (.cst (.int 3))) [
      .put 5 (.var 8) (.tup [(.idx (.idx (.var 5) (.var 8)) (.cst (.int 0))), (.idx (.var 3) (.call "_law_pick" [(.var 0), (.bin .add (.var 6) (.cst (.int 2))), (.blt .len [(.var 3)])]))])] [
      .iff (.cmp .eq (.var 7) (.cst (.int 3))) [
      .asg (.nm 5) true (.rev (.var 5))] [
      .iff (.cmp .eq (.var 7) (.cst (.int 4))) [
      .put 5 (.var 8) (.tup [(.slc (.idx (.var 1) (.cst (.int 0))) .nil (.call "_law_pick" [(.var 0), (.bin .add (.var 6) (.cst (.int 3))), (.cst (.int 4))])), (.idx (.idx (.var 5) (.var 8)) (.cst (.int 1)))])] []]]]]
abbrev body1 : List Stm := bodyP ++ bodyC
abbrev body2 : List Stm := [
      .asg (.nm 9) false (.cmp .eq (.lc [("_law_row", 10)] (.nm 10) .sq [(.var 5)] .nil (.idx (.var 10) (.cst (.int 0)))) (.lc [("_law_row", 10)] (.nm 10) .sq [(.var 2)] .nil (.idx (.var 10) (.cst (.int 0))))),
      .for_ (.tp [(.nm 11), (.nm 12)]) .sq [(.var 5)] [
      .asg (.nm 9) false (.bop true [(.var 9), (.blt .all [(.lc [("_law_word", 13)] (.nm 13) .sq [(.idx (.var 12) (.cst (.int 0)))] .nil (.cmp .isin (.var 13) (.var 11)))])]),
      .asg (.nm 9) false (.bop true [(.var 9), (.nt (.blt .all [(.lc [("_law_word", 13)] (.nm 13) .sq [(.idx (.var 12) (.cst (.int 1)))] .nil (.cmp .isin (.var 13) (.var 11)))]))])],
      .iff (.cmp .ne (.call "is_matched" [(.var 1), (.var 5)]) (.var 9)) [
      .ret (.cst (.bool false))] []]
theorem max2_len (n : Nat) : bltop .max2 [.int (n : Int), .int 1] = .ok (im (.int ((max n 1 : Nat) : Int))) := by
  rw [max2_ii]
  by_cases h : (1 : Int) > n
  · rw [if_pos h, show max n 1 = 1 by omega]
    rfl
  · rw [if_neg h, show max n 1 = n by omega]
theorem turn1 (h : H68 P) {n : Nat} (hn : 2 ≤ n) (ns : List Int) (hs : ns.length ≤ 63) (hF : 1000 < F) {ws : List Str} {ls : List Les} (w : WfD ws ls) (k : Nat) (hk : k < 7) (x4 x5 x6 x7 x8 x9 x10 x11 x12 x13 x14 x15 : SV) :
    ∃ (so : List Row2) (y6 y7 y8 : SV), so.length ≤ 100000 ∧ (∀ r ∈ so, r.2 ∈ ls) ∧ exs (callF P F n) F body1 [sD (.list (ns.map .int)), sD (dD ws ls), sD (.list ((mtL ws ls).map rD)), sD (lsD ls), sD (.int (k : Int)), x5, x6, x7, x8, x9, x10, x11, x12, x13, x14, x15] =
      .ok (.nx [sD (.list (ns.map .int)), sD (dD ws ls), sD (.list ((mtL ws ls).map rD)), sD (lsD ls), sD (.int (k : Int)), .rv (ow (.list (so.map rD))), y6, y7, y8, x9, x10, x11, x12, x13, x14, x15]) := by
  have hmul := mul_ii .im (i := 9) (j := (k : Int)) (.inl (by decide))
  have hml : (mtL ws ls).length ≤ 100000 := by unfold mtL; rw [List.length_map]; exact starts_len w
  have hmm : ∀ r ∈ mtL ws ls, r.2 ∈ ls := fun r hr => by
    obtain ⟨l, hl, rfl⟩ := List.mem_map.mp hr
    obtain ⟨h1, h2⟩ := starts_mem w hl
    exact (firstS_ok w h1 h2).1
  have pl := rows_plain (mtL ws ls)
  generalize mtL ws ls = mt at *
  have hh : (100 : Int) + 9 * (k : Int) = ((100 + 9 * k : Nat) : Int) := by omega
  obtain ⟨j, hj, ej⟩ := pick_i (F := F) h.pick (show 1 ≤ n by omega) ns hs (100 + 9 * k + 1) (max mt.length 1) (by omega) (by omega) (((100 + 9 * k : Nat) : Int) + 1) ((max mt.length 1 : Nat) : Int) (by omega) rfl
  obtain ⟨c, hc, ec⟩ := pick_i (F := F) h.pick (show 1 ≤ n by omega) ns hs (100 + 9 * k) 5 (by omega) (by omega) ((100 + 9 * k : Nat) : Int) 5 rfl rfl
  obtain ⟨t, ht, et⟩ := pick_i (F := F) h.pick (show 1 ≤ n by omega) ns hs (100 + 9 * k + 3) 4 (by omega) (by omega) (((100 + 9 * k : Nat) : Int) + 3) 4 (by omega) rfl
  have e8 := max2_len mt.length
  have hemp : (!(mt.map rD).isEmpty) = !mt.isEmpty := by cases mt <;> rfl
  generalize hH : 100 + 9 * k = H at *
  by_cases hg : 0 < k ∧ mt ≠ []
  · obtain ⟨g1, g2⟩ := hg
    have ne : mt.isEmpty = false := by cases mt with | nil => exact absurd rfl g2 | cons => rfl
    have mpos : 0 < mt.length := List.length_pos_iff.mpr g2
    have hj' : j < mt.length := by omega
    have lpos : 0 < ls.length := List.length_pos_of_mem (hmm _ (List.getElem_mem hj'))
    have k0 : decide ((0 : Int) < (k : Int)) = true := decide_eq_true (by omega)
    have pre : exs (callF P F n) F bodyP [sD (.list (ns.map .int)), sD (dD ws ls), sD (.list (mt.map rD)), sD (lsD ls), sD (.int (k : Int)), x5, x6, x7, x8, x9, x10, x11, x12, x13, x14, x15] = .ok (.nx [sD (.list (ns.map .int)), sD (dD ws ls), sD (.list (mt.map rD)), sD (lsD ls), sD (.int (k : Int)), .rv (ow (.list (mt.map rD))), sD (.int (H : Int)), sD (.int (c : Int)), sD (.int (j : Int)), x9, x10, x11, x12, x13, x14, x15]) := by
      simp! only [b_listL, hmul, hh, k0, c_ne_nil pl, hemp, ne, Bool.not_false, ec, b_lenL, List.length_map, e8, ej]
    rw [exs_app, pre, bd_ok, kS_nx]
    have ix := idx_Lm rD mt hj'
    have cs : c = 0 ∨ c = 1 ∨ c = 2 ∨ c = 3 ∨ c = 4 := by omega
    have caseB : ∀ c : Nat, c = 1 ∨ c = 2 → ∃ (so : List Row2) (y6 y7 y8 : SV), so.length ≤ 100000 ∧ (∀ r ∈ so, r.2 ∈ ls) ∧ exs (callF P F n) F bodyC [sD (.list (ns.map .int)), sD (dD ws ls), sD (.list (mt.map rD)), sD (lsD ls), sD (.int (k : Int)), .rv (ow (.list (mt.map rD))), sD (.int (H : Int)), sD (.int (c : Int)), sD (.int (j : Int)), x9, x10, x11, x12, x13, x14, x15] =
        .ok (.nx [sD (.list (ns.map .int)), sD (dD ws ls), sD (.list (mt.map rD)), sD (lsD ls), sD (.int (k : Int)), .rv (ow (.list (so.map rD))), y6, y7, y8, x9, x10, x11, x12, x13, x14, x15]) := fun c hc => by
      obtain ⟨q, hq, eq⟩ := pick_i (F := F) h.pick (show 1 ≤ n by omega) ns hs (H + 2) ls.length lpos (by omega) ((H : Int) + 2) (ls.length : Int) (by omega) rfl
      have iq := idx_Tm (fun p : Les => toD p) ls hq
      refine ⟨mt.set j (mt[j].1, ls[q]), sD (.int (H : Int)), sD (.int (c : Int)), sD (.int (j : Int)), by rw [List.length_set]; exact hml, fun r hr => ?_, ?_⟩
      · rcases List.mem_or_eq_of_mem_set hr with z | z
        · exact hmm r z
        · rw [z]; exact List.getElem_mem hq
      · have pu := put_L (xs := mt.map rD) (.tuple [lD mt[j].1, toD ls[q]]) (i := j) (by rw [List.length_map]; exact hj')
        simp! only [c_eq_i, decide_eq_false (show ¬ (c : Int) = 0 by omega), decide_eq_true (show (c : Int) < 3 by omega), ix, rD0, b_lenT, List.length_map, eq, iq, pu]
        rw [List.map_set]
    rcases cs with rfl | rfl | rfl | rfl | rfl
    · refine ⟨mt.eraseIdx j, sD (.int (H : Int)), sD (.int ((0 : Nat) : Int)), sD (.int (j : Int)), Nat.le_trans (List.length_eraseIdx_le mt j) hml, fun r hr => hmm r (List.mem_of_mem_eraseIdx hr), ?_⟩
      have po := mut_pop (xs := mt.map rD) (i := j) (by rw [List.length_map]; exact hj')
      simp! only [c_eq_i, show decide (((0 : Nat) : Int) = 0) = true from rfl, g_pop, po]
      rw [erase_map]
    · exact caseB 1 (.inl rfl)
    · exact caseB 2 (.inr rfl)
    · refine ⟨mt.reverse, sD (.int (H : Int)), sD (.int ((3 : Nat) : Int)), sD (.int (j : Int)), by rw [List.length_reverse]; exact hml, fun r hr => hmm r (List.mem_reverse.mp hr), ?_⟩
      simp! only [c_eq_i, show decide (((3 : Nat) : Int) = 0) = false from rfl, show decide (((3 : Nat) : Int) < 3) = false from rfl, show decide (((3 : Nat) : Int) = 3) = true from rfl, rev_L]
      rw [List.map_reverse]
    · refine ⟨mt.set j (ws.take t, mt[j].2), sD (.int (H : Int)), sD (.int ((4 : Nat) : Int)), sD (.int (j : Int)), by rw [List.length_set]; exact hml, fun r hr => ?_, ?_⟩
      · rcases List.mem_or_eq_of_mem_set hr with z | z
        · exact hmm r z
        · rw [z]; exact hmm mt[j] (List.getElem_mem hj')
      · have pu := put_L (xs := mt.map rD) (.tuple [lD (ws.take t), toD mt[j].2]) (i := j) (by rw [List.length_map]; exact hj')
        have st := slc_to toD ws t (t : Int) rfl
        simp! only [c_eq_i, show decide (((4 : Nat) : Int) = 0) = false from rfl, show decide (((4 : Nat) : Int) < 3) = false from rfl, show decide (((4 : Nat) : Int) = 3) = false from rfl, show decide (((4 : Nat) : Int) = 4) = true from rfl, dD0, et, st, ix, rD1, pu]
        rw [List.map_set]
  · refine ⟨mt, sD (.int (H : Int)), sD (.int 9), sD (.int (j : Int)), hml, hmm, ?_⟩
    by_cases g1 : 0 < k
    · have g2 : mt = [] := Classical.byContradiction fun z => hg ⟨g1, z⟩
      have k0 : decide ((0 : Int) < (k : Int)) = true := decide_eq_true (by omega)
      have ne : mt.isEmpty = true := by rw [g2]; rfl
      rw [exs_app]
      simp! only [b_listL, hmul, hh, k0, c_ne_nil pl, hemp, ne, Bool.not_true, b_lenL, List.length_map, e8, ej, c_eq_i, show decide ((9 : Int) = 0) = false from rfl, show decide ((9 : Int) < 3) = false from rfl, show decide ((9 : Int) = 3) = false from rfl, show decide ((9 : Int) = 4) = false from rfl]
    · have k0 : decide ((0 : Int) < (k : Int)) = false := decide_eq_false (by omega)
      rw [exs_app]
      simp! only [b_listL, hmul, hh, k0, b_lenL, List.length_map, e8, ej, c_eq_i, show decide ((9 : Int) = 0) = false from rfl, show decide ((9 : Int) < 3) = false from rfl, show decide ((9 : Int) = 3) = false from rfl, show decide ((9 : Int) = 4) = false from rfl]
theorem turn2 (h : H68 P) {n : Nat} (hn : 14 ≤ n) (S : SV) (hF : 1000 < F) {ws : List Str} {ls : List Les} (w : WfD ws ls) (so : List Row2) (hl : so.length ≤ 100000) (hm : ∀ r ∈ so, r.2 ∈ ls) (L x4 x6 x7 x8 x9 x10 x11 x12 x13 x14 x15 : SV) :
    ∃ (y5 y9 y11 y12 : SV), exs (callF P F n) F body2 [S, sD (dD ws ls), sD (.list ((mtL ws ls).map rD)), L, x4, .rv (ow (.list (so.map rD))), x6, x7, x8, x9, x10, x11, x12, x13, x14, x15] =
      .ok (.nx [S, sD (dD ws ls), sD (.list ((mtL ws ls).map rD)), L, x4, y5, x6, x7, x8, y9, x10, y11, y12, x13, x14, x15]) := by
  have hml : (mtL ws ls).length ≤ 100000 := by unfold mtL; rw [List.length_map]; exact starts_len w
  have hms : (mtL ws ls).map (·.1) = startsL ws ls := by
    unfold mtL
    rw [List.map_map]
    exact (List.map_congr_left fun l _ => rfl).trans (List.map_id _)
  have im' := is_matched_ok (F := F) h.m h.is_matched (n := n) w (by omega) (by omega) (m := .im) (.inl rfl) (rs := so) (Nat.le_trans hl (by decide))
  generalize mtL ws ls = mt at *
  have lim : ∀ {a : List Str}, LotOf ws a → a.length ≤ LIM := fun ha => Nat.le_trans ha.len (Nat.le_trans w.few (by decide))
  have l5 : ev (callF P F n) (.lc [("_law_row", 10)] (.nm 10) .sq [(.var 5)] .nil (.idx (.var 10) (.cst (.int 0)))) [S, sD (dD ws ls), sD (.list (mt.map rD)), L, x4, .rv (ow (.list (so.map rD))), x6, x7, x8, x9, x10, x11, x12, x13, x14, x15] = .ok (ow (.list ((so.map (·.1)).map lD))) := by
    refine lc_map (g := rD) (by simp! only [w_sqL]) (Nat.le_trans hl (by decide)) fun r hr => ?_
    rw [lcT_nil]
    simp! only [rD0]
  have l2 : ev (callF P F n) (.lc [("_law_row", 10)] (.nm 10) .sq [(.var 2)] .nil (.idx (.var 10) (.cst (.int 0)))) [S, sD (dD ws ls), sD (.list (mt.map rD)), L, x4, .rv (ow (.list (so.map rD))), x6, x7, x8, x9, x10, x11, x12, x13, x14, x15] = .ok (ow (.list ((mt.map (·.1)).map lD))) := by
    refine lc_map (g := rD) (by simp! only [w_sqL]) (Nat.le_trans hml (by decide)) fun r hr => ?_
    rw [lcT_nil]
    simp! only [rD0]
  have loop := loopF_fold (g := rD) (t := .tp [(.nm 11), (.nm 12)]) (body := exs (callF P F n) F [
      .asg (.nm 9) false (.bop true [(.var 9), (.blt .all [(.lc [("_law_word", 13)] (.nm 13) .sq [(.idx (.var 12) (.cst (.int 0)))] .nil (.cmp .isin (.var 13) (.var 11)))])]),
      .asg (.nm 9) false (.bop true [(.var 9), (.nt (.blt .all [(.lc [("_law_word", 13)] (.nm 13) .sq [(.idx (.var 12) (.cst (.int 1)))] .nil (.cmp .isin (.var 13) (.var 11)))]))])])
    (R := fun (b : Bool) e => ∃ y11 y12, e = [S, sD (dD ws ls), sD (.list (mt.map rD)), L, x4, sD (.list (so.map rD)), x6, x7, x8, sD (.bool b), x10, y11, y12, x13, x14, x15]) (fun b r => b && stands r.2 r.1) so (decide (so.map (·.1) = mt.map (·.1)))
    [S, sD (dD ws ls), sD (.list (mt.map rD)), L, x4, sD (.list (so.map rD)), x6, x7, x8, sD (.bool (decide (so.map (·.1) = mt.map (·.1)))), x10, x11, x12, x13, x14, x15] ⟨_, _, rfl⟩ fun b e r hr ⟨y11, y12, he⟩ => by
      subst he
      refine ⟨[S, sD (dD ws ls), sD (.list (mt.map rD)), L, x4, sD (.list (so.map rD)), x6, x7, x8, sD (.bool (b && stands r.2 r.1)), x10, sD (lD r.1), sD (toD r.2), x13, x14, x15], ?_, _, _, rfl⟩
      cases b with
      | false => simp! only [Bool.false_and]
      | true =>
        have q0 : ∀ c : Bool, ev (callF P F n) (.lc [("_law_word", 13)] (.nm 13) .sq [(.idx (.var 12) (.cst (.int 0)))] .nil (.cmp .isin (.var 13) (.var 11))) [S, sD (dD ws ls), sD (.list (mt.map rD)), L, x4, sD (.list (so.map rD)), x6, x7, x8, sD (.bool c), x10, sD (lD r.1), sD (toD r.2), x13, x14, x15] = .ok (ow (.list ((r.2.1.items.map fun v => decide (v ∈ r.1)).map .bool))) := fun c => by
          refine lc_map (g := toD) (by simp! only [les0, w_sqT]) (lim (w.need r.2 (hm r hr))) fun v _ => ?_
          rw [lcT_nil]
          simp! only [c_inT]
        have q1 : ∀ c : Bool, ev (callF P F n) (.lc [("_law_word", 13)] (.nm 13) .sq [(.idx (.var 12) (.cst (.int 1)))] .nil (.cmp .isin (.var 13) (.var 11))) [S, sD (dD ws ls), sD (.list (mt.map rD)), L, x4, sD (.list (so.map rD)), x6, x7, x8, sD (.bool c), x10, sD (lD r.1), sD (toD r.2), x13, x14, x15] = .ok (ow (.list ((r.2.2.items.map fun v => decide (v ∈ r.1)).map .bool))) := fun c => by
          refine lc_map (g := toD) (by simp! only [les1, w_sqT]) (lim (w.taught r.2 (hm r hr)).1) fun v _ => ?_
          rw [lcT_nil]
          simp! only [c_inT]
        have z0 : ((r.2.1.items.map fun v => decide (v ∈ r.1)).all id) = liesIn r.2.1.items r.1 := by rw [List.all_map]; rfl
        have z1 : ((r.2.2.items.map fun v => decide (v ∈ r.1)).all id) = liesIn r.2.2.items r.1 := by rw [List.all_map]; rfl
        cases z : liesIn r.2.1.items r.1 with
        | false => simp! only [q0, b_all, z0, z, stands, Bool.false_and, Bool.true_and]
        | true => simp! only [q0, b_all, z0, z, q1, z1, stands, Bool.true_and]
  obtain ⟨e', q1, y11, y12, rfl⟩ := loop
  have fo : ∀ (xs : List Row2) (b : Bool), xs.foldl (fun b r => b && stands r.2 r.1) b = (b && xs.all fun r => stands r.2 r.1) := by
    intro xs
    induction xs with
    | nil => intro b; simp
    | cons x xs ih =>
      intro b
      rw [List.foldl_cons, ih, List.all_cons, Bool.and_assoc]
  have same : so.foldl (fun b r => b && stands r.2 r.1) (decide (so.map (·.1) = mt.map (·.1))) = isMt ws ls so := by
    rw [fo, hms]
    unfold isMt
    congr 1
    exact all_cg fun r hr => by rw [decide_eq_true (hm r hr), Bool.true_and]
  refine ⟨sD (.list (so.map rD)), sD (.bool (isMt ws ls so)), y11, y12, ?_⟩
  rw [same] at q1
  simp! only [l5, l2, c_eqLL, ex_for, w_sqL, q1, im', c_neB, decide_true, Bool.not_true]
end
end Tdl
/-! TpK68c: the law on matched lessons, whole. -/
namespace Tdl
open PySem PySem.W
theorem pl_app : ∀ xs ys : List PyData, PyData.plainAll (xs ++ ys) = (PyData.plainAll xs && PyData.plainAll ys)
  | [], ys => by simp [PyData.plainAll]
  | x :: xs, ys => by
    show PyData.plainAll (x :: (xs ++ ys)) = _
    simp only [PyData.plainAll, pl_app xs ys, Bool.and_assoc]
theorem pl_map {α : Type} {g : α → PyData} : ∀ {xs : List α}, (∀ x ∈ xs, (g x).plain = true) → PyData.plainAll (xs.map g) = true
  | [], _ => by simp [PyData.plainAll]
  | x :: r, h => by
    rw [List.map_cons]
    simp only [PyData.plainAll, h x List.mem_cons_self, pl_map fun y hy => h y (List.mem_cons_of_mem _ hy), Bool.and_self]
theorem all_last {xs : List PyData} {y : PyData} (h : isT2 y = false) : (xs ++ [y]).all isT2 = false := by
  rw [List.all_append]
  show (xs.all isT2 && (isT2 y && true)) = false
  rw [h, Bool.false_and, Bool.and_false]
/-- what stands at the end of some rows -/
abbrev nnD : PyData := .tuple [.tuple [], .tuple []]
abbrev Row3 : Type := List Str × List PyData
abbrev rG (r : Row3) : PyData := .tuple [lD r.1, .tuple r.2]
abbrev to3 (r : Row2) : Row3 := (r.1, [toD r.2.1, toD r.2.2])
abbrev zzL : Les := (⟨[Str.ofString "zz"]⟩, ⟨[Str.ofString "zz"]⟩)
/-- what is no matching -/
abbrev bad1 (r : Int) (mt : List Row2) : List PyData := oddL r ++ [.tuple (mt.map rD ++ [.int 1]), .list (mt.map rD ++ [.none]), .list (mt.map rD ++ [nnD])]
abbrev bad2 (r : Int) (mt : List Row2) : List PyData := bad1 r mt ++ [.list (mt.map (fun r => PyData.tuple [lD r.1, .none]) ++ [.int 1])]
def badL (r : Int) (mt : List Row2) : List PyData := bad2 r mt ++ [.list (mt.map (fun r => PyData.tuple [lD r.1, toD zzL]) ++ [nnD]), .list (mt.map (fun r => PyData.tuple [lD r.1]) ++ [.tuple []])]
section
variable {P : String → Option Fn} {F : Nat}
/-- rows of a lot and some tuple, other lots than the starts -/
theorem is_matched_other (h : HM P) (hp : P "is_matched" = some A.is_matched) {n : Nat} {ws : List Str} {ls : List Les} (w : WfD ws ls) (hn : 12 ≤ n) (hF : 8 < F) {rs : List Row3} (hl : rs.length ≤ LIM) (hr : ∀ r ∈ rs, PyData.plainAll r.2 = true) (ho : rs.length ≠ (startsL ws ls).length) : callF P F n "is_matched" [sD (dD ws ls), sD (.list (rs.map rG))] = .ok (im (.bool false)) := by
  obtain ⟨k, rfl, hk⟩ := num hn (by decide)
  have hf := w.few
  rw [callF_s hp rfl]
  show (exs (callF P F k) F A.is_matched.body [sD (dD ws ls), sD (.list (rs.map rG)), .un]).bd _ = _
  unfold A.is_matched
  have a0 := look_ok (F := F) h (n := k) (by omega) w
  have a1 := plain_starts_ok (F := F) h.l h.plain_starts (n := k) w (by omega) hF
  have pl : ∀ r : Row3, (lD r.1).plain = true := fun r => Datum.plain (⟨r.1⟩ : Lot)
  have pl2 : ∀ r ∈ rs, (PyData.tuple r.2).plain = true := fun r q => by simp only [PyData.plain, hr r q]
  have hx : PyData.plainAll (rs.map rG) = true := pl_map fun r q => by
    show ((lD r.1).plain && ((PyData.tuple r.2).plain && true)) = true
    rw [pl, pl2 r q]
    rfl
  have hd : (PyData.list (rs.map rG)).plain = true := by simp only [PyData.plain, hx]
  have l1 := t2_lc (P := P) (F := F) (k := k) (sD (dD ws ls)) .im (.inl rfl) hx (by rw [List.length_map]; exact hl)
  have t1 : (((rs.map rG).map isT2).all id) = true := by
    rw [List.map_map, List.all_map]
    exact List.all_eq_true.mpr fun r _ => rfl
  have i0 : ∀ r : Row3, idxop (rG r) (.int 0) = .ok (lD r.1) := fun _ => rfl
  have i1 : ∀ r : Row3, idxop (rG r) (.int 1) = .ok (.tuple r.2) := fun _ => rfl
  have it : ∀ r : Row3, isiop (.tuple r.2) .tuple = true := fun _ => rfl
  have l2 : ev (callF P F k) (.lc [("row", 2)] (.nm 2) .sq [(.var 1)] .nil (.bop true [(.isi (.idx (.var 2) (.cst (.int 0))) .tuple), (.isi (.idx (.var 2) (.cst (.int 1))) .tuple)])) [sD (dD ws ls), sD (.list (rs.map rG)), .un] = .ok (ow (.list ((rs.map fun _ => true).map .bool))) := by
    refine lc_map (g := rG) (by simp! only [w_sqL]) hl fun r q => ?_
    rw [lcT_nil]
    simp! only [i0, i1, pl r, pl2 r q, isi_lD, it]
  have t2 : ((rs.map fun _ => true).all id) = true := by
    rw [List.all_map]
    exact List.all_eq_true.mpr fun r _ => rfl
  have l3 : ev (callF P F k) (.lc [("row", 2)] (.nm 2) .sq [(.var 1)] .nil (.idx (.var 2) (.cst (.int 0)))) [sD (dD ws ls), sD (.list (rs.map rG)), .un] = .ok (ow (.list ((rs.map (·.1)).map lD))) := by
    refine lc_map (g := rG) (by simp! only [w_sqL]) hl fun r q => ?_
    rw [lcT_nil]
    simp! only [i0]
  have c : decide (rs.map (·.1) = startsL ws ls) = false := decide_eq_false fun e => ho (by rw [← e, List.length_map])
  simp! only [a0, hd, show isiop (.list (rs.map rG)) .list = true from rfl, Bool.not_true, l1, b_all, t1, l2, t2, l3, a1, c_neLL, c, Bool.not_false]
theorem isMt_long {ws : List Str} {ls : List Les} {rs : List Row2} (h : rs.length ≠ (startsL ws ls).length) : isMt ws ls rs = false := by
  unfold isMt
  rw [decide_eq_false fun e => h (by rw [← e, List.length_map])]
  rfl
theorem badL_all (h : H68 P) (hF : 1000 < F) {n : Nat} (hn : 12 ≤ n) {ws : List Str} {ls : List Les} (w : WfD ws ls) (r : Int) : ∀ d ∈ badL r (mtL ws ls), callF P F n "is_matched" [sD (dD ws ls), sD d] = .ok (im (.bool false)) := by
  have hml : (mtL ws ls).length = (startsL ws ls).length := by unfold mtL; rw [List.length_map]
  have hsl := starts_len w
  have not := fun {d : PyData} (hd : d.plain = true) (hb : isiop d .list = false) => is_matched_not (F := F) h.m h.is_matched w hn hd hb
  have bad := fun {xs : List PyData} (hx : PyData.plainAll xs = true) (hl : xs.length ≤ LIM) (hb : xs.all isT2 = false) => is_matched_bad (F := F) h.m h.is_matched w hn hx hl hb
  have long := fun {rs : List Row3} (hl : rs.length ≤ LIM) (hr : ∀ r ∈ rs, PyData.plainAll r.2 = true) (hb : rs.length ≠ (startsL ws ls).length) => is_matched_other (F := F) h.m h.is_matched w hn (by omega) hl hr hb
  have pl := rows_plain (mtL ws ls)
  have pll : ∀ r : Row2, (lD r.1).plain = true := fun r => Datum.plain (⟨r.1⟩ : Lot)
  generalize mtL ws ls = mt at *
  have hlen : mt.length + 1 ≤ LIM := Nat.le_trans (show mt.length + 1 ≤ 100001 by omega) (by decide)
  unfold badL bad2 bad1 oddL
  refine List.forall_mem_cons.mpr ⟨not rfl rfl, List.forall_mem_cons.mpr ⟨not rfl rfl, List.forall_mem_cons.mpr ⟨not rfl rfl, List.forall_mem_cons.mpr ⟨not rfl rfl, List.forall_mem_cons.mpr ⟨not rfl rfl, ?_⟩⟩⟩⟩⟩
  refine List.forall_mem_cons.mpr ⟨bad (by decide) (by decide) (by decide), List.forall_mem_cons.mpr ⟨not (by decide) rfl, List.forall_mem_cons.mpr ⟨not rfl rfl, List.forall_mem_cons.mpr ⟨not rfl rfl, List.forall_mem_cons.mpr ⟨bad (by simp [PyData.plainAll, PyData.plain]) (by decide) (by decide), ?_⟩⟩⟩⟩⟩
  refine List.forall_mem_cons.mpr ⟨not rfl rfl, List.forall_mem_cons.mpr ⟨not (by simp [PyData.plainAll, PyData.plain]) rfl, ?_⟩⟩
  refine List.forall_mem_cons.mpr ⟨not (by simp only [PyData.plain, pl_app, pl]; rfl) rfl, ?_⟩
  refine List.forall_mem_cons.mpr ⟨bad (by rw [pl_app, pl]; rfl) (by rw [List.length_append, List.length_map]; exact hlen) (all_last rfl), ?_⟩
  refine List.forall_mem_cons.mpr ⟨?_, ?_⟩
  · have e : mt.map rD ++ [nnD] = (mt.map to3 ++ [([], [])]).map rG := by rw [List.map_append, List.map_map]; rfl
    rw [e]
    refine long (by rw [List.length_append, List.length_map]; exact hlen) (fun r hr => ?_) (by rw [List.length_append, List.length_map, hml]; exact Nat.succ_ne_self _)
    rcases List.mem_append.mp hr with q | q
    · obtain ⟨r', _, rfl⟩ := List.mem_map.mp q
      show ((toD r'.2.1 : PyData).plain && ((toD r'.2.2 : PyData).plain && true)) = true
      rw [Datum.plain, Datum.plain]
      rfl
    · rw [List.mem_singleton.mp q]
      simp [PyData.plainAll]
  refine List.forall_mem_cons.mpr ⟨bad (by
    rw [pl_app, pl_map fun r _ => by
      show ((lD r.1).plain && (PyData.none.plain && true)) = true
      rw [pll]
      rfl]
    rfl) (by rw [List.length_append, List.length_map]; exact hlen) (all_last rfl), ?_⟩
  refine List.forall_mem_cons.mpr ⟨?_, ?_⟩
  · have e : mt.map (fun r => PyData.tuple [lD r.1, toD zzL]) ++ [nnD] = ((mt.map fun r : Row2 => to3 (r.1, zzL)) ++ [([], [])]).map rG := by rw [List.map_append, List.map_map]; rfl
    rw [e]
    refine long (by rw [List.length_append, List.length_map]; exact hlen) (fun r hr => ?_) (by rw [List.length_append, List.length_map, hml]; exact Nat.succ_ne_self _)
    rcases List.mem_append.mp hr with q | q
    · obtain ⟨r', _, rfl⟩ := List.mem_map.mp q
      show ((toD zzL.1 : PyData).plain && ((toD zzL.2 : PyData).plain && true)) = true
      rw [Datum.plain]
      rfl
    · rw [List.mem_singleton.mp q]
      simp [PyData.plainAll]
  refine List.forall_mem_cons.mpr ⟨bad (by
    rw [pl_app, pl_map fun r _ => by
      show ((lD r.1).plain && true) = true
      rw [pll]
      rfl]
    rfl) (by rw [List.length_append, List.length_map]; exact hlen) (all_last rfl), ?_⟩
  intro d hd
  cases hd
theorem law68 (h : H68 P) (hF : 1000 < F) {n : Nat} (hn : 16 ≤ n) (ns : List Int) (hs : ns.length ≤ 63) : callF P F n "law" [sD (.list (ns.map .int))] = .ok (im (.bool true)) := by
  obtain ⟨k, rfl, hk⟩ := num hn (by decide)
  rw [callF_s h.law rfl]
  show (exs (callF P F k) F A.law_k68.body [sD (.list (ns.map .int)), .un, .un, .un, .un, .un, .un, .un, .un, .un, .un, .un, .un, .un, .un, .un]).bd _ = _
  obtain ⟨q, ls, q2, q5, w, hl, ed⟩ := law_dictionary_ok (F := F) h.pick h.dict (n := k) (by omega) ns hs 10 5 7 (by decide) (by decide) (by omega)
  have hL := WA_lots q q2 (by omega)
  have ed' : callF P F k "_law_dictionary" [sD (.list (ns.map .int)), sD (.int 10), sD (.int 5), sD (.int 7)] = .ok (im (dD (WA.take q) ls)) := ed
  generalize WA.take q = ws at *
  have hf := w.few
  have em := matched_ok (F := F) h.m h.matched (n := k) w (by omega) (by omega)
  have loop := loopF_rng (t := .nm 4) (body := exs (callF P F k) F (body1 ++ body2))
    (fun j e => ∃ x4 x5 x6 x7 x8 x9 x10 x11 x12 x13 x14 x15, e = [sD (.list (ns.map .int)), sD (dD ws ls), sD (.list ((mtL ws ls).map rD)), sD (lsD ls), x4, x5, x6, x7, x8, x9, x10, x11, x12, x13, x14, x15])
    7 [sD (.list (ns.map .int)), sD (dD ws ls), sD (.list ((mtL ws ls).map rD)), sD (lsD ls), .un, .un, .un, .un, .un, .un, .un, .un, .un, .un, .un, .un] ⟨_, _, _, _, _, _, _, _, _, _, _, _, rfl⟩ fun j e hj ⟨x4, x5, x6, x7, x8, x9, x10, x11, x12, x13, x14, x15, he⟩ => by
      subst he
      obtain ⟨so, y6, y7, y8, s1, s2, t1⟩ := turn1 (F := F) h (n := k) (by omega) ns hs hF w j hj x4 x5 x6 x7 x8 x9 x10 x11 x12 x13 x14 x15
      obtain ⟨y5, y9, y11, y12, t2⟩ := turn2 (F := F) h (n := k) (by omega) (sD (.list (ns.map .int))) hF w so s1 s2 (sD (lsD ls)) (sD (.int (j : Int))) y6 y7 y8 x9 x10 x11 x12 x13 x14 x15
      refine ⟨[sD (.list (ns.map .int)), sD (dD ws ls), sD (.list ((mtL ws ls).map rD)), sD (lsD ls), sD (.int (j : Int)), y5, y6, y7, y8, y9, x10, y11, y12, x13, x14, x15], ?_, _, _, _, _, _, _, _, _, _, _, _, _, rfl⟩
      show exs (callF P F k) F (body1 ++ body2) [sD (.list (ns.map .int)), sD (dD ws ls), sD (.list ((mtL ws ls).map rD)), sD (lsD ls), sD (.int (j : Int)), x5, x6, x7, x8, x9, x10, x11, x12, x13, x14, x15] = _
      rw [exs_app, t1, bd_ok, kS_nx, t2]
  obtain ⟨e', q1, x4, x5, x6, x7, x8, x9, x10, x11, x12, x13, x14, x15, rfl⟩ := loop
  have ec := closed_lots_ok (F := F) h.m h.closed_lots h.plain_closed_lots (n := k) w (by omega)
  have el := law_lots_ok (F := F) h.lots (n := k) (by omega) ws (by omega)
  obtain ⟨r, eo⟩ := law_odd_ok (F := F) h.pick h.odd (n := k) (by omega) ns hs 300 (by omega) 300 rfl
  have hb := badL_all (F := F) h hF (n := k) (by omega) w r
  have key := closed_all w hL
  have hemp : ((mtL ws ls).map rD).isEmpty = (startsL ws ls).isEmpty := by unfold mtL; cases startsL ws ls <;> rfl
  have pl := rows_plain (mtL ws ls)
  have hml : (mtL ws ls).length ≤ 100000 := by unfold mtL; rw [List.length_map]; exact starts_len w
  generalize mtL ws ls = mt at *
  have hlen : (mt.map rD).length + 1 ≤ LIM := by rw [List.length_map]; exact Nat.le_trans (show mt.length + 1 ≤ 100001 by omega) (by decide)
  have lcE : ∀ (elt : Ex) (g : Row2 → PyData) (x14 : SV), (∀ r : Row2, lcT (callF P F k) [("_law_row", 10)] (.nm 10) .nil elt [sD (.list (ns.map .int)), sD (dD ws ls), sD (.list (mt.map rD)), sD (lsD ls), x4, x5, x6, x7, x8, x9, x10, x11, x12, x13, x14, x15] (rD r) = .ok (some (g r))) →
      ev (callF P F k) (.lc [("_law_row", 10)] (.nm 10) .sq [(.var 2)] .nil elt) [sD (.list (ns.map .int)), sD (dD ws ls), sD (.list (mt.map rD)), sD (lsD ls), x4, x5, x6, x7, x8, x9, x10, x11, x12, x13, x14, x15] = .ok (ow (.list (mt.map g))) := fun elt g x14 hg => by
    have := lc_map (Φ := callF P F k) (own := [("_law_row", 10)]) (tg := .nm 10) (k := .sq) (src := [(.var 2)]) (elt := elt) (env := [sD (.list (ns.map .int)), sD (dD ws ls), sD (.list (mt.map rD)), sD (lsD ls), x4, x5, x6, x7, x8, x9, x10, x11, x12, x13, x14, x15])
      (xs := mt) (g := rD) (h := g) (q := id) (by simp! only [w_sqL]) (Nat.le_trans hml (by decide)) fun r _ => hg r
    rw [List.map_id] at this
    exact this
  have aL : ∀ (ys : List PyData) (m : Md), (mt.map rD).length + 1 ≤ LIM → ∀ y, binop .add m (.list (mt.map rD)) (.list [y]) = .ok (ow (.list (mt.map rD ++ [y]))) := fun _ m hh y => add_ll m hh
  have aG : ∀ (g : Row2 → PyData) (m : Md) (y : PyData), binop .add m (.list (mt.map g)) (.list [y]) = .ok (ow (.list (mt.map g ++ [y]))) := fun g m y => add_ll m (by rw [List.length_map] at hlen ⊢; exact hlen)
  have aT : ∀ (m : Md) (y : PyData), binop .add m (.tuple (mt.map rD)) (.tuple [y]) = .ok (im (.tuple (mt.map rD ++ [y]))) := fun m y => add_tt m _ _ hlen
  have z1 := fun x14 => lcE (.tup [(.idx (.var 10) (.cst (.int 0))), (.cst .none)]) (fun r => PyData.tuple [lD r.1, .none]) x14 fun r => by
    rw [lcT_nil]
    simp! only [rD0]
  have z2 := fun x14 => lcE (.tup [(.idx (.var 10) (.cst (.int 0))), (.tup [(.tup [(.cst (.str (Str.ofString "zz")))]), (.tup [(.cst (.str (Str.ofString "zz")))])])]) (fun r => PyData.tuple [lD r.1, toD zzL]) x14 fun r => by
    rw [lcT_nil]
    simp! only [rD0]
    rfl
  have z3 := fun x14 => lcE (.slc (.var 10) .nil (.cst (.int 1))) (fun r => PyData.tuple [lD r.1]) x14 fun r => by
    rw [lcT_nil]
    simp! only [show slcop (rD r) none (some 1) = .ok (im (.tuple [lD r.1])) from rfl]
  have lb := lc_map (Φ := callF P F k) (own := [("_law_thing", 15)]) (tg := .nm 15) (k := .sq) (src := [(.var 14)]) (elt := .call "is_matched" [(.var 1), (.var 15)]) (env := [sD (.list (ns.map .int)), sD (dD ws ls), sD (.list (mt.map rD)), sD (lsD ls), x4, x5, x6, x7, x8, x9, x10, x11, x12, x13, .rv (ow (.list (badL r mt))), x15])
    (xs := badL r mt) (g := id) (h := PyData.bool) (q := fun _ => false) (by simp! only [w_sqL, List.map_id]) (show 18 ≤ LIM by decide) fun d hd => by
      rw [lcT_nil]
      simp! only [id, hb d hd]
  have fin : cmpop .eq (.list (((badL r mt).map fun _ => false).map PyData.bool)) (.list [[PyData.bool false], [PyData.bool false], [PyData.bool false], [PyData.bool false], [PyData.bool false], [PyData.bool false], [PyData.bool false], [PyData.bool false], [PyData.bool false], [PyData.bool false], [PyData.bool false], [PyData.bool false], [PyData.bool false], [PyData.bool false], [PyData.bool false], [PyData.bool false], [PyData.bool false], [PyData.bool false]].flatten) = .ok true := by rfl
  have mu : binop .mul .ow (.list [.bool false]) (.int ((badL r mt).length : Int)) = .ok (ow (.list (List.replicate 18 [PyData.bool false]).flatten)) := by rfl
  have app : mutop .app (.list (bad1 r mt)) [.list (mt.map (fun r => PyData.tuple [lD r.1, .none]) ++ [.int 1])] = .ok (.list (bad2 r mt)) := m_app (show 15 < LIM by decide)
  have ext : mutop .ext (.list (bad2 r mt)) [.list [.list (mt.map (fun r => PyData.tuple [lD r.1, toD zzL]) ++ [nnD]), .list (mt.map (fun r => PyData.tuple [lD r.1]) ++ [.tuple []])]] = .ok (.list (badL r mt)) := m_ext (show (bad2 r mt).length + 2 ≤ LIM from show 16 + 2 ≤ LIM by decide)
  have addO : binop .add .ow (.list (oddL r)) (.list [.tuple (mt.map rD ++ [.int 1]), .list (mt.map rD ++ [.none]), .list (mt.map rD ++ [nnD])]) = .ok (ow (.list (oddL r ++ [.tuple (mt.map rD ++ [.int 1]), .list (mt.map rD ++ [.none]), .list (mt.map rD ++ [nnD])]))) := add_ll _ (show 12 + 3 ≤ LIM by decide)
  have split : A.law_k68.body = [A.law_k68.body[0], A.law_k68.body[1]] ++ (.for_ (.nm 4) .r1 [(.cst (.int 7))] (body1 ++ body2) :: A.law_k68.body.drop 3) := rfl
  rw [split, exs_app]
  have p1 : exs (callF P F k) F [A.law_k68.body[0], A.law_k68.body[1]] [sD (.list (ns.map .int)), .un, .un, .un, .un, .un, .un, .un, .un, .un, .un, .un, .un, .un, .un, .un] = .ok (.nx [sD (.list (ns.map .int)), sD (dD ws ls), sD (.list (mt.map rD)), sD (lsD ls), .un, .un, .un, .un, .un, .un, .un, .un, .un, .un, .un, .un]) := by
    show exs (callF P F k) F [.asg (.nm 1) false (.call "_law_dictionary" [(.var 0), (.cst (.int 10)), (.cst (.int 5)), (.cst (.int 7))]), .par [2, 3] [false, false] [(.call "matched" [(.var 1)]), (.idx (.var 1) (.cst (.int 1)))]] _ = _
    simp! only [ed', em, dD1]
  rw [p1, bd_ok, kS_nx, exs_cons, ex_r1 (n := 7) (by simp! only []; rfl) (by decide)]
  have fz : frzL [(Ex.cst (.int 7))] [sD (.list (ns.map .int)), sD (dD ws ls), sD (.list (mt.map rD)), sD (lsD ls), .un, .un, .un, .un, .un, .un, .un, .un, .un, .un, .un, .un] = [sD (.list (ns.map .int)), sD (dD ws ls), sD (.list (mt.map rD)), sD (lsD ls), .un, .un, .un, .un, .un, .un, .un, .un, .un, .un, .un, .un] := rfl
  rw [fz, q1, bd_ok, kS_nx]
  unfold A.law_k68
  rw [List.drop_succ_cons, List.drop_succ_cons, List.drop_succ_cons, List.drop_zero]
  have cc : (!decide ((startsL ws ls).isEmpty = decide (closedL ws ls = sortL (lawLots ws)))) = false := by rw [key, decide_eq_true rfl]; rfl
  simp! only [c_eq_nil pl, hemp, ec, dD0, el, b_sortLL, c_eqLL, c_neB, cc, eo, b_tupL, aT, aG, addO, z1, g_app, app, z2, z3, g_ext, ow_ni, ext, lb, b_lenL, mu, fin]
end
end Tdl
namespace Tdl.K68
open PySem PySem.W
theorem pD : HD LK.prog := ⟨by kernel_rfl, by kernel_rfl, by kernel_rfl, by kernel_rfl, by kernel_rfl, by kernel_rfl⟩
theorem pK : HK LK.prog := ⟨by kernel_rfl, by kernel_rfl, by kernel_rfl⟩
theorem pL : HL LK.prog := ⟨pK, by kernel_rfl, by kernel_rfl, by kernel_rfl⟩
theorem pM : HM LK.prog := ⟨pL, pD, by kernel_rfl, by kernel_rfl⟩
theorem h68 : H68 LK.prog := ⟨pM, by kernel_rfl, by kernel_rfl, by kernel_rfl, by kernel_rfl, by kernel_rfl, by kernel_rfl, by kernel_rfl, by kernel_rfl, by kernel_rfl⟩
theorem says : Says LK 100000 40 := fun ns hs => law68 h68 (by decide) (by decide) ns hs
end Tdl.K68
theorem PySem.Challenge.cw_toldlots_k68_whole_matched_judged_holds : PySem.Challenge.rw_toldlots_k68_whole_matched_judged.Holds := by
  exact Tdl.K68.holds Tdl.K68.says
