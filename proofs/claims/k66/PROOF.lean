import PyProof.Rows.All
import Wide.All
import OpenK.AllK
import Wide.FinOn
import PyProof.InstNe
import HandS.ForMost
import HandS.WordsExc
import HandS.Wide
import HandS.HotCalls
import HandS.SlotsOwn
import HandS.TupSets
import HandS.Conv
import HandS.More
import PyProof.DictCopy
import PyProof.DictUpdate
import KE.KDictOf
import KE.KDictSum
import HandS.AnyAll
import HandS.JoinGen
import HandS.MapSum
import HandS.EndTab
import HandS.HeadWalk
import HandS.SetKeys
import HandS.ListItems
import PyProof.Rows.RuleB_bool
import HandS.Deep
import HandS.TupAny
import HandS.TupLe
import HandS.Style
import HandS.Property
import HandS.CallSlots
import HandS.Defaults
import HandS.Iter
import HandS.Rev
import HandS.Zip
import HandS.SortInts
import HandS.IsInst
import KE.GoesMore
import HandS.TupLen
import HandS.Flow
import PyProof.WalksMore
import PyProof.TupleIter
import HandS.DictComp
import HandS.TryMany
import HandS.ExcIs
import HandS.Small
import PyProof.DictMoreH
import HandS.SetBool
import HandS.HeadHook4
import HandS.Head0
import HandS.Head1
import HandS.Head2
import HandS.HeadEnd
import HandS.HeadHook1
import HandS.HeadHook2
import HandS.HeadHook3
import PySem.Challenge.RW_droveway_k66_maps
set_option Elab.async false
set_option linter.all false
set_option maxRecDepth 100000
set_option maxHeartbeats 0
/-! DW, part 0: what the kit's own layers lack. -/
namespace DW
open PySem PySem.Spec PyProof.Rows
section
variable {prog : Program} {w : World} {A : Around} {E : Value → Shared → Prop} {s : Shared} {K : PySem.W.Frag} {x C L f : Addr} {h₀ : Heap} {m : Str → Option Value} {ox : Obj} {od : Option Obj} {b : Value}
open PySem.W in
/-- a special that is a built-in slot -/
theorem ifBound_KB {M : Model} {args : List Value} {id : String} {Q : Option Value → Shared → Prop} {name : Str} (X : K.In s.heap) (I : InstAt s.heap x ox C od) (hs : findIn K (.ref C) name = some (some (.builtin id))) (hb : bindSpecial (.builtin id) (.ref x) = pure (.builtin id, [.ref x]))
    (h : wpAny M A (call (.builtin id) (.ref x :: args)) (fun v => Q (some v)) E s) : wpAny M A (callSpecialIfBound? (.ref x) name args) Q E s := by
  simp only [callSpecialIfBound?, bindSpecialIfBound?]
  refine wpAny_holding (wpAny_bind (wpAny_bind (wpAny_bind (I.type.here ((looks_findIn X hs).here ?_)))))
  refine wpAny_bind (wpAny_askSetting (wpAny_ite ?_))
  have fin : wpAny M A (call (.builtin id) ([.ref x] ++ args) >>= fun v => pure (some v)) Q E s := wpAny_bind (wpAny_mono h (fun v s' h' => wpAny_pure h') fun _ _ h' => h')
  split
  · exact wpAny_bind ((Looks.of_pure hb).here (wpAny_pure (by exact fin)))
  · exact wpAny_tryCatch (wpAny_bind ((Looks.of_pure hb).here (wpAny_pure (by exact fin))))
open PySem.W in
/-- x != b by an own __eq__ (b an instance of the same class) -/
theorem ne_K {Q : Value → Shared → Prop} (hu : A.units + 1 < cLine) (F : Fr h₀ L s.heap m) (X₀ : K.In h₀) (I : InstAt s.heap x ox C od) (hb : Looks (model prog w) s.heap (typeOf b) (.ref C))
    (hm : mroIn K C (.type "object") = some true) (hne : findIn K (.ref C) "__ne__" = some (some (.builtin "object.__ne__"))) (hs : findIn K (.ref C) "__eq__" = some (some (.ref f))) (hf : isFn K (.ref f) = true)
    (h : wpAny (model prog w) A.in1 (call (.ref f) [.ref x, b]) (fun v s' => ∃ c, v = .bool c ∧ Q (.bool (!c)) s') E s) : wpAny (model prog w) A (compareOp .NotEq (.ref x) b) Q E s := by
  have X := X₀.keeps F.keep
  have one : wpAny (model prog w) A (tryCompare (.ref x) "__ne__" b) (fun r s' => ∃ c, r = some (.bool c) ∧ Q (.bool c) s') E s := by
    unfold tryCompare
    refine wpAny_bind (ifBound_KB X I hne (PySem.F.cmp_object.ne.bind _) ?_)
    have t2 : Looks (model prog w) s.heap (isInstance (.ref x) (.type "object")) true := I.type.andThen (looks_mroIn X hm)
    refine wpAny_call (codeAny_call_builtin PySem.F.cmp_object.ne.plain PySem.F.cmpEntry_ne (@PySem.W.check_slot (model prog w) _ _ _ "object.__ne__" "object" "__ne__" (.ref x) [b] [] _ PySem.F.cmpKind_ne PySem.F.cmpSplit_ne t2 (PySem.F.cmpArgs_ne _ _) ?_))
    unfold Builtin.«object.__ne__»
    repeat (first
      | with_reducible refine wpAny_cRoomFor (show A.in1.units < cLine from hu) ?_
      | (refine wpAny_bind (m := callSpecialIfBound? (.ref x) (Str.ofString "__eq__") [b])
          (ifBound_K X I hs hf (wpAny_mono h (fun r s' hr => by
            obtain ⟨c, rfl, hq⟩ := hr
            repeat (first | exact ⟨_, rfl, hq⟩ | exact ⟨(fun e => nomatch e), wpAny_pure ⟨_, rfl, hq⟩⟩ | exact wpAny_pure ⟨(fun e => nomatch e), wpAny_pure ⟨_, rfl, hq⟩⟩ | (refine wpAny_bind (m := truthy (.bool _)) (wpAny_truthy_bool ?_)) | wp_step)) fun _ _ e => e)))
      | wp_step)
  show wpAny (model prog w) A (richCompare .NotEq (.ref x) b) Q E s
  unfold richCompare
  simp only [oneThing_ref]
  refine wpAny_holding (wpAny_bind (wpAny_cRoomFor (by omega) ?_))
  refine wpAny_bind (I.type.here (wpAny_bind (hb.here ?_)))
  rw [show (Value.ref C != Value.ref C) = false from by simp]
  simp only [Bool.false_eq_true, if_false]
  refine wpAny_bind (wpAny_pure ?_)
  simp only [Bool.false_eq_true, if_false]
  refine wpAny_bind (wpAny_mono one (fun r s' z => ?_) fun _ _ e => e)
  obtain ⟨c, rfl, hq⟩ := z
  exact wpAny_pure hq
end

/-! ### dict(d), sorted(d): keys tuples of ints -/
/-- the hash of a tuple of ints -/
def ihash (k : List Int) : Int := reduceHash (Builtin.Tuple.tupleHashOf (k.map hashInt))
open L2
theorem ihash_eq {P : Program} {w : World} (k : List Int) : tupleKeyHash (mixKind P w) (k.map Sum.inl) = ihash k := by
  unfold tupleKeyHash ihash
  rw [List.map_map]
  rfl
theorem filter_one {α : Type} {f : α → Int} {e : α} : ∀ {l : List α}, (l.map f).Nodup → (l.filter fun z => f z == f e).length ≤ 1
  | [], _ => by simp
  | a :: l, h => by
    rw [List.map_cons, List.nodup_cons] at h
    rw [List.filter_cons]
    split
    · rename_i q
      have q' : f a = f e := by simpa using q
      have z : l.filter (fun z => f z == f e) = [] := by
        rw [List.filter_eq_nil_iff]
        intro b hb q2
        exact h.1 (List.mem_map.mpr ⟨b, hb, by rw [q']; simpa using q2⟩)
      rw [z]
      simp
    · exact filter_one h.2
section
variable {prog : Program} {w : World} {A : Around} {E : Value → Shared → Prop} {s : Shared}
theorem entriesT {id : String} {d : Addr} {o : Obj} {es : Array DictEntry} {ep : Nat} {Q : Array DictEntry → Shared → Prop} (ho : s.heap.get? d = some o) (hd : o.data = .dict es ep)
    (hk : ∀ e ∈ es.toList, ∃ a, e.key = .ref a ∧ s.TypeIs (.ref a) "tuple") (hn : (es.toList.map (·.hash)).Nodup) (h : Q es s) : wpAny (model prog w) A (Builtin.Dict.entriesForEmpty id d) Q E s := by
  unfold Builtin.Dict.entriesForEmpty
  refine wpAny_bind (wpAny_dictEntries ho hd ?_)
  refine wpAny_bind ?_
  rw [← Array.forIn_toList]
  refine wpAny_forIn_list _ (fun rest _ s' => s' = s ∧ ∀ e ∈ rest, e ∈ es.toList) _ ?_ ?_ _ _ ⟨rfl, fun e he => he⟩
  · rintro e rest b s' ⟨rfl, hr⟩
    have he := hr e List.mem_cons_self
    obtain ⟨a, ea, ta⟩ := hk e he
    have hf : (es.filter (·.hash == e.hash)).size ≤ 1 := by
      have z := filter_one (f := fun z : DictEntry => z.hash) (e := e) hn
      rw [← Array.length_toList, Array.toList_filter]
      exact z
    refine wpAny_bind ?_
    rw [ea]
    unfold Builtin.Dict.quietEq
    refine wpAny_bind (wpAny_specialOf ta F.slot_tuple_eq.lookup ?_)
    refine wpAny_pure ?_
    rw [if_pos (by decide)]
    rw [if_neg (by omega)]
    exact wpAny_pure ⟨rfl, fun e he => hr e (List.mem_cons_of_mem _ he)⟩
  · rintro b s' ⟨rfl, _⟩
    exact wpAny_pure h
end

section
variable {prog : Program} {w : World} {A : Around} {E : Value → Shared → Prop} {s : Shared}
/-- what a new dict takes over from one whose keys are tuples -/
theorem mergeT {nm : String} {d o : Addr} {oo od : Obj} {es : Array DictEntry} {ep epd : Nat} {Q : Unit → Shared → Prop} (hdo : d ≠ o) (hoS : (o == sysModules) = false) (hd : s.heap.get? d = some od) (hdd : od.data = .dict #[] epd)
    (ho : s.heap.get? o = some oo) (hod : oo.data = .dict es ep) (hk : ∀ e ∈ es.toList, ∃ a, e.key = .ref a ∧ s.TypeIs (.ref a) "tuple") (hn : (es.toList.map (·.hash)).Nodup) (hsz : es.size ≤ sizeLine)
    (hQ : ∀ h', (es = #[] ∧ h' = s.heap ∨ h' = s.heap.update d (Obj.mapDictKeys fun _ => es)) → Q () { s with heap := h' }) : wpAny (model prog w) A (Builtin.Dict.mergeDict nm d o) Q E s := by
  unfold Builtin.Dict.mergeDict
  rw [if_neg (by simpa using hdo)]
  unfold Builtin.Dict.showsAll
  rw [if_neg (by rw [hoS]; exact Bool.false_ne_true)]
  refine wpAny_bind (wpAny_pure ?_)
  refine wpAny_bind (wpAny_dictEntries ho hod ?_)
  dsimp only
  cases hl : es.toList with
  | nil =>
    have he : es = #[] := Array.toList_eq_nil_iff.mp hl
    subst he
    rw [if_neg (by simp)]
    refine wpAny_bind (wpAny_dictEpoch ho hod ?_)
    refine wpAny_bind (wpAny_dictEntries ho hod ?_)
    refine wpAny_bind ?_
    rw [Std.Legacy.Range.forIn_eq_forIn_range']
    simp only [Std.Legacy.Range.size, List.size_toArray, List.length_nil, Nat.sub_zero, Nat.add_sub_cancel, Nat.div_one, List.range'_zero]
    exact wpAny_pure (wpAny_pure (hQ _ (.inl ⟨rfl, rfl⟩)))
  | cons e r =>
    have few : (decide (es.size ≤ 8) && es.all fun e => (keyPart e.key).isSome) = false := by
      rw [Bool.and_eq_false_iff]
      right
      rw [← Array.all_toList, hl, List.all_cons]
      obtain ⟨a, ea, _⟩ := hk e (by rw [hl]; exact List.mem_cons_self)
      rw [ea]
      rfl
    rw [few]
    simp only [Bool.not_false, if_true]
    refine wpAny_bind (wpAny_dictEntries hd hdd ?_)
    rw [if_pos (by rfl)]
    refine wpAny_bind (entriesT ho hod hk hn ?_)
    have hne : es.isEmpty = false := by
      rw [Bool.eq_false_iff]
      intro z
      have := Array.isEmpty_iff.mp z
      rw [this] at hl
      cases hl
    rw [hne]
    simp only [Bool.not_false, if_true]
    exact wpAny_bind (wpAny_updateDictKeysTo hd hdd (wpAny_pure (hQ _ (.inr rfl))) (by show es.size ≤ sizeLine + 1; omega))
theorem dictT_call {o : Addr} {oo : Obj} {es : Array DictEntry} {ep : Nat} {Q : Value → Shared → Prop} (hoS : (o == sysModules) = false) (ho : s.heap.get? o = some oo) (hx : oo.ExactDict) (hod : oo.data = .dict es ep)
    (hk : ∀ e ∈ es.toList, ∃ a, e.key = .ref a ∧ s.TypeIs (.ref a) "tuple") (hn : (es.toList.map (·.hash)).Nodup) (hsz : es.size ≤ sizeLine)
    (h : ∀ h' q ep', h'.get? s.heap.objs.size = some q → q.ExactDict → q.data = .dict es ep' → Heap.SameBut s.heap.objs.size (s.heap.push { cls := .type "dict", data := .dict #[] }) h' → Q (.ref s.heap.objs.size) { s with heap := h' }) :
    wpAny (model prog w) A (call (.type "dict") [.ref o]) Q E s := by
  refine callType_codes (Q₁ := fun obj s₁ => obj = .ref s.heap.objs.size ∧ s₁ = { s with heap := s.heap.push { cls := .type "dict", data := .dict #[] } }) F.kt_called_dict (F.kt_typeCall_dict_1 _) F.entry_dict_init (kt_code_dict_new _ ⟨rfl, rfl⟩) ?_
  rintro obj s₁ ⟨rfl, rfl⟩
  have hN : (s.heap.push { cls := .type "dict", data := .dict #[] }).get? s.heap.objs.size = some { cls := .type "dict", data := .dict #[] } := Heap.get?_push_size _ rfl
  have ho' : (s.heap.push { cls := .type "dict", data := .dict #[] }).get? o = some oo := Heap.get?_push_of_some _ ho
  have hdo : s.heap.objs.size ≠ o := fun e => absurd (Heap.lt_size ho) (by rw [e]; exact Nat.lt_irrefl _)
  have tN : Shared.TypeIs { s with heap := s.heap.push { cls := .type "dict", data := .dict #[] } } (.ref s.heap.objs.size) "dict" := ⟨_, hN, rfl⟩
  have tO : Shared.TypeIs { s with heap := s.heap.push { cls := .type "dict", data := .dict #[] } } (.ref o) "dict" := ⟨_, ho', hx.1⟩
  refine ⟨tN, F.args_dict_init_2 _ _, ?_⟩
  unfold Builtin.«dict.__init__»
  refine wpAny_bind ?_
  unfold Builtin.Dict.selfAndRest
  refine wpAny_bind (wpAny_notOrdered_dict tN ?_)
  show wpAny _ _ (pure (s.heap.objs.size, [Value.ref o])) _ _ _
  refine wpAny_pure ?_
  show wpAny _ _ (Builtin.Dict.updateFrom "dict.__init__" s.heap.objs.size (.ref o) [] .none) _ _ _
  unfold Builtin.Dict.updateFrom
  refine wpAny_bind (wpAny_typeOf tO ?_)
  rw [if_neg (by decide)]
  refine wpAny_bind ?_
  unfold Builtin.Dict.merge
  refine wpAny_bind ?_
  unfold Builtin.Dict.readDirectly
  refine wpAny_bind (wpAny_isInstance tO isSubtype_dict_dict ?_)
  simp only [Bool.not_true, Bool.false_eq_true, if_false]
  refine wpAny_bind (wpAny_specialOf tO F.slot_dict_iter.lookup (wpAny_pure ?_))
  simp only [beq_self_eq_true, if_true]
  refine wpAny_bind (wpAny_pure ?_)
  refine mergeT (s := { s with heap := s.heap.push { cls := .type "dict", data := .dict #[] } }) hdo hoS hN rfl ho' hod (fun e he => ?_) hn hsz fun h' hh => ?_
  · obtain ⟨a, ea, oa, h1, h2⟩ := hk e he
    exact ⟨a, ea, oa, Heap.get?_push_of_some _ h1, h2⟩
  show wpAny _ _ (Builtin.Dict.addKeywords s.heap.objs.size [] >>= _) _ _ _
  refine wpAny_bind (wpAny_pure (wpAny_pure ⟨rfl, ?_⟩))
  rcases hh with ⟨rfl, rfl⟩ | rfl
  · exact h _ _ _ hN ⟨rfl, rfl, rfl⟩ rfl (Heap.SameBut.refl _ _)
  · refine h _ _ _ (Heap.get?_update_self _ hN (Obj.isFreed_of_dict (Obj.data_mapDictKeys (o := { cls := .type "dict", data := .dict #[] }) rfl _))) ?_ (Obj.data_mapDictKeys (o := { cls := .type "dict", data := .dict #[] }) rfl _) (Heap.SameBut.update ..)
    exact Obj.ExactDict.mapDictKeys ⟨rfl, rfl, rfl⟩ _
end

theorem kt_keys {H : Hp} : ∀ {kvs : List (List Key × V)} {xs : List (List Key × Addr × Value)}, KT H kvs xs → xs.map (·.1) = kvs.map (·.1)
  | _, _, .nil => rfl
  | _, _, .cons h t => by rw [List.map_cons, List.map_cons, kt_keys t, h.1]
section
variable {X : Cx}
/-- dict(d): a copy of a dict whose keys are tuples of ints, of different hashes -/
def rDictT : List V → Hp → VK → Prop := fun xs H Q => ∃ (a : Addr) (kvs : List (List Key × V)) (ks : List (List Int)), xs = [.ref a] ∧ Rd H a (.dT kvs) ∧ kvs.map (·.1) = ks.map (List.map Sum.inl) ∧ (ks.map ihash).Nodup ∧ ∀ p, H p = none → Q (.ref p) (upd H p (.dT kvs))
theorem call_dictT : CallR X (.type "dict") rDictT := by
  intro pins s σ H xs us Q I r q
  obtain ⟨a, kvs, ks, ex, hd, hks, hnd, q⟩ := q
  subst ex
  obtain ⟨u, rfl, rx⟩ := r.one
  cases rx
  obtain ⟨z, hs, ys, pr, o, es, ep, ho, hx, hdt, he, hn⟩ := (show ObjOk X.prog X.w H s.heap a (.dT kvs) from hd.ok I.hok)
  have hlen : es.size = kvs.length := by rw [size_of_entries he, Paired.length pr]
  have hhash : es.toList.map (·.hash) = ks.map ihash := by
    rw [he, List.map_map]
    have e1 : ys.map ((fun e : DictEntry => e.hash) ∘ entryOfKey (tupleKind (mixKind X.prog X.w))) = (ys.map (·.1)).map (tupleKeyHash (mixKind X.prog X.w)) := by rw [List.map_map]; rfl
    rw [e1, kt_keys pr, hks, List.map_map]
    exact List.map_congr_left fun k _ => ihash_eq k
  refine dictT_call hs ho hx hdt (fun e hm => ?_) (by rw [hhash]; exact hnd) (by omega) fun h' o' ep' g1 g2 g3 sb => ?_
  · rw [he] at hm
    obtain ⟨y, hy, rfl⟩ := List.mem_map.mp hm
    have hk : ∃ k : List Key, H y.2.1 = some (.tup (k.map kV)) := by
      have all : ∀ {l : List (List Key × V)} {m : List (List Key × Addr × Value)}, KT H l m → ∀ x ∈ m, H x.2.1 = some (.tup (x.1.map kV)) := by
        intro l m q
        induction q with
        | nil => intro x hx; cases hx
        | cons h t ih =>
          intro x hx
          rcases List.mem_cons.mp hx with e | hx
          · rw [e, ← h.1]; exact h.2.1
          · exact ih x hx
      exact ⟨y.1, all pr y hy⟩
    obtain ⟨k, hk⟩ := hk
    exact ⟨y.2.1, rfl, (key_of I.hok hk).typeIs⟩
  · have hm : (s.heap.objs.size == sysModules) = false := beq_eq_false_iff_ne.mpr (Nat.ne_of_gt I.big)
    have hp := I.hok.fresh (Nat.le_refl s.heap.objs.size)
    refine ⟨.ref s.heap.objs.size, upd H s.heap.objs.size (.dT kvs), I.laid (t' := s.toks) (fun b u e => (sb.2 b (Nat.ne_of_lt (Heap.lt_size e))).trans (Heap.get?_push_of_some _ e)) (Nat.le_refl _)
      (show ObjOk X.prog X.w _ _ _ (.dT kvs) from ⟨z, hm, ys, KT.keeps pr fun c vs ec => ?_, o', es, ep', g1, g2, g3, he, hn⟩), rfl, q _ hp⟩
    rw [upd_ne (ne_of_none ec hp)]
    exact ec
/-- sorted(d), d's keys fewer than 64 tuples of k ints in [0, B) -/
def rSortDT (d : Nat) (B : Int) : List V → Hp → VK → Prop := fun vs H Q => ∃ (a : Addr) (kvs : List (List Key × V)) (ks : List (List Int)), vs = [V.ref a] ∧ Rd H a (.dT kvs) ∧ kvs.map (·.1) = ks.map (List.map Sum.inl) ∧ ks.length < 64 ∧ (∀ k ∈ ks, k.length = d ∧ TS.Bd B k) ∧
  ∀ (ys : List (List Int)) (bs : List Addr) (p : Addr), ys.Perm ks → ys.Pairwise (fun x y => TS.code B x ≤ TS.code B y) → Paired (fun k b => H b = some (.tup (k.map V.int))) ys bs → H p = none → Q (.ref p) (upd H p (.lst (bs.map V.ref)))
theorem unrefs : ∀ {us : List Value} {bs : List Addr}, us.Perm (bs.map Value.ref) → ∃ cs : List Addr, us = cs.map Value.ref ∧ cs.Perm bs := fun {us bs} p => by
  have hu : ∀ u ∈ us, ∃ a, u = Value.ref a := fun u hu => by
    obtain ⟨b, _, e⟩ := List.mem_map.mp (p.mem_iff.mp hu)
    exact ⟨b, e.symm⟩
  let f : Value → Addr := fun v => match v with
    | .ref a => a
    | _ => 0
  have e1 : us = (us.map f).map Value.ref := by
    rw [List.map_map]
    conv => lhs; rw [← List.map_id us]
    refine List.map_congr_left fun u h => ?_
    obtain ⟨a, rfl⟩ := hu u h
    rfl
  refine ⟨us.map f, e1, ?_⟩
  have e2 := p.map f
  rw [List.map_map] at e2
  have e3 : bs.map (f ∘ Value.ref) = bs := by
    conv => rhs; rw [← List.map_id bs]
    rfl
  rw [e3] at e2
  exact e2
theorem paired_map {α β : Type} {R : α → β → Prop} {f : β → α} : ∀ {bs : List β}, (∀ b ∈ bs, R (f b) b) → Paired R (bs.map f) bs
  | [], _ => .nil
  | b :: bs, h => .cons (h b List.mem_cons_self) (paired_map fun c hc => h c (List.mem_cons_of_mem _ hc))
/-- the keys of a dict are gathered -/
def ColR (X : Cx) : Prop := ∀ (pins : List (Addr × Obj)) (σ : L2.St) (H : Hp) (s : Shared) (d : Addr) (o : Obj) (es : Array DictEntry) (ep : Nat) (R : List Value → Shared → Prop) (E : Value → Shared → Prop), Inv X pins σ H s → (d == sysModules) = false → s.heap.get? d = some o → o.ExactDict → o.data = .dict es ep → es.size ≤ sizeLine →
  (∀ (h' : Heap) (tk : Nat) (acc : Array Value), (∀ b o, s.heap.get? b = some o → h'.get? b = some o) → ItemsOf (fun i v => ∃ en : DictEntry, es[i]? = some en ∧ v = en.key) acc es.size → R acc.toList { s with heap := h', toks := tk }) → wpAny (model X.prog X.w) X.A.in1 (collect (.ref d)) R E s
theorem colR_calm (hc : X.calm = true) : ColR X := fun _ _ _ _ _ _ _ _ _ _ I hs ho hx hd hn q => PySem.W.kdu_collect (A := X.A.in1) (kdl_raw hs hx hd) (I.ok.hd hc) ho hn q
theorem call_sortedDT' {d : Nat} {B : Int} (hd1 : 1 ≤ d) (col : ColR X) : CallR X (.builtin "sorted") (rSortDT d B) := by
  intro pins s σ H xs us Q I r q
  obtain ⟨a, kvs, ks, ex, hd, hks, h64, hbd, q⟩ := q
  subst ex
  obtain ⟨u, rfl, rx⟩ := r.one
  cases rx
  obtain ⟨z, hs, xs, pr, o, es, ep, ho, hx, hdt, he, hn⟩ := (show ObjOk X.prog X.w H s.heap a (.dT kvs) from hd.ok I.hok)
  have l1 : es.size = xs.length := size_of_entries he
  have l2 : kvs.length = xs.length := Paired.length pr
  have l3 : ks.length = kvs.length := by
    have := congrArg List.length hks
    rw [List.length_map, List.length_map] at this
    exact this.symm
  have keyH : ∀ x ∈ xs, ∃ k ∈ ks, H x.2.1 = some (.tup (k.map V.int)) := fun x hx => by
    have all : ∀ {l : List (List Key × V)} {m : List (List Key × Addr × Value)}, KT H l m → ∀ x ∈ m, x.1 ∈ l.map (·.1) ∧ H x.2.1 = some (.tup (x.1.map kV)) := by
      intro l m q
      induction q with
      | nil => intro x hx; cases hx
      | cons h t ih =>
        intro x hx
        rcases List.mem_cons.mp hx with e | hx
        · rw [e, ← h.1]; exact ⟨List.mem_cons_self, h.2.1⟩
        · exact ⟨List.mem_cons_of_mem _ (ih x hx).1, (ih x hx).2⟩
    obtain ⟨m1, m2⟩ := all pr x hx
    rw [hks] at m1
    obtain ⟨k, hk, ek⟩ := List.mem_map.mp m1
    refine ⟨k, hk, ?_⟩
    rw [m2, ← ek, List.map_map]
    rfl
  refine Calls.call_function_entry PyProof.Rows.kind_sorted PyProof.Rows.plain_sorted PyProof.Rows.entry_sorted (PyProof.Rows.args_sorted1 _) ?_
  unfold Builtin.«sorted»
  refine wpAny_bind (m := checkCount "sorted" 1 1 _) (wpAny_pure ?_)
  refine wpAny_bind (col _ _ _ _ _ _ _ _ _ _ I hs ho hx hdt (by rw [sizeLine_eq]; omega) fun h' tk acc hk hacc => ?_)
  have ea : acc.toList = (xs.map fun x => x.2.1).map Value.ref := by
    rw [List.map_map]
    apply List.ext_getElem?
    intro j
    rw [List.getElem?_map]
    have hl : acc.toList.length = xs.length := by rw [Array.length_toList, hacc.1]; exact l1
    cases hj : acc.toList[j]? with
    | none =>
      have h1 := List.getElem?_eq_none_iff.mp hj
      rw [List.getElem?_eq_none (by omega)]
      rfl
    | some v =>
      obtain ⟨en, hen, hv⟩ := hacc.2 j v (by rw [← Array.getElem?_toList]; exact hj)
      have qe := entry_at he j
      rw [hen] at qe
      cases hb : xs[j]? with
      | none => rw [hb] at qe; cases qe
      | some b =>
        rw [hb] at qe
        have e2 : en = entryOfKey (tupleKind (mixKind X.prog X.w)) b := Option.some.inj qe
        rw [hv, e2]
        rfl
  have hal : acc.toList.length = ks.length := by rw [ea, List.length_map, List.length_map]; omega
  have I1 : Inv X pins σ H { s with heap := h', toks := tk } := I.kept hk
  refine wpAny_bind (wpAny_newList ?_ (by rw [hal, sizeLine_eq]; omega))
  have hoL : (h'.push (seqObj "list" acc.toList.toArray 0)).get? h'.objs.size = some (seqObj "list" acc.toList.toArray 0) := Heap.get?_push_size _ rfl
  have tok : TS.TupsOk (h'.push (seqObj "list" acc.toList.toArray 0)) d B acc.toList := fun v hv => by
    rw [ea] at hv
    obtain ⟨b, hb, rfl⟩ := List.mem_map.mp hv
    obtain ⟨x, hx, rfl⟩ := List.mem_map.mp hb
    obtain ⟨k, hkm, hkH⟩ := keyH x hx
    obtain ⟨b1, b2⟩ := hbd k hkm
    refine ⟨k, TS.TupInts.keeps (tupI_raw I1 (.inl (.inl hkH))) fun c oc e _ => Heap.get?_push_of_some _ e, b1, b2⟩
  show wpAny _ _ _ _ _ { s with heap := h'.push (seqObj "list" acc.toList.toArray 0), toks := tk }
  refine wpAny_bind (wpAny_holding (TS.call_sort_tups (s := { s with heap := h'.push (seqObj "list" acc.toList.toArray 0), toks := tk }) hoL (by rw [hal]; exact h64) hd1 tok fun out g2 g3 => ?_))
  rw [ea] at g2
  obtain ⟨cs, e1, g4⟩ := unrefs g2
  obtain ⟨e', he'⟩ := PyProof.Rows.sortedHeap_at (vs := acc.toList) (out := out) hoL
  have intsAt : ∀ c ∈ cs, ∃ k ∈ ks, H c = some (.tup (k.map V.int)) ∧ TS.intsOf (h'.push (seqObj "list" acc.toList.toArray 0)) (.ref c) = k := fun c hc => by
    obtain ⟨x, hx, rfl⟩ := List.mem_map.mp (g4.mem_iff.mp hc)
    obtain ⟨k, hkm, hkH⟩ := keyH x hx
    have t : TS.TupInts (h'.push (seqObj "list" acc.toList.toArray 0)) (.ref x.2.1) k := TS.TupInts.keeps (tupI_raw I1 (.inl (.inl hkH))) fun c oc e _ => Heap.get?_push_of_some _ e
    exact ⟨k, hkm, hkH, t.ints⟩
  let f : Addr → List Int := fun c => TS.intsOf (h'.push (seqObj "list" acc.toList.toArray 0)) (.ref c)
  have pm : (cs.map f).Perm ks := by
    have e2 : (xs.map fun x => x.2.1).map f = ks := by
      have e3 : ∀ {l : List (List Key × V)} {m : List (List Key × Addr × Value)} {qs : List (List Int)}, KT H l m → l.map (·.1) = qs.map (List.map Sum.inl) → (∀ x ∈ m, x ∈ xs) → (m.map fun x => x.2.1).map f = qs := by
        intro l m qs q
        induction q generalizing qs with
        | nil =>
          intro e _
          cases qs with
          | nil => rfl
          | cons _ _ => cases e
        | @cons p y ps ms h t ih =>
          intro e sub
          cases qs with
          | nil => cases e
          | cons k0 qs =>
            rw [List.map_cons, List.map_cons, List.cons.injEq] at e
            rw [List.map_cons, List.map_cons, ih e.2 fun x hx => sub x (List.mem_cons_of_mem _ hx)]
            congr 1
            have hh := h.2.1
            rw [e.1, List.map_map] at hh
            have t : TS.TupInts (h'.push (seqObj "list" acc.toList.toArray 0)) (.ref y.2.1) k0 := TS.TupInts.keeps (tupI_raw I1 (.inl (.inl (show H y.2.1 = some (.tup (k0.map V.int)) from hh)))) fun c oc e _ => Heap.get?_push_of_some _ e
            exact t.ints
      exact e3 pr hks fun x hx => hx
    rw [← e2]
    exact g4.map f
  have hlen : (cs.map V.ref).length ≤ sizeLine := by
    have e2 := pm.length_eq
    rw [List.length_map] at e2
    rw [List.length_map, sizeLine_eq, e2]
    omega
  refine wpAny_pure ⟨_, rfl, .ref h'.objs.size, upd H h'.objs.size (.lst (cs.map V.ref)), I1.laid (t' := tk) (fun b u e => ?_) (Nat.le_refl _)
    (show ObjOk X.prog X.w _ _ _ (.lst (cs.map V.ref)) from ⟨hlen, out.toList, e', ?_, by rw [Array.toArray_toList]; exact he'⟩), rfl, q (cs.map f) cs _ pm ?_ (paired_map fun c hc => ?_) (I1.hok.fresh (Nat.le_refl _))⟩
  · have hb : b < h'.objs.size := Heap.lt_size e
    rw [PyProof.Rows.sortedHeap_old (Nat.ne_of_lt hb) (by rw [size_push']; exact Nat.lt_succ_of_lt hb)]
    exact Heap.get?_push_of_some _ e
  · rw [e1]
    exact vals_refs cs
  · rw [e1, List.pairwise_map] at g3
    rw [List.pairwise_map]
    exact g3
  · obtain ⟨k, _, h1, h2⟩ := intsAt c hc
    show H c = some (.tup ((f c).map V.int))
    rw [show f c = k from h2]
    exact h1
theorem call_sortedDT {d : Nat} {B : Int} (hd1 : 1 ≤ d) (hcalm : X.calm = true) : CallR X (.builtin "sorted") (rSortDT d B) := call_sortedDT' hd1 (colR_calm hcalm)
end
end DW

/-! DW, part 0x: dicts whose keys are tuples, some of them tuples of the module. -/
namespace DW
open PySem PySem.Spec PyProof.Rows L2
abbrev XE := List Key × Addr × Value
def rawX (P : Program) (w : World) (a : Addr) (xs : List XE) (h : Heap) : Prop := (a == sysModules) = false ∧ ∃ o es ep, h.get? a = some o ∧ o.ExactDict ∧ o.data = .dict es ep ∧ es.toList = xs.map (entryOfKey (tupleKind (mixKind P w))) ∧ (xs.map (·.1)).Nodup
def DXO (P : Program) (w : World) (a : Addr) (xs : List XE) : HO := .ext (rawX P w a xs)
theorem rawX_ok {P : Program} {w : World} {H : Hp} {h : Heap} {a : Addr} {xs : List XE} (x : rawX P w a xs h) : ObjOk P w H h a (DXO P w a xs) :=
  ⟨x, let ⟨_, o, _, _, e, _⟩ := x; ⟨o, e⟩, fun h1 h2 ⟨y, o, es, ep, e, r⟩ k => ⟨y, o, es, ep, k o e, r⟩⟩
def KSq (K : PySem.W.Frag) (H : Hp) (xs : List XE) : Prop := ∀ q ∈ xs, SqT K H q.2.1 (q.1.map kV)
section
variable {X : Cx} {pins : List (Addr × Obj)} {σ : L2.St} {H : Hp} {s : Shared} {a b : Addr} {k : List Key} {xs : List XE} {A : Around} {E : Value → Shared → Prop} {u r : Value} {y v : V} {o : Option V}
theorem key_sq (I : Inv X pins σ H s) (q : SqT X.K H b (k.map kV)) : (tupleKind (mixKind X.prog X.w)).is s.heap k b := by
  obtain ⟨its, r, ⟨o, h1, h2, n, h3⟩, _⟩ := I.tuple q
  exact ⟨o, its.toArray, n, h1, h2, h3, by simpa using items_are r⟩
theorem dx_of (I : Inv X pins σ H s) (e : H a = some (DXO X.prog X.w a xs)) (kq : KSq X.K H xs) : (a == sysModules) = false ∧ s.heap.DictOfH (tupleKind (mixKind X.prog X.w)) a xs := by
  obtain ⟨y, o, es, ep, h1, h2, h3, h4, h5⟩ := (I.hok a _ e).1
  exact ⟨y, o, es, ep, h1, h2, h3, h4, fun q hq => key_sq I (kq q hq), h5⟩
/-- what such a dict has at a key -/
def DGX (P : Program) (w : World) (K : PySem.W.Frag) (H : Hp) (a : Addr) (y : V) (o : Option V) : Prop :=
  ∃ (xs : List XE) (k : List Key) (b : Addr), H a = some (DXO P w a xs) ∧ KSq K H xs ∧ y = .ref b ∧ SqT K H b (k.map kV) ∧ RelO o ((atKey xs k).map (·.2))
theorem dx_typ (I : Inv X pins σ H s) (g : DGX X.prog X.w X.K H a y o) : s.TypeIs (.ref a) "dict" := by
  obtain ⟨xs, k, b, e, kq, _⟩ := g
  exact (dx_of I e kq).2.typeIs
theorem dx_getItem {Q : Value → Shared → Prop} (hu : A.units + 1 < cLine) (I : Inv X pins σ H s) (g : DGX X.prog X.w X.K H a y (some v)) (ry : L2.RelV y u) (h : ∀ w' s', Inv X pins σ H s' → L2.RelV v w' → Q w' s') :
    wpAny (model X.prog X.w) A (getItem (.ref a) u) Q E s := by
  obtain ⟨xs, k, b, e, kq, ey, eb, l⟩ := g
  subst ey
  cases (show u = Value.ref b from ry)
  obtain ⟨hd, dd⟩ := dx_of I e kq
  obtain ⟨w', hw, rw'⟩ := RelO.some_of (v := v) (o := (atKey xs k).map (·.2)) l
  obtain ⟨p, hp, hp2⟩ := Option.map_eq_some_iff.mp hw
  refine wpAny_getItem_heap (tupleKind_room_in1 hu) (key_sq I eb) dd hp ?_
  rw [hp2]
  exact h w' _ (I.tok _) rw'
theorem dx_in {Q : Value → Shared → Prop} (hu : A.units + 1 < cLine) (I : Inv X pins σ H s) (g : DGX X.prog X.w X.K H a y o) (ry : L2.RelV y u) (h : ∀ s', Inv X pins σ H s' → Q (.bool o.isSome) s') :
    wpAny (model X.prog X.w) A (compareOp .In u (.ref a)) Q E s := by
  obtain ⟨xs, k, b, e, kq, ey, eb, l⟩ := g
  subst ey
  cases (show u = Value.ref b from ry)
  obtain ⟨hd, dd⟩ := dx_of I e kq
  refine wpAny_in_heap (tupleKind_room_in1 hu) (key_sq I eb) hd dd ?_
  have q := l.isSome_eq
  rw [Option.isSome_map] at q
  rw [← q]
  exact h _ (I.tok _)
theorem dx_notIn {Q : Value → Shared → Prop} (hu : A.units + 1 < cLine) (I : Inv X pins σ H s) (g : DGX X.prog X.w X.K H a y o) (ry : L2.RelV y u) (h : ∀ s', Inv X pins σ H s' → Q (.bool (!o.isSome)) s') :
    wpAny (model X.prog X.w) A (compareOp .NotIn u (.ref a)) Q E s := by
  obtain ⟨xs, k, b, e, kq, ey, eb, l⟩ := g
  subst ey
  cases (show u = Value.ref b from ry)
  obtain ⟨hd, dd⟩ := dx_of I e kq
  refine wpAny_notIn_heap (tupleKind_room_in1 hu) (key_sq I eb) hd dd ?_
  have q := l.isSome_eq
  rw [Option.isSome_map] at q
  rw [← q]
  exact h _ (I.tok _)
theorem RelO.getD' {d : V} {r : Value} {o : Option V} {q : Option Value} (h : RelO o q) (rd : L2.RelV d r) : L2.RelV (o.getD d) (q.getD r) := by
  cases o <;> cases q <;> first | exact h.elim | exact h | exact rd
theorem dx_get1 {Q : Value → Shared → Prop} (hu : A.units + 1 < cLine) (I : Inv X pins σ H s) (g : DGX X.prog X.w X.K H a y o) (ry : L2.RelV y u) (h : ∀ w' s', Inv X pins σ H s' → L2.RelV (o.getD .non) w' → Q w' s') :
    wpAny (model X.prog X.w) A (call (.builtin "dict.get") [.ref a, u]) Q E s := by
  obtain ⟨xs, k, b, e, kq, ey, eb, l⟩ := g
  subst ey
  cases (show u = Value.ref b from ry)
  obtain ⟨hd, dd⟩ := dx_of I e kq
  exact call_meetsIn PySem.F.slot_dict_get dd.typeIs PySem.F.entry_dict_get (PySem.F.args_dict_get_2 _ _) (meetsH_dict_get (tupleKind (mixKind X.prog X.w)) a b hd) ⟨tupleKind_room_in1 hu, k, xs, key_sq I eb, dd, h _ _ (I.tok _) (RelO.getD' l rfl)⟩
theorem dx_get2 {d : V} {Q : Value → Shared → Prop} (hu : A.units + 1 < cLine) (I : Inv X pins σ H s) (g : DGX X.prog X.w X.K H a y o) (ry : L2.RelV y u) (rd : L2.RelV d r) (h : ∀ w' s', Inv X pins σ H s' → L2.RelV (o.getD d) w' → Q w' s') :
    wpAny (model X.prog X.w) A (call (.builtin "dict.get") [.ref a, u, r]) Q E s := by
  obtain ⟨xs, k, b, e, kq, ey, eb, l⟩ := g
  subst ey
  cases (show u = Value.ref b from ry)
  obtain ⟨hd, dd⟩ := dx_of I e kq
  exact call_meetsIn PySem.F.slot_dict_get dd.typeIs PySem.F.entry_dict_get (PySem.F.args_dict_get_3 _ _ _) (meetsH_dict_get_default (tupleKind (mixKind X.prog X.w)) a b hd r) ⟨tupleKind_room_in1 hu, k, xs, key_sq I eb, dd, h _ _ (I.tok _) (RelO.getD' l rd)⟩
/-- of one kind or the other -/
def DGetW (P : Program) (w : World) (K : PySem.W.Frag) (H : Hp) (a : Addr) (y : V) (o : Option V) : Prop := DGet H a y o ∨ DGX P w K H a y o
theorem dw_typ (I : Inv X pins σ H s) (g : DGetW X.prog X.w X.K H a y o) : s.TypeIs (.ref a) "dict" := g.elim (dict_typeIs I) (dx_typ I)
theorem dw_getItem {Q : Value → Shared → Prop} (hu : A.units + 1 < cLine) (I : Inv X pins σ H s) (g : DGetW X.prog X.w X.K H a y (some v)) (ry : L2.RelV y u) (h : ∀ w' s', Inv X pins σ H s' → L2.RelV v w' → Q w' s') :
    wpAny (model X.prog X.w) A (getItem (.ref a) u) Q E s := g.elim (fun g => d_getItem hu I g ry h) fun g => dx_getItem hu I g ry h
theorem dw_in {Q : Value → Shared → Prop} (hu : A.units + 1 < cLine) (I : Inv X pins σ H s) (g : DGetW X.prog X.w X.K H a y o) (ry : L2.RelV y u) (h : ∀ s', Inv X pins σ H s' → Q (.bool o.isSome) s') :
    wpAny (model X.prog X.w) A (compareOp .In u (.ref a)) Q E s := g.elim (fun g => d_in hu I g ry h) fun g => dx_in hu I g ry h
theorem dw_notIn {Q : Value → Shared → Prop} (hu : A.units + 1 < cLine) (I : Inv X pins σ H s) (g : DGetW X.prog X.w X.K H a y o) (ry : L2.RelV y u) (h : ∀ s', Inv X pins σ H s' → Q (.bool (!o.isSome)) s') :
    wpAny (model X.prog X.w) A (compareOp .NotIn u (.ref a)) Q E s := g.elim (fun g => d_notIn hu I g ry h) fun g => dx_notIn hu I g ry h
theorem dw_get1 {Q : Value → Shared → Prop} (hu : A.units + 1 < cLine) (I : Inv X pins σ H s) (g : DGetW X.prog X.w X.K H a y o) (ry : L2.RelV y u) (h : ∀ w' s', Inv X pins σ H s' → L2.RelV (o.getD .non) w' → Q w' s') :
    wpAny (model X.prog X.w) A (call (.builtin "dict.get") [.ref a, u]) Q E s := g.elim (fun g => d_get1 hu I g ry h) fun g => dx_get1 hu I g ry h
theorem dw_get2 {d : V} {Q : Value → Shared → Prop} (hu : A.units + 1 < cLine) (I : Inv X pins σ H s) (g : DGetW X.prog X.w X.K H a y o) (ry : L2.RelV y u) (rd : L2.RelV d r) (h : ∀ w' s', Inv X pins σ H s' → L2.RelV (o.getD d) w' → Q w' s') :
    wpAny (model X.prog X.w) A (call (.builtin "dict.get") [.ref a, u, r]) Q E s := g.elim (fun g => d_get2 hu I g ry rd h) fun g => dx_get2 hu I g ry rd h
/-- d[y] = r -/
theorem dx_setItem {Q : Unit → Shared → Prop} (hu : A.units + 1 < cLine) (I : Inv X pins σ H s) (e : H a = some (DXO X.prog X.w a xs)) (kq : KSq X.K H xs) (eb : SqT X.K H b (k.map kV)) (hl : xs.length < sizeLine)
    (h : ∀ s', Inv X pins σ (L2.upd H a (DXO X.prog X.w a (storedH xs k b r))) s' → Q () s') : wpAny (model X.prog X.w) A (setItem (.ref a) (.ref b) r) Q E s := by
  obtain ⟨hd, dd⟩ := dx_of I e kq
  refine wpAny_setItem_heap (hsz := Nat.le_of_lt hl) (tupleKind_room_in1 hu) (key_sq I eb) dd fun h' dd' hs => h _ ?_
  obtain ⟨q, es, ep, hq, h2, h3, h4, _, h5⟩ := dd'
  exact d_write I (by rw [e]; exact True.intro) hs ⟨q, hq⟩ (rawX_ok ⟨hd, q, es, ep, hq, h2, h3, h4, h5⟩)
theorem rawX_empty {P : Program} {w : World} (h : Heap) (hb : sysModules < h.objs.size) : rawX P w h.objs.size [] (h.push { cls := .type "dict", data := .dict #[] }) :=
  ⟨beq_eq_false_iff_ne.mpr (Ne.symm (Nat.ne_of_lt hb)), _, #[], 0, Heap.get?_push_size _ rfl, ⟨rfl, rfl, rfl⟩, rfl, rfl, List.nodup_nil⟩
/-- {}, to be such a dict -/
theorem pe_dictX0 {pos : Pos} : PE X (.Dict [] [] pos) (fun _ H Q => ∀ p, H p = none → Q (.ref p) (L2.upd H p (DXO X.prog X.w p []))) := ⟨fun pins s σ H Q I h =>
  wpAny_Dict_empty ⟨.ref s.heap.objs.size, _, I.laid (a := s.heap.objs.size) (o := DXO X.prog X.w s.heap.objs.size []) (t' := s.toks) (fun _ _ q => Heap.get?_push_of_some _ q) (Nat.le_refl _) (rawX_ok (rawX_empty s.heap I.big)), rfl, h _ (I.hok.fresh (Nat.le_refl _))⟩⟩
/-- list(d) -/
def rListX (P : Program) (w : World) (K : PySem.W.Frag) : List V → Hp → VK → Prop := fun vs H Q => ∃ (d : Addr) (xs : List XE), vs = [V.ref d] ∧ H d = some (DXO P w d xs) ∧ KSq K H xs ∧ xs.length ≤ sizeLine ∧ ∀ p, H p = none → Q (.ref p) (L2.upd H p (.lst (xs.map fun x => V.ref x.2.1)))
theorem call_listX (hc : X.calm = true) : CallR X (.type "list") (rListX X.prog X.w X.K) := by
  intro pins s σ H vs us Q I r h
  obtain ⟨d, xs, rfl, hd, kq, hz, q⟩ := h
  obtain ⟨u, rfl, rx⟩ := r.one
  cases rx
  obtain ⟨hs, o, es, ep, ho, hx, hdt, he, hn⟩ := (I.hok d _ hd).1
  have l1 : es.size = xs.length := size_of_entries he
  refine PySem.W.kdl_call (kdl_raw hs hx hdt) (I.ok.hd hc) ho (by omega) fun h' tk acc' c' kp e it => ?_
  have ea : acc'.toList = xs.map fun x => Value.ref x.2.1 := by
    refine List.ext_getElem? fun j => ?_
    rw [List.getElem?_map]
    have hl : acc'.toList.length = xs.length := by rw [Array.length_toList, it.1]; exact l1
    by_cases hj : j < xs.length
    · obtain ⟨en, hen, hv⟩ := it.2 j (acc'.toList[j]'(by omega)) (by rw [← Array.getElem?_toList]; exact List.getElem?_eq_getElem _)
      have qe := entry_at he j
      rw [hen, List.getElem?_eq_getElem hj] at qe
      have e2 : en = entryOfKey (tupleKind (mixKind X.prog X.w)) xs[j] := Option.some.inj qe
      rw [List.getElem?_eq_getElem (by omega), List.getElem?_eq_getElem hj, hv, e2]
      rfl
    · rw [List.getElem?_eq_none (by omega), List.getElem?_eq_none (by omega)]
      rfl
  have rv : Vals (xs.map fun x => V.ref x.2.1) acc'.toList := by
    have e1 : xs.map (fun x => V.ref x.2.1) = (xs.map fun x => x.2.1).map V.ref := by rw [List.map_map]; rfl
    have e2 : acc'.toList = (xs.map fun x => x.2.1).map Value.ref := by rw [ea, List.map_map]; rfl
    rw [e1, e2]
    exact vals_refs _
  refine ⟨.ref s.heap.objs.size, _, I.laid (t' := tk) (o := .lst (xs.map fun x => V.ref x.2.1)) kp (Nat.le_refl _) ?_, rfl, q _ (I.hok.fresh (Nat.le_refl _))⟩
  exact ⟨by rw [List.length_map]; exact hz, acc'.toList, c', rv, by rw [Array.toArray_toList]; exact e⟩
end
end DW

/-! DW, part 1: values as trees, the heap of what changes, how they stand for the hand layer's values and heap; the lifts. -/
namespace DW
open PySem L2

/-- a value: tuples are trees; rol: a list that nobody changes; ktup: a tuple of the module's own; ref: an object that may change -/
inductive D where
  | non | bl (b : Bool) | int (i : Int) | str (s : Str) | tup (ds : List D) | rol (ds : List D) | ktup (ds : List D) | ref (a : Addr)
/-- an object that may change; ins: an instance of the class with this number, its fields by their places -/
inductive MO where
  | lst (xs : List D)
  | dK (kvs : List (Key × D))
  | dT (kvs : List (List Key × D))
  | ins (c : Nat) (fs : List D)
  | fK (kvs : List (Key × D)) (o : Obj) (ws : List (Key × V))
  | fT (kvs : List (List Key × D)) (o : Obj) (ws : List (List Key × V))
  | tab
  | sK (S : Key → Bool) (n : Nat)
  | sT (S : List (List Int))
  | dX (kvs : List (List Key × Bool × D))
abbrev DH := Addr → Option MO
def up (h : DH) (a : Addr) (o : MO) : DH := fun b => if b = a then some o else h b
theorem up_same {h : DH} {a : Addr} {o : MO} : up h a o a = some o := by unfold up; rw [if_pos rfl]
theorem up_ne {h : DH} {a b : Addr} {o : MO} (n : b ≠ a) : up h a o b = h b := by unfold up; rw [if_neg n]
theorem up_up {h : DH} {a : Addr} {o u : MO} : up (up h a o) a u = up h a u := by
  funext b; unfold up; split <;> rfl
abbrev DSt := List (Option D)
/-- an exception: its class's number, its own fields -/
structure DX where
  c : Nat
  fs : Option (List (Str × D))

/-- what never changes -/
def fixedO : HO → Bool
  | .tup _ => true
  | .frz _ (.lst _) => true
  | .frz _ (.tup _) => true
  | _ => false
def TupLe (H H' : Hp) : Prop := ∀ a u, fixedO u = true → H a = some u → H' a = some u
theorem TupLe.refl (H : Hp) : TupLe H H := fun _ _ _ e => e
theorem TupLe.trans {H H1 H2 : Hp} (x : TupLe H H1) (y : TupLe H1 H2) : TupLe H H2 := fun a u f e => y a u f (x a u f e)
theorem TupLe.upd {H : Hp} {a : Addr} {o : HO} (h : ∀ u, H a = some u → fixedO u = false) : TupLe H (upd H a o) := fun b u f e => by
  by_cases n : b = a
  · subst n
    have := h u e
    rw [this] at f
    cases f
  · rw [upd_ne n]; exact e
theorem TupLe.new {H : Hp} {a : Addr} {o : HO} (h : H a = none) : TupLe H (L2.upd H a o) := TupLe.upd fun u e => by rw [h] at e; cases e

/-- a list of the script's kind: known to the object, or of the module -/
def RoL (K : PySem.W.Frag) (H : Hp) (a : Addr) (xs : List V) : Prop :=
  (∃ o, H a = some (.frz o (.lst xs))) ∨
    ∃ (o : Obj) (its : Array Value) (n : Nat), K.lookup a = some o ∧ o.cls = .type "list" ∧ o.dict = none ∧ o.data = .seq its n ∧ its.size ≤ sizeLine ∧ Vals xs its.toList
theorem RoL.sq {K : PySem.W.Frag} {H : Hp} {a : Addr} {xs : List V} (h : RoL K H a xs) : SqL K H a xs := h.elim (fun z => .inl (.inr z)) .inr
theorem RoL.keep {K : PySem.W.Frag} {H H' : Hp} {a : Addr} {xs : List V} (t : TupLe H H') (h : RoL K H a xs) : RoL K H' a xs :=
  h.elim (fun ⟨o, z⟩ => .inl ⟨o, t a _ rfl z⟩) .inr
/-- a tuple of the module -/
def KtT (K : PySem.W.Frag) (a : Addr) (xs : List V) : Prop :=
  ∃ (o : Obj) (its : Array Value) (n : Nat), K.lookup a = some o ∧ o.cls = .type "tuple" ∧ o.data = .seq its n ∧ its.size ≤ sizeLine ∧ Vals xs its.toList
theorem sqT_of {K : PySem.W.Frag} {H : Hp} {a : Addr} {xs : List V} (h : H a = some (.tup xs)) : SqT K H a xs := .inl (.inl h)
theorem SqT.keep {K : PySem.W.Frag} {H H' : Hp} {a : Addr} {xs : List V} (t : TupLe H H') (h : SqT K H a xs) : SqT K H' a xs := by
  rcases h with (h | ⟨o, h⟩) | h
  · exact .inl (.inl (t a _ rfl h))
  · exact .inl (.inr ⟨o, t a _ rfl h⟩)
  · exact .inr h

/-! ### what stands for what -/
mutual
def Rep (K : PySem.W.Frag) (H : Hp) : D → V → Prop
  | .non, v => v = .non
  | .bl b, v => v = .bl b
  | .int i, v => v = .int i
  | .str s, v => v = .str s
  | .tup ds, v => ∃ a vs, v = .ref a ∧ H a = some (.tup vs) ∧ Reps K H ds vs
  | .rol ds, v => ∃ a vs, v = .ref a ∧ RoL K H a vs ∧ Reps K H ds vs
  | .ktup ds, v => ∃ a vs, v = .ref a ∧ KtT K a vs ∧ Reps K H ds vs
  | .ref a, v => v = .ref a
def Reps (K : PySem.W.Frag) (H : Hp) : List D → List V → Prop
  | [], vs => vs = []
  | d :: ds, vs => ∃ v r, vs = v :: r ∧ Rep K H d v ∧ Reps K H ds r
end
section
variable {K : PySem.W.Frag} {H H' : Hp}
mutual
theorem Rep.keep (t : TupLe H H') : ∀ (d : D) (v : V), Rep K H d v → Rep K H' d v
  | .non, v, h => by simpa [Rep] using h
  | .bl b, v, h => by simpa [Rep] using h
  | .int i, v, h => by simpa [Rep] using h
  | .str s, v, h => by simpa [Rep] using h
  | .tup ds, v, h => by
    unfold Rep at h ⊢
    obtain ⟨a, vs, e, q, r⟩ := h
    exact ⟨a, vs, e, t a _ rfl q, Reps.keep t ds vs r⟩
  | .rol ds, v, h => by
    unfold Rep at h ⊢
    obtain ⟨a, vs, e, q, r⟩ := h
    exact ⟨a, vs, e, q.keep t, Reps.keep t ds vs r⟩
  | .ktup ds, v, h => by
    unfold Rep at h ⊢
    obtain ⟨a, vs, e, q, r⟩ := h
    exact ⟨a, vs, e, q, Reps.keep t ds vs r⟩
  | .ref a, v, h => by simpa [Rep] using h
theorem Reps.keep (t : TupLe H H') : ∀ (ds : List D) (vs : List V), Reps K H ds vs → Reps K H' ds vs
  | [], vs, h => by simpa [Reps] using h
  | d :: ds, vs, h => by
    unfold Reps at h ⊢
    obtain ⟨v, r, e, p, q⟩ := h
    exact ⟨v, r, e, Rep.keep t d v p, Reps.keep t ds r q⟩
end
theorem rep_non : Rep K H .non .non := by unfold Rep; rfl
theorem rep_bl {b : Bool} : Rep K H (.bl b) (.bl b) := by unfold Rep; rfl
theorem rep_int {i : Int} : Rep K H (.int i) (.int i) := by unfold Rep; rfl
theorem rep_str {s : Str} : Rep K H (.str s) (.str s) := by unfold Rep; rfl
theorem rep_ref {a : Addr} : Rep K H (.ref a) (.ref a) := by unfold Rep; rfl
theorem rep_tup {ds : List D} {a : Addr} {vs : List V} (q : H a = some (.tup vs)) (r : Reps K H ds vs) : Rep K H (.tup ds) (.ref a) := by unfold Rep; exact ⟨a, vs, rfl, q, r⟩
theorem rep_rol {ds : List D} {a : Addr} {vs : List V} (q : RoL K H a vs) (r : Reps K H ds vs) : Rep K H (.rol ds) (.ref a) := by unfold Rep; exact ⟨a, vs, rfl, q, r⟩
theorem Rep.non_ {v : V} (h : Rep K H .non v) : v = .non := by simpa [Rep] using h
theorem Rep.bl_ {b : Bool} {v : V} (h : Rep K H (.bl b) v) : v = .bl b := by simpa [Rep] using h
theorem Rep.int_ {i : Int} {v : V} (h : Rep K H (.int i) v) : v = .int i := by simpa [Rep] using h
theorem Rep.str_ {s : Str} {v : V} (h : Rep K H (.str s) v) : v = .str s := by simpa [Rep] using h
theorem Rep.ref_ {a : Addr} {v : V} (h : Rep K H (.ref a) v) : v = .ref a := by simpa [Rep] using h
theorem Rep.tupH {ds : List D} {v : V} (h : Rep K H (.tup ds) v) : ∃ a vs, v = .ref a ∧ H a = some (.tup vs) ∧ Reps K H ds vs := by unfold Rep at h; exact h
theorem Rep.tup_ {ds : List D} {v : V} (h : Rep K H (.tup ds) v) : ∃ a vs, v = .ref a ∧ SqT K H a vs ∧ Reps K H ds vs := let ⟨a, vs, e, q, r⟩ := h.tupH; ⟨a, vs, e, sqT_of q, r⟩
theorem Rep.ktup_ {ds : List D} {v : V} (h : Rep K H (.ktup ds) v) : ∃ a vs, v = .ref a ∧ SqT K H a vs ∧ Reps K H ds vs := by
  unfold Rep at h
  obtain ⟨a, vs, e, q, r⟩ := h
  exact ⟨a, vs, e, .inr q, r⟩
theorem rep_ktup {ds : List D} {a : Addr} {vs : List V} (q : KtT K a vs) (r : Reps K H ds vs) : Rep K H (.ktup ds) (.ref a) := by unfold Rep; exact ⟨a, vs, rfl, q, r⟩
theorem Rep.rol_ {ds : List D} {v : V} (h : Rep K H (.rol ds) v) : ∃ a vs, v = .ref a ∧ RoL K H a vs ∧ Reps K H ds vs := by unfold Rep at h; exact h
theorem reps_nil : Reps K H [] [] := by unfold Reps; rfl
theorem reps_cons {d : D} {ds : List D} {v : V} {vs : List V} (p : Rep K H d v) (q : Reps K H ds vs) : Reps K H (d :: ds) (v :: vs) := by unfold Reps; exact ⟨v, vs, rfl, p, q⟩
theorem Reps.nil_ {vs : List V} (h : Reps K H [] vs) : vs = [] := by simpa [Reps] using h
theorem Reps.cons_ {d : D} {ds : List D} {vs : List V} (h : Reps K H (d :: ds) vs) : ∃ v r, vs = v :: r ∧ Rep K H d v ∧ Reps K H ds r := by unfold Reps at h; exact h
theorem Reps.length : ∀ {ds : List D} {vs : List V}, Reps K H ds vs → vs.length = ds.length
  | [], vs, h => by rw [h.nil_]; rfl
  | d :: ds, vs, h => by
    obtain ⟨v, r, rfl, p, q⟩ := h.cons_
    simp [q.length]
theorem Reps.get : ∀ {ds : List D} {vs : List V} {i : Nat} {d : D}, Reps K H ds vs → ds[i]? = some d → ∃ v, vs[i]? = some v ∧ Rep K H d v
  | [], vs, i, d, h, e => by simp at e
  | d₀ :: ds, vs, 0, d, h, e => by
    obtain ⟨v, r, rfl, p, q⟩ := h.cons_
    simp at e; subst e
    exact ⟨v, rfl, p⟩
  | d₀ :: ds, vs, i + 1, d, h, e => by
    obtain ⟨v, r, rfl, p, q⟩ := h.cons_
    obtain ⟨w, h1, h2⟩ := Reps.get (i := i) (d := d) q (by simpa using e)
    exact ⟨w, by simpa using h1, h2⟩
theorem Reps.getV : ∀ {ds : List D} {vs : List V} {i : Nat} {v : V}, Reps K H ds vs → vs[i]? = some v → ∃ d, ds[i]? = some d ∧ Rep K H d v := fun {ds vs i v} r e => by
  have hl := r.length
  have hi := (List.getElem?_eq_some_iff.mp e).1
  obtain ⟨w, h1, h2⟩ := r.get (i := i) (d := ds[i]'(by omega)) (List.getElem?_eq_getElem _)
  rw [e] at h1
  cases h1
  exact ⟨_, List.getElem?_eq_getElem (by omega), h2⟩
theorem Reps.append : ∀ {ds es : List D} {vs us : List V}, Reps K H ds vs → Reps K H es us → Reps K H (ds ++ es) (vs ++ us)
  | [], es, vs, us, h, g => by rw [h.nil_]; exact g
  | d :: ds, es, vs, us, h, g => by
    obtain ⟨v, r, rfl, p, q⟩ := h.cons_
    exact reps_cons p (q.append g)
theorem Reps.take : ∀ {ds : List D} {vs : List V} (n : Nat), Reps K H ds vs → Reps K H (ds.take n) (vs.take n)
  | ds, vs, 0, h => by simp only [List.take_zero]; exact reps_nil
  | [], vs, n + 1, h => by rw [h.nil_]; exact reps_nil
  | d :: ds, vs, n + 1, h => by
    obtain ⟨v, r, rfl, p, q⟩ := h.cons_
    exact reps_cons p (q.take n)
theorem Reps.drop : ∀ {ds : List D} {vs : List V} (n : Nat), Reps K H ds vs → Reps K H (ds.drop n) (vs.drop n)
  | ds, vs, 0, h => h
  | [], vs, n + 1, h => by rw [h.nil_]; exact reps_nil
  | d :: ds, vs, n + 1, h => by
    obtain ⟨v, r, rfl, p, q⟩ := h.cons_
    exact q.drop n
theorem Reps.set : ∀ {ds : List D} {vs : List V} (i : Nat) {d : D} {v : V}, Reps K H ds vs → Rep K H d v → Reps K H (ds.set i d) (vs.set i v)
  | [], vs, i, d, v, h, g => by rw [h.nil_]; exact reps_nil
  | d₀ :: ds, vs, 0, d, v, h, g => by
    obtain ⟨w, r, rfl, p, q⟩ := h.cons_
    exact reps_cons g q
  | d₀ :: ds, vs, i + 1, d, v, h, g => by
    obtain ⟨w, r, rfl, p, q⟩ := h.cons_
    exact reps_cons p (q.set i g)
theorem Reps.reverse {ds : List D} {vs : List V} (h : Reps K H ds vs) : Reps K H ds.reverse vs.reverse := by
  induction ds generalizing vs with
  | nil => rw [h.nil_]; exact reps_nil
  | cons d ds ih =>
    obtain ⟨v, r, rfl, p, q⟩ := h.cons_
    rw [List.reverse_cons, List.reverse_cons]
    exact (ih q).append (reps_cons p reps_nil)
theorem Reps.eraseIdx : ∀ {ds : List D} {vs : List V} (i : Nat), Reps K H ds vs → Reps K H (ds.eraseIdx i) (vs.eraseIdx i)
  | [], vs, i, h => by rw [h.nil_]; exact reps_nil
  | d₀ :: ds, vs, 0, h => by
    obtain ⟨w, r, rfl, p, q⟩ := h.cons_
    exact q
  | d₀ :: ds, vs, i + 1, h => by
    obtain ⟨w, r, rfl, p, q⟩ := h.cons_
    exact reps_cons p (q.eraseIdx i)
theorem reps_ints : ∀ (ns : List Int), Reps K H (ns.map D.int) (ns.map V.int)
  | [] => reps_nil
  | n :: ns => reps_cons rep_int (reps_ints ns)
theorem Reps.ints_ : ∀ {ns : List Int} {vs : List V}, Reps K H (ns.map D.int) vs → vs = ns.map V.int
  | [], vs, h => h.nil_
  | n :: ns, vs, h => by
    obtain ⟨v, r, rfl, p, q⟩ := h.cons_
    rw [p.int_, q.ints_]; rfl
theorem Reps.dropLast {ds : List D} {vs : List V} (h : Reps K H ds vs) : Reps K H ds.dropLast vs.dropLast := by
  rw [List.dropLast_eq_take, List.dropLast_eq_take, h.length]
  exact h.take _
end

/-! ### pairs -/
/-- entries with the same names (keys), the values standing for each other -/
def RepF {κ : Type} (K : PySem.W.Frag) (H : Hp) : List (κ × D) → List (κ × V) → Prop
  | [], ws => ws = []
  | (f, d) :: fs, ws => ∃ v r, ws = (f, v) :: r ∧ Rep K H d v ∧ RepF K H fs r
section
variable {κ : Type} {K : PySem.W.Frag} {H H' : Hp}
theorem RepF.keep (t : TupLe H H') : ∀ {fs : List (κ × D)} {ws : List (κ × V)}, RepF K H fs ws → RepF K H' fs ws
  | [], ws, h => h
  | (f, d) :: fs, ws, h => by
    obtain ⟨v, r, e, p, q⟩ := h
    exact ⟨v, r, e, p.keep t, RepF.keep t q⟩
theorem RepF.length : ∀ {fs : List (κ × D)} {ws : List (κ × V)}, RepF K H fs ws → ws.length = fs.length
  | [], ws, h => by rw [show ws = [] from h]; rfl
  | (f, d) :: fs, ws, h => by
    obtain ⟨v, r, rfl, p, q⟩ := h
    simp [q.length]
theorem RepF.keys : ∀ {fs : List (κ × D)} {ws : List (κ × V)}, RepF K H fs ws → ws.map (·.1) = fs.map (·.1)
  | [], ws, h => by rw [show ws = [] from h]; rfl
  | (f, d) :: fs, ws, h => by
    obtain ⟨v, r, rfl, p, q⟩ := h
    simp [q.keys]
theorem RepF.look [BEq κ] {f : κ} : ∀ {fs : List (κ × D)} {ws : List (κ × V)}, RepF K H fs ws →
    (∀ d, fs.lookup f = some d → ∃ v, ws.lookup f = some v ∧ Rep K H d v) ∧ (fs.lookup f = none → ws.lookup f = none)
  | [], ws, h => by
    rw [show ws = [] from h]
    exact ⟨fun d e => by simp [List.lookup] at e, fun _ => by simp [List.lookup]⟩
  | (g, d) :: fs, ws, h => by
    obtain ⟨v, r, rfl, p, q⟩ := h
    have ih := q.look (f := f)
    simp only [List.lookup]
    cases hb : f == g with
    | true =>
      simp only
      exact ⟨fun d' e => by cases e; exact ⟨v, rfl, p⟩, fun e => by cases e⟩
    | false =>
      simp only
      exact ih
end
/-! ### dicts whose keys are tuples, some of the module -/
def KeyX (K : PySem.W.Frag) (H : Hp) (m : Bool) (c : Addr) (k : List Key) : Prop := if m = true then KtT K c (k.map kV) else H c = some (.tup (k.map kV))
theorem KeyX.sq {K : PySem.W.Frag} {H : Hp} {m : Bool} {c : Addr} {k : List Key} (h : KeyX K H m c k) : SqT K H c (k.map kV) := by
  unfold KeyX at h
  split at h
  · exact .inr h
  · exact sqT_of h
theorem KeyX.keep {K : PySem.W.Frag} {H H' : Hp} {m : Bool} {c : Addr} {k : List Key} (t : TupLe H H') (h : KeyX K H m c k) : KeyX K H' m c k := by
  unfold KeyX at h ⊢
  split
  · rename_i z; rw [if_pos z] at h; exact h
  · rename_i z; rw [if_neg z] at h; exact t _ _ rfl h
def RepX (K : PySem.W.Frag) (H : Hp) : List (List Key × Bool × D) → List XE → Prop
  | [], xs => xs = []
  | (k, m, d) :: kvs, xs => ∃ c u r v, xs = (k, c, u) :: r ∧ KeyX K H m c k ∧ Rep K H d v ∧ L2.RelV v u ∧ RepX K H kvs r
def valX (kvs : List (List Key × Bool × D)) (k : List Key) : Option D := (kvs.find? fun q => decide (q.1 = k)).map (·.2.2)
def putX (kvs : List (List Key × Bool × D)) (k : List Key) (m : Bool) (d : D) : List (List Key × Bool × D) := if (valX kvs k).isSome = true then kvs.map fun q => if q.1 = k then (q.1, q.2.1, d) else q else kvs ++ [(k, m, d)]
section
variable {K : PySem.W.Frag} {H H' : Hp}
theorem RepX.keep (t : TupLe H H') : ∀ {kvs : List (List Key × Bool × D)} {xs : List XE}, RepX K H kvs xs → RepX K H' kvs xs
  | [], _, h => h
  | (k, m, d) :: kvs, _, ⟨c, u, r, v, e, h1, h2, h3, h4⟩ => ⟨c, u, r, v, e, h1.keep t, Rep.keep t _ _ h2, h3, RepX.keep t h4⟩
theorem RepX.ksq : ∀ {kvs : List (List Key × Bool × D)} {xs : List XE}, RepX K H kvs xs → KSq K H xs
  | [], _, h => by rw [show _ = [] from h]; intro q hq; cases hq
  | (k, m, d) :: kvs, _, ⟨c, u, r, v, e, h1, h2, h3, h4⟩ => by
    rw [e]
    intro q hq
    rcases List.mem_cons.mp hq with z | z
    · rw [z]; exact h1.sq
    · exact RepX.ksq h4 q z
theorem RepX.length : ∀ {kvs : List (List Key × Bool × D)} {xs : List XE}, RepX K H kvs xs → xs.length = kvs.length
  | [], _, h => by rw [show _ = [] from h]; rfl
  | (k, m, d) :: kvs, _, ⟨c, u, r, v, e, h1, h2, h3, h4⟩ => by rw [e, List.length_cons, List.length_cons, RepX.length h4]
theorem RepX.val (k : List Key) : ∀ {kvs : List (List Key × Bool × D)} {xs : List XE}, RepX K H kvs xs → (∀ d, valX kvs k = some d → ∃ v, RelO (some v) ((atKey xs k).map (·.2)) ∧ Rep K H d v) ∧ (valX kvs k = none → atKey xs k = none)
  | [], _, h => by
    rw [show _ = [] from h]
    exact ⟨(fun d e => by cases e), fun _ => rfl⟩
  | (k', m, d') :: kvs, _, ⟨c, u, r, v, e, h1, h2, h3, h4⟩ => by
    rw [e]
    by_cases z : k' = k
    · have a1 : valX ((k', m, d') :: kvs) k = some d' := by unfold valX; simp [z]
      have a2 : atKey ((k', c, u) :: r) k = some (c, u) := by simp [atKey, List.find?_cons, z]
      rw [a1, a2]
      exact ⟨(fun d q => by cases q; exact ⟨v, h3, h2⟩), (fun q => by cases q)⟩
    · have a1 : valX ((k', m, d') :: kvs) k = valX kvs k := by unfold valX; simp [z]
      have a2 : atKey ((k', c, u) :: r) k = atKey r k := by simp [atKey, List.find?_cons, z]
      rw [a1, a2]
      exact RepX.val k h4
theorem RepX.repl (k : List Key) {d : D} {v : V} {u : Value} (r1 : Rep K H d v) (r2 : L2.RelV v u) : ∀ {kvs : List (List Key × Bool × D)} {xs : List XE}, RepX K H kvs xs → RepX K H (kvs.map fun q => if q.1 = k then (q.1, q.2.1, d) else q) (xs.map (putAt k u))
  | [], _, h => by rw [show _ = [] from h]; rfl
  | (k', m, d') :: kvs, _, ⟨c, u', r, v', e, h1, h2, h3, h4⟩ => by
    rw [e, List.map_cons, List.map_cons]
    have ih := RepX.repl k r1 r2 h4
    by_cases z : k' = k
    · rw [show (if (k', m, d').1 = k then ((k', m, d').1, (k', m, d').2.1, d) else (k', m, d')) = (k', m, d) from if_pos z, show putAt k u (k', c, u') = (k', c, u) from if_pos z]
      exact ⟨c, u, _, v, rfl, h1, r1, r2, ih⟩
    · rw [show (if (k', m, d').1 = k then ((k', m, d').1, (k', m, d').2.1, d) else (k', m, d')) = (k', m, d') from if_neg z, show putAt k u (k', c, u') = (k', c, u') from if_neg z]
      exact ⟨c, u', _, v', rfl, h1, h2, h3, ih⟩
theorem RepX.snoc {k : List Key} {m : Bool} {c : Addr} {d : D} {v : V} {u : Value} (hk : KeyX K H m c k) (r1 : Rep K H d v) (r2 : L2.RelV v u) : ∀ {kvs : List (List Key × Bool × D)} {xs : List XE}, RepX K H kvs xs → RepX K H (kvs ++ [(k, m, d)]) (xs ++ [(k, c, u)])
  | [], _, h => by rw [show _ = [] from h]; exact ⟨c, u, [], v, rfl, hk, r1, r2, rfl⟩
  | (k', m', d') :: kvs, _, ⟨c', u', r, v', e, h1, h2, h3, h4⟩ => by
    rw [e]
    exact ⟨c', u', _, v', rfl, h1, h2, h3, RepX.snoc hk r1 r2 h4⟩
theorem RepX.put {k : List Key} {m : Bool} {c : Addr} {d : D} {v : V} {u : Value} (hk : KeyX K H m c k) (r1 : Rep K H d v) (r2 : L2.RelV v u) {kvs : List (List Key × Bool × D)} {xs : List XE} (h : RepX K H kvs xs) : RepX K H (putX kvs k m d) (storedH xs k c u) := by
  unfold putX storedH
  obtain ⟨h1, h2⟩ := h.val k
  cases e : valX kvs k with
  | none =>
    rw [h2 e]
    exact h.snoc hk r1 r2
  | some d0 =>
    obtain ⟨v0, q, _⟩ := h1 d0 e
    cases ea : atKey xs k with
    | none => rw [ea] at q; exact q.elim
    | some p => exact h.repl k r1 r2
theorem putX_len {kvs : List (List Key × Bool × D)} {k : List Key} {m : Bool} {d : D} : (putX kvs k m d).length ≤ kvs.length + 1 := by
  unfold putX
  split
  · rw [List.length_map]; omega
  · simp
end
/-! ### the program's own: the written part, the classes -/
/-- prog, world, written part, module's names, base; the classes: their addresses and their fields' names by the numbers -/
structure Pg where
  P : Program
  w : World
  K : PySem.W.Frag
  mg : Str → Option Value
  base : Heap
  ca : Nat → Addr
  fn : Nat → List Str
  tab : Addr := 0

/-- an object stands for another -/
def OR (G : Pg) (H : Hp) (a : Addr) : MO → Prop
  | .lst xs => ∃ vs, H a = some (.lst vs) ∧ Reps G.K H xs vs
  | .dK kvs => ∃ ws, H a = some (.dK ws) ∧ RepF G.K H kvs ws
  | .dT kvs => ∃ ws, H a = some (.dT ws) ∧ RepF G.K H kvs ws
  | .ins c fs => ∃ dx vs, H a = some (.ins (G.ca c) dx ((G.fn c).zip vs)) ∧ Reps G.K H fs vs ∧ fs.length ≤ (G.fn c).length
  | .fK kvs o ws => H a = some (.frz o (.dK ws)) ∧ RepF G.K H kvs ws
  | .fT kvs o ws => H a = some (.frz o (.dT ws)) ∧ RepF G.K H kvs ws
  | .tab => a = G.tab ∧ GxR.TabG H a
  | .sK S n => H a = some (SetK G.P G.w a S n)
  | .sT S => ∃ L, H a = some (SetTO G.P G.w a L) ∧ (L.map (·.2)).Perm S ∧ ∀ p ∈ L, SqT G.K H p.1 (p.2.map V.int)
  | .dX kvs => ∃ xs, H a = some (DXO G.P G.w a xs) ∧ RepX G.K H kvs xs ∧ kvs.length ≤ sizeLine
def RH (G : Pg) (H : Hp) (h : DH) : Prop := ∀ a o, h a = some o → OR G H a o
def RE (K : PySem.W.Frag) (H : Hp) (e : DSt) (σ : St) : Prop := e.length = σ.length ∧ ∀ (i : Nat) (d : D), e[i]? = some (some d) → ∃ v, σ[i]? = some (some v) ∧ Rep K H d v
/-- an exception without fields of its own has no dict -/
def RX (G : Pg) (H : Hp) (x : DX) (cls : Value) (dd : Option Addr) : Prop := cls = .ref (G.ca x.c) ∧ match x.fs with
  | none => dd = none
  | some fs => ∃ d ws, dd = some d ∧ H d = some (.xd ws) ∧ RepF G.K H fs ws
section
variable {G : Pg} {H H' : Hp} {h : DH} {a : Addr} {o : MO} {e : DSt} {σ : St}
theorem OR.some (r : OR G H a o) : ∃ u, H a = some u ∧ fixedO u = false := by
  cases o with
  | lst xs => obtain ⟨vs, p, _⟩ := r; exact ⟨_, p, rfl⟩
  | dK xs => obtain ⟨vs, p, _⟩ := r; exact ⟨_, p, rfl⟩
  | dT xs => obtain ⟨vs, p, _⟩ := r; exact ⟨_, p, rfl⟩
  | ins c fs => obtain ⟨dx, vs, p, _⟩ := r; exact ⟨_, p, rfl⟩
  | fK xs o ws => exact ⟨_, r.1, rfl⟩
  | fT xs o ws => exact ⟨_, r.1, rfl⟩
  | tab => obtain ⟨_, ps, p, _⟩ := r; exact ⟨_, p, rfl⟩
  | sK S n => exact ⟨_, r, rfl⟩
  | sT S => obtain ⟨L, p, _⟩ := r; exact ⟨_, p, rfl⟩
  | dX kvs => obtain ⟨L, p, _⟩ := r; exact ⟨_, p, rfl⟩
theorem OR.keep (t : TupLe H H') (same : ∀ u, H a = Option.some u → H' a = Option.some u) (r : OR G H a o) : OR G H' a o := by
  cases o with
  | lst xs => obtain ⟨vs, p, q⟩ := r; exact ⟨vs, same _ p, Reps.keep t _ _ q⟩
  | dK xs => obtain ⟨vs, p, q⟩ := r; exact ⟨vs, same _ p, q.keep t⟩
  | dT xs => obtain ⟨vs, p, q⟩ := r; exact ⟨vs, same _ p, q.keep t⟩
  | ins c fs => obtain ⟨dx, vs, p, q, l⟩ := r; exact ⟨dx, vs, same _ p, Reps.keep t _ _ q, l⟩
  | fK xs o ws => exact ⟨same _ r.1, r.2.keep t⟩
  | fT xs o ws => exact ⟨same _ r.1, r.2.keep t⟩
  | tab => obtain ⟨e, ps, p, q⟩ := r; exact ⟨e, ps, same _ p, q⟩
  | sK S n => exact same _ r
  | sT S => obtain ⟨L, p, q, k⟩ := r; exact ⟨L, same _ p, q, fun z m => SqT.keep t (k z m)⟩
  | dX kvs => obtain ⟨L, p, q, k⟩ := r; exact ⟨L, same _ p, q.keep t, k⟩
theorem RE.keep (t : TupLe H H') (r : RE G.K H e σ) : RE G.K H' e σ := ⟨r.1, fun i d z => by
  obtain ⟨v, p, q⟩ := r.2 i d z
  exact ⟨v, p, Rep.keep t d v q⟩⟩
theorem RE.set {K : PySem.W.Frag} {i : Nat} {d : D} {v : V} (r : RE K H e σ) (q : Rep K H d v) : RE K H (e.set i (some d)) (σ.set i (some v)) := by
  refine ⟨by rw [List.length_set, List.length_set]; exact r.1, fun j d' z => ?_⟩
  by_cases n : i = j
  · subst n
    by_cases l : i < e.length
    · rw [List.getElem?_set_self l] at z
      cases z
      exact ⟨v, List.getElem?_set_self (by rw [← r.1]; exact l), q⟩
    · rw [List.getElem?_eq_none (by rw [List.length_set]; omega)] at z
      cases z
  · rw [List.getElem?_set_ne n] at z
    obtain ⟨w, p, q'⟩ := r.2 j d' z
    exact ⟨w, by rw [List.getElem?_set_ne n]; exact p, q'⟩
theorem RE.unset {K : PySem.W.Frag} {i : Nat} (r : RE K H e σ) : RE K H (e.set i none) (σ.set i none) := by
  refine ⟨by rw [List.length_set, List.length_set]; exact r.1, fun j d' z => ?_⟩
  by_cases n : i = j
  · subst n
    by_cases l : i < e.length
    · rw [List.getElem?_set_self l] at z
      cases z
    · rw [List.getElem?_eq_none (by rw [List.length_set]; omega)] at z
      cases z
  · rw [List.getElem?_set_ne n] at z
    obtain ⟨w, p, q'⟩ := r.2 j d' z
    exact ⟨w, by rw [List.getElem?_set_ne n]; exact p, q'⟩
/-- a new address is new for the tree's heap too -/
theorem RH.fresh (r : RH G H h) {p : Addr} (hp : H p = none) : h p = none := by
  cases z : h p with
  | none => rfl
  | some o =>
    obtain ⟨u, q, _⟩ := (r p o z).some
    rw [hp] at q
    cases q
/-- the hand heap takes one more thing, or another thing at a -/
theorem RH.upd (r : RH G H h) {u : HO} {o : MO} (hf : ∀ z, H a = Option.some z → fixedO z = false) (ho : OR G (L2.upd H a u) a o) : RH G (L2.upd H a u) (up h a o) := fun b ob e => by
  by_cases n : b = a
  · subst n
    rw [up_same] at e
    cases e
    exact ho
  · rw [up_ne n] at e
    exact (r b ob e).keep (TupLe.upd hf) fun z q => by rw [upd_ne n]; exact q
/-- a thing that the tree's heap does not know -/
theorem RH.more (r : RH G H h) {u : HO} (hf : H a = none) : RH G (L2.upd H a u) h := fun b ob e => by
  have n : b ≠ a := fun z => by subst z; rw [r.fresh hf] at e; cases e
  exact (r b ob e).keep (TupLe.new hf) fun z q => by rw [upd_ne n]; exact q
/-- part of a heap -/
def Sub (h h' : DH) : Prop := ∀ a o, h a = Option.some o → h' a = Option.some o
theorem Sub.refl (h : DH) : Sub h h := fun _ _ e => e
theorem Sub.trans {h h1 h2 : DH} (x : Sub h h1) (y : Sub h1 h2) : Sub h h2 := fun a o e => y a o (x a o e)
theorem Sub.new {h : DH} {p : Addr} {o : MO} (hp : h p = none) : Sub h (up h p o) := fun a u e => by
  have n : a ≠ p := fun z => by subst z; rw [hp] at e; cases e
  rw [up_ne n]; exact e
theorem Sub.over {h h' : DH} {p : Addr} {o : MO} (s : Sub h h') (hp : h p = none) : Sub h (up h' p o) := fun a u e => by
  have n : a ≠ p := fun z => by subst z; rw [hp] at e; cases e
  rw [up_ne n]; exact s a u e
theorem RH.sub {h' : DH} (r : RH G H h') (s : Sub h h') : RH G H h := fun a o e => r a o (s a o e)
theorem RX.keep {x : DX} {cls : Value} {dd : Option Addr} (t : TupLe H H') (same : ∀ d u, dd = Option.some d → H d = Option.some u → H' d = Option.some u) (r : RX G H x cls dd) : RX G H' x cls dd := by
  obtain ⟨e, m⟩ := r
  refine ⟨e, ?_⟩
  cases hf : x.fs with
  | none => rw [hf] at m; exact m
  | some fs =>
    rw [hf] at m
    obtain ⟨d, ws, e1, e2, e3⟩ := m
    exact ⟨d, ws, e1, same _ _ e1 e2, e3.keep t⟩
end

/-! ### what the readings are, at D -/
abbrev KD := D → DH → Prop
abbrev KX := DX → DH → Prop
abbrev DE := DSt → DH → KD → KX → Prop
abbrev DT := DSt → DH → (Bool → DH → Prop) → KX → Prop
abbrev DA := DSt → DH → (List D → DH → Prop) → KX → Prop
structure DEnds where
  nx : DSt → DH → Prop
  rt : KD
  bk : DSt → DH → Prop := fun _ _ => False
  ct : DSt → DH → Prop := fun _ _ => False
  ex : DX → DSt → DH → Prop := fun _ _ _ => False
abbrev DS := DEnds → DSt → DH → Prop
abbrev DSp := List D → DH → KD → KX → Prop

/-! ### the lifts -/
section
variable (G : Pg) (W : WX)
def LX (W : WX) (σ : St) (H : Hp) (R : KX) : Prop := ∀ x h' cls dd H', R x h' → TupLe H H' → RH G H' h' → RX G H' x cls dd → W cls dd σ H'
def LE (t : DE) : TE := fun σ H Q => ∃ e h P R, RE G.K H e σ ∧ RH G H h ∧ t e h P R ∧ (∀ d h' v H', P d h' → TupLe H H' → RH G H' h' → Rep G.K H' d v → Q v H') ∧ LX G W σ H R
def LT (t : DT) : TT := fun σ H Q => ∃ e h P R, RE G.K H e σ ∧ RH G H h ∧ t e h P R ∧ (∀ b h' H', P b h' → TupLe H H' → RH G H' h' → Q b H') ∧ LX G W σ H R
def LA (t : DA) : TA := fun σ H Q => ∃ e h P R, RE G.K H e σ ∧ RH G H h ∧ t e h P R ∧ (∀ ds h' vs H', P ds h' → TupLe H H' → RH G H' h' → Reps G.K H' ds vs → Q vs H') ∧ LX G W σ H R
structure LEnds (D : Ends) (D' : DEnds) (H : Hp) : Prop where
  nx : ∀ e' h' σ' H', D'.nx e' h' → TupLe H H' → RH G H' h' → RE G.K H' e' σ' → D.nx σ' H'
  rt : ∀ d h' v H', D'.rt d h' → TupLe H H' → RH G H' h' → Rep G.K H' d v → D.rt v H'
  bk : ∀ e' h' σ' H', D'.bk e' h' → TupLe H H' → RH G H' h' → RE G.K H' e' σ' → D.bk σ' H'
  ct : ∀ e' h' σ' H', D'.ct e' h' → TupLe H H' → RH G H' h' → RE G.K H' e' σ' → D.ct σ' H'
  ex : ∀ x e' h' cls dd σ' H', D'.ex x e' h' → TupLe H H' → RH G H' h' → RE G.K H' e' σ' → RX G H' x cls dd → W cls dd σ' H'
def LS (t : DS) : TS := fun D σ H => ∃ e h D', RE G.K H e σ ∧ RH G H h ∧ t D' e h ∧ LEnds G W D D' H
def LSp (s : DSp) : Sp := fun vs H Q E => ∃ ds h P R, Reps G.K H ds vs ∧ RH G H h ∧ s ds h P R ∧ (∀ d h' v H', P d h' → TupLe H H' → RH G H' h' → Rep G.K H' d v → Q v H') ∧
  (∀ x h' cls dd H', R x h' → TupLe H H' → RH G H' h' → RX G H' x cls dd → E cls dd H')
end
theorem LEnds.later {G : Pg} {W : WX} {D : Ends} {D' : DEnds} {H H1 : Hp} (l : LEnds G W D D' H) (t : TupLe H H1) : LEnds G W D D' H1 where
  nx e' h' σ' H' z t' := l.nx e' h' σ' H' z (t.trans t')
  rt d h' v H' z t' := l.rt d h' v H' z (t.trans t')
  bk e' h' σ' H' z t' := l.bk e' h' σ' H' z (t.trans t')
  ct e' h' σ' H' z t' := l.ct e' h' σ' H' z (t.trans t')
  ex x e' h' cls dd σ' H' z t' := l.ex x e' h' cls dd σ' H' z (t.trans t')
theorem LX.later {G : Pg} {W : WX} {σ : St} {H H1 : Hp} {R : KX} (l : LX G W σ H R) (t : TupLe H H1) : LX G W σ H1 R := fun x h' cls dd H' z t' => l x h' cls dd H' z (t.trans t')

/-- a reading may ask more -/
theorem pe_imp {X : Cx} {e : Expr} {t t' : TE} (h : PE X e t) (i : ∀ σ H Q, t' σ H Q → t σ H Q) : PE X e t' := ⟨fun pins s σ H Q I q => h.run pins s σ H Q I (i _ _ _ q)⟩
theorem pt_imp {X : Cx} {e : Expr} {t t' : TT} (h : PT X e t) (i : ∀ σ H Q, t' σ H Q → t σ H Q) : PT X e t' := ⟨fun pins s σ H Q I q => h.run pins s σ H Q I (i _ _ _ q)⟩
theorem pw_imp {X : Cx} {e : Expr} {t t' : TT} (h : PW X e t) (i : ∀ σ H Q, t' σ H Q → t σ H Q) : PW X e t' := ⟨fun whole pins s σ H Q I q => h.run whole pins s σ H Q I (i _ _ _ q)⟩
theorem pa_imp {X : Cx} {es : List Expr} {t t' : TA} (h : PA X es t) (i : ∀ σ H Q, t' σ H Q → t σ H Q) : PA X es t' := ⟨fun pos pins s σ H Q I q => h.run pos pins s σ H Q I (i _ _ _ q)⟩
theorem ps_imp {X : Cx} {e : Stmt} {t t' : TS} (h : PS X e t) (i : ∀ D σ H, t' D σ H → t D σ H) : PS X e t' := ⟨fun pins s σ H Q I q => h.run pins s σ H Q I (i _ _ _ q)⟩
theorem pss_imp {X : Cx} {e : List Stmt} {t t' : TS} (h : PSs X e t) (i : ∀ D σ H, t' D σ H → t D σ H) : PSs X e t' := ⟨fun pins s σ H Q I q => h.run pins s σ H Q I (i _ _ _ q)⟩
end DW

/-! DW, part 2: operators on two values. -/
namespace DW
open PySem L2

/-- an operator on two values at D, and what the hand layer asks of the same -/
abbrev DO := D → D → DH → KD → Prop
def Fin2 (G : Pg) (P : KD) (H : Hp) (Q : VK) : Prop := ∀ d h' v H', P d h' → TupLe H H' → RH G H' h' → Rep G.K H' d v → Q v H'
def OpD (G : Pg) (f : DO) (r : R2) : Prop := ∀ H h x y v u P Q, RH G H h → Rep G.K H x v → Rep G.K H y u → f x y h P → Fin2 G P H Q → r v u H Q
theorem Fin2.val {G : Pg} {P : KD} {H : Hp} {Q : VK} {h : DH} {d : D} {v : V} (f : Fin2 G P H Q) (rh : RH G H h) (p : P d h) (r : Rep G.K H d v) : Q v H := f d h v H p (TupLe.refl H) rh r
/-- a new object -/
theorem Fin2.new {G : Pg} {P : KD} {H : Hp} {Q : VK} {h : DH} {o : MO} {u : HO} (f : Fin2 G P H Q) (rh : RH G H h) (p : ∀ a, h a = none → P (.ref a) (up h a o)) (ho : ∀ a, H a = none → OR G (L2.upd H a u) a o) :
    ∀ a, H a = none → Q (.ref a) (L2.upd H a u) := fun a ha =>
  f _ _ _ _ (p a (rh.fresh ha)) (TupLe.new ha) (rh.upd (fun z e => by rw [ha] at e; cases e) (ho a ha)) rep_ref
/-- a new tuple -/
theorem Fin2.newT {G : Pg} {P : KD} {H : Hp} {Q : VK} {h : DH} {ds : List D} {vs : List V} (f : Fin2 G P H Q) (rh : RH G H h) (p : P (.tup ds) h) (rs : Reps G.K H ds vs) :
    ∀ a, H a = none → Q (.ref a) (L2.upd H a (.tup vs)) := fun a ha =>
  f _ _ _ _ p (TupLe.new ha) (rh.more ha) (rep_tup upd_same (Reps.keep (TupLe.new ha) _ _ rs))
theorem OR.lst {G : Pg} {H : Hp} {a : Addr} {xs : List D} {vs : List V} (ha : H a = none) (r : Reps G.K H xs vs) : OR G (L2.upd H a (.lst vs)) a (.lst xs) := ⟨vs, upd_same, Reps.keep (TupLe.new ha) _ _ r⟩
theorem RH.lst {G : Pg} {H : Hp} {h : DH} {a : Addr} {xs : List D} (r : RH G H h) (e : h a = some (.lst xs)) : ∃ vs, H a = some (.lst vs) ∧ Reps G.K H xs vs := r a _ e
/-- what a list or a tuple holds -/
def seqOf (h : DH) : D → Option (List D)
  | .tup ds => some ds
  | .ktup ds => some ds
  | .rol ds => some ds
  | .ref a => match h a with
    | some (.lst xs) => some xs
    | _ => none
  | _ => none
/-- a list's -/
def lstOf (h : DH) : D → Option (List D)
  | .rol ds => some ds
  | .ref a => match h a with
    | some (.lst xs) => some xs
    | _ => none
  | _ => none
theorem lstOf_ok {G : Pg} {H : Hp} {h : DH} {d : D} {v : V} {xs : List D} (rh : RH G H h) (r : Rep G.K H d v) (e : lstOf h d = some xs) : ∃ a vs, v = .ref a ∧ SqL G.K H a vs ∧ Reps G.K H xs vs := by
  cases d with
  | rol ds =>
    obtain ⟨a, vs, e1, e2, e3⟩ := r.rol_
    cases e
    exact ⟨a, vs, e1, e2.sq, e3⟩
  | ref a =>
    unfold lstOf at e
    cases z : h a with
    | none => simp [z] at e
    | some o =>
      cases o with
      | lst ys =>
        simp [z] at e
        subst e
        obtain ⟨vs, q, p⟩ := rh.lst z
        exact ⟨a, vs, r.ref_, .inl (.inl q), p⟩
      | _ => simp [z] at e
  | non => cases e
  | bl _ => cases e
  | int _ => cases e
  | str _ => cases e
  | tup _ => cases e
  | ktup _ => cases e
theorem seqOf_ok {G : Pg} {H : Hp} {h : DH} {d : D} {v : V} {xs : List D} (rh : RH G H h) (r : Rep G.K H d v) (e : seqOf h d = some xs) : ∃ a vs, v = .ref a ∧ (SqL G.K H a vs ∨ SqT G.K H a vs) ∧ Reps G.K H xs vs := by
  cases d with
  | tup ds =>
    obtain ⟨a, vs, e1, e2, e3⟩ := r.tup_
    cases e
    exact ⟨a, vs, e1, .inr e2, e3⟩
  | ktup ds =>
    obtain ⟨a, vs, e1, e2, e3⟩ := r.ktup_
    cases e
    exact ⟨a, vs, e1, .inr e2, e3⟩
  | rol ds =>
    obtain ⟨a, vs, e1, e2, e3⟩ := lstOf_ok (xs := xs) rh r e
    exact ⟨a, vs, e1, .inl e2, e3⟩
  | ref b =>
    obtain ⟨a, vs, e1, e2, e3⟩ := lstOf_ok (xs := xs) rh r e
    exact ⟨a, vs, e1, .inl e2, e3⟩
  | non => cases e
  | bl _ => cases e
  | int _ => cases e
  | str _ => cases e

/-! ### equality -/
def toPys (f : D → Option PyData) : List D → Option (List PyData)
  | [] => some []
  | d :: ds => match f d with
    | some x => (toPys f ds).map (x :: ·)
    | none => none
def toPy (h : DH) : Nat → D → Option PyData
  | _, .non => some .none
  | _, .bl b => some (.bool b)
  | _, .int i => some (.int i)
  | _, .str s => if PyData.strOk s = true then some (.str s) else none
  | 0, _ => none
  | n + 1, .tup ds => (toPys (toPy h n) ds).map .tuple
  | n + 1, .ktup ds => (toPys (toPy h n) ds).map .tuple
  | n + 1, .rol ds => (toPys (toPy h n) ds).map .list
  | n + 1, .ref a => match h a with
    | some (.lst ds) => (toPys (toPy h n) ds).map .list
    | _ => none
section
variable {G : Pg} {H : Hp} {h : DH}
theorem toPys_ok {f : D → Option PyData} (ih : ∀ d v x, Rep G.K H d v → f d = some x → Dp G.K H v x) : ∀ (ds : List D) (vs : List V) (xs : List PyData), Reps G.K H ds vs → toPys f ds = some xs → DpAll G.K H vs xs
  | [], vs, xs, r, e => by rw [r.nil_]; cases e; exact .nil
  | d :: ds, vs, xs, r, e => by
    obtain ⟨v, us, rfl, p, q⟩ := r.cons_
    unfold toPys at e
    cases z : f d with
    | none => simp [z] at e
    | some x =>
      simp only [z] at e
      obtain ⟨ys, e1, e2⟩ := Option.map_eq_some_iff.mp e
      subst e2
      exact .cons (ih d v x p z) (toPys_ok ih ds us ys q e1)
theorem toPy_ok (rh : RH G H h) : ∀ (n : Nat) (d : D) (v : V) (x : PyData), Rep G.K H d v → toPy h n d = some x → Dp G.K H v x
  | n, .non, v, x, r, e => by rw [r.non_]; cases n <;> (cases e; exact .non)
  | n, .bl b, v, x, r, e => by rw [r.bl_]; cases n <;> (cases e; exact .bl b)
  | n, .int b, v, x, r, e => by rw [r.int_]; cases n <;> (cases e; exact .int b)
  | n, .str b, v, x, r, e => by
    rw [r.str_]
    have e' : (if PyData.strOk b = true then some (PyData.str b) else none) = some x := by cases n <;> exact e
    split at e'
    · cases e'; exact .str b
    · cases e'
  | 0, .tup _, v, x, r, e => by cases e
  | 0, .ktup _, v, x, r, e => by cases e
  | n + 1, .ktup ds, v, x, r, e => by
    obtain ⟨a, vs, rfl, q, p⟩ := r.ktup_
    obtain ⟨ys, e1, rfl⟩ := Option.map_eq_some_iff.mp e
    exact .tup q (toPys_ok (toPy_ok rh n) ds vs ys p e1)
  | 0, .rol _, v, x, r, e => by cases e
  | 0, .ref _, v, x, r, e => by cases e
  | n + 1, .tup ds, v, x, r, e => by
    obtain ⟨a, vs, rfl, q, p⟩ := r.tup_
    obtain ⟨ys, e1, rfl⟩ := Option.map_eq_some_iff.mp e
    exact .tup q (toPys_ok (toPy_ok rh n) ds vs ys p e1)
  | n + 1, .rol ds, v, x, r, e => by
    obtain ⟨a, vs, rfl, q, p⟩ := r.rol_
    obtain ⟨ys, e1, rfl⟩ := Option.map_eq_some_iff.mp e
    exact .lst q.sq (toPys_ok (toPy_ok rh n) ds vs ys p e1)
  | n + 1, .ref a, v, x, r, e => by
    rw [r.ref_]
    unfold toPy at e
    cases z : h a with
    | none => simp [z] at e
    | some o =>
      cases o with
      | lst ds =>
        simp only [z] at e
        obtain ⟨ys, e1, rfl⟩ := Option.map_eq_some_iff.mp e
        obtain ⟨vs, q, p⟩ := rh.lst z
        exact .lst (.inl (.inl q)) (toPys_ok (toPy_ok rh n) ds vs ys p e1)
      | _ => simp [z] at e
end
theorem toPys_shaped {f : D → Option PyData} {n : Nat} (ih : ∀ d x, f d = some x → x.canLay0 = true ∧ x.depth ≤ n) : ∀ (ds : List D) (xs : List PyData), toPys f ds = some xs → PyData.canLayAll0 xs = true ∧ PyData.depthAll xs ≤ n
  | [], xs, e => by cases e; exact ⟨by simp [PyData.canLayAll0], by simp [PyData.depthAll]⟩
  | d :: ds, xs, e => by
    unfold toPys at e
    cases z : f d with
    | none => simp [z] at e
    | some x =>
      simp only [z] at e
      obtain ⟨ys, e1, rfl⟩ := Option.map_eq_some_iff.mp e
      obtain ⟨a1, a2⟩ := ih d x z
      obtain ⟨b1, b2⟩ := toPys_shaped ih ds ys e1
      exact ⟨by simp [PyData.canLayAll0, a1, b1], by simp only [PyData.depthAll]; omega⟩
theorem toPy_shape (h : DH) : ∀ (n : Nat) (d : D) (x : PyData), toPy h n d = some x → x.canLay0 = true ∧ x.depth ≤ n
  | n, .non, x, e => by cases n <;> (cases e; exact ⟨by simp [PyData.canLay0], by simp [PyData.depth]⟩)
  | n, .bl b, x, e => by cases n <;> (cases e; exact ⟨by simp [PyData.canLay0], by simp [PyData.depth]⟩)
  | n, .int b, x, e => by cases n <;> (cases e; exact ⟨by simp [PyData.canLay0], by simp [PyData.depth]⟩)
  | n, .str b, x, e => by
    have e' : (if PyData.strOk b = true then some (PyData.str b) else none) = some x := by cases n <;> exact e
    split at e'
    · rename_i z
      cases e'; exact ⟨by simp [PyData.canLay0, z], by simp [PyData.depth]⟩
    · cases e'
  | 0, .tup _, x, e => by cases e
  | 0, .ktup _, x, e => by cases e
  | n + 1, .ktup ds, x, e => by
    obtain ⟨ys, e1, rfl⟩ := Option.map_eq_some_iff.mp e
    obtain ⟨b1, b2⟩ := toPys_shaped (toPy_shape h n) ds ys e1
    exact ⟨by simp [PyData.canLay0, b1], by simp only [PyData.depth]; omega⟩
  | 0, .rol _, x, e => by cases e
  | 0, .ref _, x, e => by cases e
  | n + 1, .tup ds, x, e => by
    obtain ⟨ys, e1, rfl⟩ := Option.map_eq_some_iff.mp e
    obtain ⟨b1, b2⟩ := toPys_shaped (toPy_shape h n) ds ys e1
    exact ⟨by simp [PyData.canLay0, b1], by simp only [PyData.depth]; omega⟩
  | n + 1, .rol ds, x, e => by
    obtain ⟨ys, e1, rfl⟩ := Option.map_eq_some_iff.mp e
    obtain ⟨b1, b2⟩ := toPys_shaped (toPy_shape h n) ds ys e1
    exact ⟨by simp [PyData.canLay0, b1], by simp only [PyData.depth]; omega⟩
  | n + 1, .ref a, x, e => by
    unfold toPy at e
    cases z : h a with
    | none => simp [z] at e
    | some o =>
      cases o with
      | lst ds =>
        simp only [z] at e
        obtain ⟨ys, e1, rfl⟩ := Option.map_eq_some_iff.mp e
        obtain ⟨b1, b2⟩ := toPys_shaped (toPy_shape h n) ds ys e1
        exact ⟨by simp [PyData.canLay0, b1], by simp only [PyData.depth]; omega⟩
      | _ => simp [z] at e
theorem toPy_shaped {h : DH} {n : Nat} {d : D} {x : PyData} (hn : n ≤ 64) (e : toPy h n d = some x) : SeqAt.shaped x = true := by
  obtain ⟨a, b⟩ := toPy_shape h n d x e
  show (x.canLay0 && decide (x.depth ≤ 64)) = true
  rw [a, decide_eq_true (by omega)]; rfl
theorem toPys_shapedL {h : DH} {n : Nat} {ds : List D} {xs : List PyData} (hn : n < 64) (e : toPys (toPy h n) ds = some xs) : SeqAt.shaped (.list xs) = true := by
  obtain ⟨a, b⟩ := toPys_shaped (toPy_shape h n) ds xs e
  show (PyData.canLay0 (.list xs) && decide (PyData.depth (.list xs) ≤ 64)) = true
  rw [show PyData.canLay0 (.list xs) = PyData.canLayAll0 xs by simp [PyData.canLay0], a, decide_eq_true (by simp only [PyData.depth]; omega)]; rfl
theorem toPys_shapedT {h : DH} {n : Nat} {ds : List D} {xs : List PyData} (hn : n < 64) (e : toPys (toPy h n) ds = some xs) : SeqAt.shaped (.tuple xs) = true := by
  obtain ⟨a, b⟩ := toPys_shaped (toPy_shape h n) ds xs e
  show (PyData.canLay0 (.tuple xs) && decide (PyData.depth (.tuple xs) ≤ 64)) = true
  rw [show PyData.canLay0 (.tuple xs) = PyData.canLayAll0 xs by simp [PyData.canLay0], a, decide_eq_true (by simp only [PyData.depth]; omega)]; rfl
/-- does x equal y: data of lists, tuples, numbers, texts, truth values, None -/
def eqD (h : DH) (x y : D) : Option Bool := match toPy h 20 x, toPy h 20 y with
  | some a, some b => some (PyData.eqv a b)
  | _, _ => none
def doEq : DO := fun x y h P => match x, y with
  | .int i, .int j => P (.bl (decide (i = j))) h
  | .str i, .str j => P (.bl (decide (i = j))) h
  | _, _ => ∃ b, eqD h x y = some b ∧ P (.bl b) h
def doNe : DO := fun x y h P => match x, y with
  | .int i, .int j => P (.bl (!decide (i = j))) h
  | .str i, .str j => P (.bl (!decide (i = j))) h
  | _, _ => ∃ b, eqD h x y = some b ∧ P (.bl (!b)) h
def rEqA (K : PySem.W.Frag) : R2 := fun x y H Q => rEq x y H Q ∨ rEqD K x y H Q
def rNeA (K : PySem.W.Frag) : R2 := fun x y H Q => rNe x y H Q ∨ rNeD K x y H Q
theorem op_eqA {X : Cx} (hu : X.A.units + 64 < cLine) : OpR X (compareOp .Eq) (rEqA X.K) := op_eq.or (op_eqD hu)
theorem op_neA {X : Cx} (hu : X.A.units + 64 < cLine) : OpR X (compareOp .NotEq) (rNeA X.K) := op_ne.or (op_neD hu)
theorem eqD_ok {G : Pg} {H : Hp} {h : DH} {x y : D} {v u : V} {b : Bool} (rh : RH G H h) (rx : Rep G.K H x v) (ry : Rep G.K H y u) (e : eqD h x y = some b) :
    ∃ d e, Dp G.K H v d ∧ Dp G.K H u e ∧ SeqAt.shaped d = true ∧ SeqAt.shaped e = true ∧ b = PyData.eqv d e := by
  unfold eqD at e
  cases zx : toPy h 20 x with
  | none => simp [zx] at e
  | some a =>
    cases zy : toPy h 20 y with
    | none => simp [zx, zy] at e
    | some c =>
      simp only [zx, zy] at e
      cases e
      exact ⟨a, c, toPy_ok rh 20 x v a rx zx, toPy_ok rh 20 y u c ry zy, toPy_shaped (by decide) zx, toPy_shaped (by decide) zy, rfl⟩
theorem dec_vint {i j : Int} : decide (V.int i = V.int j) = decide (i = j) := decide_eq_decide.mpr ⟨fun e => V.int.inj e, fun e => by rw [e]⟩
theorem dec_vstr {i j : Str} : decide (V.str i = V.str j) = decide (i = j) := decide_eq_decide.mpr ⟨fun e => V.str.inj e, fun e => by rw [e]⟩
theorem od_eq {G : Pg} : OpD G doEq (rEqA G.K) := fun H h x y v u P Q rh rx ry p f => by
  have main : (∃ b, eqD h x y = some b ∧ P (.bl b) h) → rEqA G.K v u H Q := fun ⟨b, e, p⟩ => by
    obtain ⟨d, c, h1, h2, h3, h4, rfl⟩ := eqD_ok rh rx ry e
    exact .inr ⟨d, c, h1, h2, h3, h4, f.val rh p rep_bl⟩
  unfold doEq at p
  split at p
  · rw [rx.int_, ry.int_]
    exact .inl ⟨rfl, by rw [dec_vint]; exact f.val rh p rep_bl⟩
  · rw [rx.str_, ry.str_]
    exact .inl ⟨rfl, by rw [dec_vstr]; exact f.val rh p rep_bl⟩
  · exact main p
theorem od_ne {G : Pg} : OpD G doNe (rNeA G.K) := fun H h x y v u P Q rh rx ry p f => by
  have main : (∃ b, eqD h x y = some b ∧ P (.bl (!b)) h) → rNeA G.K v u H Q := fun ⟨b, e, p⟩ => by
    obtain ⟨d, c, h1, h2, h3, h4, rfl⟩ := eqD_ok rh rx ry e
    exact .inr ⟨d, c, h1, h2, h3, h4, f.val rh p rep_bl⟩
  unfold doNe at p
  split at p
  · rw [rx.int_, ry.int_]
    exact .inl ⟨rfl, by rw [dec_vint]; exact f.val rh p rep_bl⟩
  · rw [rx.str_, ry.str_]
    exact .inl ⟨rfl, by rw [dec_vstr]; exact f.val rh p rep_bl⟩
  · exact main p

/-! ### numbers -/
def twoI (x y : D) (k : Int → Int → Prop) : Prop := match x, y with
  | .int i, .int j => k i j
  | _, _ => False
theorem twoI_ok {G : Pg} {H : Hp} {x y : D} {v u : V} {k : Int → Int → Prop} (rx : Rep G.K H x v) (ry : Rep G.K H y u) (h : twoI x y k) : ∃ i j, v = .int i ∧ u = .int j ∧ k i j := by
  cases x <;> cases y <;> first | exact h.elim | exact ⟨_, _, rx.int_, ry.int_, h⟩
def doI (g : Int → Int → D) : DO := fun x y h P => twoI x y fun i j => P (g i j) h
def doIC (C : Int → Int → Prop) (g : Int → Int → D) : DO := fun x y h P => twoI x y fun i j => C i j ∧ P (g i j) h
theorem od_I {G : Pg} {g : Int → Int → D} {gv : Int → Int → V} (r : ∀ H i j, Rep G.K H (g i j) (gv i j)) : OpD G (doI g) (rI0 gv) := fun H h x y v u P Q rh rx ry p f => by
  obtain ⟨i, j, e1, e2, q⟩ := twoI_ok rx ry p
  exact ⟨i, j, e1, e2, f.val rh q (r H i j)⟩
theorem od_IC {G : Pg} {C : Int → Int → Prop} {g : Int → Int → D} {gv : Int → Int → V} (r : ∀ H i j, Rep G.K H (g i j) (gv i j)) : OpD G (doIC C g) (rI C gv) := fun H h x y v u P Q rh rx ry p f => by
  obtain ⟨i, j, e1, e2, c, q⟩ := twoI_ok rx ry p
  exact ⟨i, j, e1, e2, c, f.val rh q (r H i j)⟩
/-- an alternative -/
theorem OpD.or {G : Pg} {f g : DO} {r r' : R2} (a : OpD G f r) (b : OpD G g r') : OpD G (fun x y h P => f x y h P ∨ g x y h P) (fun x y H Q => r x y H Q ∨ r' x y H Q) := fun H h x y v u P Q rh rx ry p q =>
  p.elim (fun z => .inl (a H h x y v u P Q rh rx ry z q)) fun z => .inr (b H h x y v u P Q rh rx ry z q)
theorem OpD.of {G : Pg} {f g : DO} {r : R2} (a : OpD G f r) (i : ∀ x y h P, g x y h P → f x y h P) : OpD G g r := fun H h x y v u P Q rh rx ry p q => a H h x y v u P Q rh rx ry (i _ _ _ _ p) q

/-! ### + -/
def doCatT : DO := fun x y h P => match x, y with
  | .tup xs, .tup ys => xs.length + ys.length ≤ sizeLine ∧ P (.tup (xs ++ ys)) h
  | _, _ => False
def doCatL : DO := fun x y h P => match x, y with
  | .ref a, .ref b => match h a, h b with
    | some (.lst xs), some (.lst ys) => xs.length + ys.length ≤ sizeLine ∧ ∀ p, h p = none → P (.ref p) (up h p (.lst (xs ++ ys)))
    | _, _ => False
  | _, _ => False
def doCatS : DO := fun x y h P => match x, y with
  | .str s, .str t => s.length + t.length ≤ sizeLine ∧ P (.str (s ++ t)) h
  | _, _ => False
theorem od_catS {G : Pg} : OpD G doCatS (fun x y H Q => ∃ i j, x = .str i ∧ y = .str j ∧ i.length + j.length ≤ sizeLine ∧ Q (.str (i ++ j)) H) := fun H h x y v u P Q rh rx ry p f => by
  cases x <;> cases y <;> first | exact p.elim | exact ⟨_, _, rx.str_, ry.str_, p.1, f.val rh p.2 rep_str⟩
theorem od_catL {G : Pg} : OpD G doCatL rCat := fun H h x y v u P Q rh rx ry p f => by
  cases x <;> cases y <;> first | exact p.elim | skip
  rename_i a b
  unfold doCatL at p
  simp only at p
  split at p
  · rename_i xs ys ea eb
    obtain ⟨vs, q1, r1⟩ := rh.lst ea
    obtain ⟨us, q2, r2⟩ := rh.lst eb
    refine ⟨a, b, vs, us, rx.ref_, ry.ref_, q1, q2, by rw [r1.length, r2.length]; exact p.1, f.new rh p.2 fun c hc => OR.lst hc (r1.append r2)⟩
  · exact p.elim
theorem od_catT {G : Pg} : OpD G doCatT (rCatA G.K) := fun H h x y v u P Q rh rx ry p f => by
  cases x <;> cases y <;> first | exact p.elim | skip
  rename_i xs ys
  obtain ⟨a, vs, rfl, q1, r1⟩ := rx.tup_
  obtain ⟨b, us, rfl, q2, r2⟩ := ry.tup_
  refine ⟨a, b, vs, us, rfl, rfl, q1, q2, by rw [r1.length, r2.length]; exact p.1, fun e => ?_, fun _ e => ?_, fun _ _ c hc => f.newT rh p.2 (r1.append r2) c hc⟩
  · have z : xs = [] := by
      have l := r1.length
      rw [e] at l
      exact List.eq_nil_of_length_eq_zero l.symm
    exact f.val rh p.2 (by rw [z]; exact ry)
  · have z : ys = [] := by
      have l := r2.length
      rw [e] at l
      exact List.eq_nil_of_length_eq_zero l.symm
    exact f.val rh p.2 (by rw [z, List.append_nil]; exact rx)
def doAdd : DO := fun x y h P => match x, y with
  | .int i, .int j => P (.int (i + j)) h
  | .tup _, .tup _ => doCatT x y h P
  | .ref _, .ref _ => doCatL x y h P
  | .str _, .str _ => doCatS x y h P
  | _, _ => False
def rAddA (K : PySem.W.Frag) : R2 := fun x y H Q => ((rI0 fun i j => .int (i + j)) x y H Q ∨ rCatA K x y H Q) ∨ (rCat x y H Q ∨ ∃ i j, x = .str i ∧ y = .str j ∧ i.length + j.length ≤ sizeLine ∧ Q (.str (i ++ j)) H)
theorem op_addA {X : Cx} : OpR X (binaryOp .Add) (rAddA X.K) := (op_add.or op_catA).or (op_cat.or op_add_str)
theorem od_add {G : Pg} : OpD G doAdd (rAddA G.K) := fun H h x y v u P Q rh rx ry p f => by
  cases x <;> cases y <;> first
    | exact p.elim
    | exact .inl (.inl ⟨_, _, rx.int_, ry.int_, f.val rh p rep_int⟩)
    | exact .inl (.inr (od_catT H h _ _ v u P Q rh rx ry p f))
    | exact .inr (.inl (od_catL H h _ _ v u P Q rh rx ry p f))
    | exact .inr (.inr (od_catS H h _ _ v u P Q rh rx ry p f))
def doSub : DO := doI fun i j => .int (i - j)
theorem od_sub {G : Pg} : OpD G doSub (rI0 fun i j => .int (i - j)) := od_I fun _ _ _ => rep_int
/-- what a product asks: one side below 2 ^ 64, or both below a million bits together -/
def MulOk (i j : Int) : Prop := CMul i j ∨ CMulW i j
def doRepL : DO := fun x y h P => match x, y with
  | .ref a, .int k => match h a with
    | some (.lst xs) => -(2 ^ 63) ≤ k ∧ k < 2 ^ 63 ∧ xs.length * k.toNat ≤ sizeLine ∧ ∀ p, h p = none → P (.ref p) (up h p (.lst (List.replicate k.toNat xs).flatten))
    | _ => False
  | _, _ => False
def doMul : DO := fun x y h P => match x, y with
  | .int i, .int j => MulOk i j ∧ P (.int (i * j)) h
  | .int i, .bl b => P (.int (i * if b = true then 1 else 0)) h
  | .ref _, .int _ => doRepL x y h P
  | _, _ => False
def rMulB : R2 := fun x y H Q => ∃ i b, x = .int i ∧ y = .bl b ∧ Q (.int (i * if b = true then 1 else 0)) H
theorem op_mulB {X : Cx} : OpR X (binaryOp .Mult) rMulB := by
  rintro pins s σ H x y v u Q I rx ry ⟨i, b, rfl, rfl, q⟩
  obtain ⟨t, rfl⟩ := (show ∃ t, v = Value.int i t from rx)
  obtain rfl := (show u = Value.bool b from ry)
  exact IntBool.mul_int_bool ⟨.int _, H, I.tok _, ⟨_, rfl⟩, q⟩
def rMulA : R2 := fun x y H Q => ((rI CMul (fun i j => .int (i * j)) x y H Q ∨ rI CMulW (fun i j => .int (i * j)) x y H Q) ∨ rRep x y H Q) ∨ rMulB x y H Q
theorem op_mulA {X : Cx} : OpR X (binaryOp .Mult) rMulA := ((op_mul.or op_mulW).or op_rep).or op_mulB
theorem Reps.rep {K : PySem.W.Frag} {H : Hp} {ds : List D} {vs : List V} (h : Reps K H ds vs) : ∀ k : Nat, Reps K H (List.replicate k ds).flatten (List.replicate k vs).flatten
  | 0 => by simp only [List.replicate_zero, List.flatten_nil]; exact reps_nil
  | k + 1 => by simp only [List.replicate_succ, List.flatten_cons]; exact h.append (Reps.rep h k)
theorem od_mul {G : Pg} : OpD G doMul rMulA := fun H h x y v u P Q rh rx ry p f => by
  cases x <;> cases y <;> first | exact p.elim | skip
  · exact .inr ⟨_, _, rx.int_, ry.bl_, f.val rh p rep_int⟩
  · obtain ⟨c, q⟩ := p
    rcases c with c | c
    · exact .inl (.inl (.inl ⟨_, _, rx.int_, ry.int_, c, f.val rh q rep_int⟩))
    · exact .inl (.inl (.inr ⟨_, _, rx.int_, ry.int_, c, f.val rh q rep_int⟩))
  · rename_i a k
    unfold doMul doRepL at p
    simp only at p
    split at p
    · rename_i xs ea
      obtain ⟨vs, q1, r1⟩ := rh.lst ea
      obtain ⟨h1, h2, h3, h4⟩ := p
      exact .inl (.inr ⟨a, k, vs, rx.ref_, ry.int_, q1, h1, h2, by rw [r1.length]; exact h3, f.new rh h4 fun c hc => OR.lst hc (r1.rep _)⟩)
    · exact p.elim
def doDiv : DO := doIC CDivW fun i j => .int (i / j)
theorem od_div {G : Pg} : OpD G doDiv (rI CDivW fun i j => .int (i / j)) := od_IC fun _ _ _ => rep_int
def doMod : DO := doIC (fun _ j => 0 < j) fun i j => .int (i % j)
theorem od_mod {G : Pg} : OpD G doMod (rI (fun _ j => 0 < j) fun i j => .int (i % j)) := od_IC fun _ _ _ => rep_int
def doPow : DO := doIC CPow fun i j => .int (i ^ j.toNat)
theorem od_pow {G : Pg} : OpD G doPow (rI CPow fun i j => .int (i ^ j.toNat)) := od_IC fun _ _ _ => rep_int
/-- (i, a) < (j, b): ints, truth values -/
def ltIB (i : Int) (a : Bool) (j : Int) (b : Bool) : Bool := if i = j then (!a && b) else decide (i < j)
def rLtIB (K : PySem.W.Frag) : R2 := fun x y H Q => ∃ a b i j p q, x = .ref a ∧ y = .ref b ∧ SqT K H a [.int i, .bl p] ∧ SqT K H b [.int j, .bl q] ∧ Q (.bl (ltIB i p j q)) H
theorem op_ltIB {X : Cx} (hu : X.A.units < cLine) : OpR X (compareOp .Lt) (rLtIB X.K) := by
  intro pins s σ H x y v u Q I rx ry h
  obtain ⟨a, b, i, j, p, q, rfl, rfl, ha, hb, z⟩ := h
  cases rx
  cases ry
  obtain ⟨its, r1, p1, _⟩ := I.tuple ha
  obtain ⟨its2, r2, p2, _⟩ := I.tuple hb
  obtain ⟨v1, v2, e1, r3, r4⟩ := vals2 r1
  obtain ⟨u1, u2, e2, r5, r6⟩ := vals2 r2
  subst e1 e2
  obtain ⟨t1, rfl⟩ := r3
  obtain ⟨t2, rfl⟩ := r5
  cases r4
  cases r6
  have go := Ob.RcOp.tuples_lt (A := X.A) (s := s) (e := fun k => if k = 0 then i == j else p == q) (r := fun k => if k = 0 then decide (i < j) else decide (PyProof.Rows.b2i p < PyProof.Rows.b2i q)) p1 p2 hu
    (fun k h1 h2 => match k, h1, h2 with
      | 0, _, _ => SeqAt.EqAt.int_int _ _ _ _
      | 1, _, _ => SeqAt.EqAt.bool_bool _ _)
    (fun k h1 h2 _ => match k, h1, h2 with
      | 0, _, _ => Ob.RcOp.lt_int _ _ _ _
      | 1, _, _ => fun _ _ _ _ h => PyProof.Rows.lt_bool h)
  refine go X.prog X.w _ _ ⟨.bl (ltIB i p j q), H, I, ?_, z⟩
  show Value.bool _ = Value.bool _
  congr 1
  show Ob.lexAt _ _ (decide (2 < 2)) 0 2 = _
  unfold ltIB
  simp only [Ob.lexAt]
  by_cases e : i = j
  · subst e
    cases p <;> cases q <;> simp [PyProof.Rows.b2i]
  · simp [e]
def doLt : DO := fun x y h P => match x, y with
  | .int i, .int j => P (.bl (decide (i < j))) h
  | .tup [.int i, .bl a], .tup [.int j, .bl b] => P (.bl (ltIB i a j b)) h
  | _, _ => False
def doLe : DO := doI fun i j => .bl (decide (i ≤ j))
def doGt : DO := doI fun i j => .bl (decide (j < i))
def doGe : DO := doI fun i j => .bl (decide (j ≤ i))
theorem od_lt {G : Pg} : OpD G doLt (fun x y H Q => rI0 (fun i j => .bl (decide (i < j))) x y H Q ∨ rLtIB G.K x y H Q) := fun H h x y v u P Q rh rx ry p f => by
  unfold doLt at p
  split at p
  · exact .inl ⟨_, _, rx.int_, ry.int_, f.val rh p rep_bl⟩
  · obtain ⟨a, vs, rfl, h1, h2⟩ := rx.tup_
    obtain ⟨b, us, rfl, h3, h4⟩ := ry.tup_
    obtain ⟨v1, r1, rfl, q1, q2⟩ := h2.cons_
    obtain ⟨v2, r2, rfl, q3, q4⟩ := q2.cons_
    obtain ⟨w1, r3, rfl, q5, q6⟩ := h4.cons_
    obtain ⟨w2, r4, rfl, q7, q8⟩ := q6.cons_
    rw [q1.int_, q3.bl_, q4.nil_] at h1
    rw [q5.int_, q7.bl_, q8.nil_] at h3
    exact .inr ⟨a, b, _, _, _, _, rfl, rfl, h1, h3, f.val rh p rep_bl⟩
  · exact p.elim
theorem od_le {G : Pg} : OpD G doLe (rI0 fun i j => .bl (decide (i ≤ j))) := od_I fun _ _ _ => rep_bl
theorem od_gt {G : Pg} : OpD G doGt (rI0 fun i j => .bl (decide (j < i))) := od_I fun _ _ _ => rep_bl
theorem od_ge {G : Pg} : OpD G doGe (rI0 fun i j => .bl (decide (j ≤ i))) := od_I fun _ _ _ => rep_bl
/-! ### is: None, truth values -/
def D.isNon : D → Bool
  | .non => true
  | _ => false
def doIs : DO := fun x y h P => match x, y with
  | _, .non => P (.bl x.isNon) h
  | .bl a, .bl b => P (.bl (decide (a = b))) h
  | _, _ => False
def doIsNot : DO := fun x y h P => match x, y with
  | _, .non => P (.bl (!x.isNon)) h
  | .bl a, .bl b => P (.bl (!decide (a = b))) h
  | _, _ => False
def rIsA : R2 := fun x y H Q => (y = .non ∧ Q (.bl (decide (x = .non))) H) ∨ rIsB x y H Q
def rIsNotA : R2 := fun x y H Q => (y = .non ∧ Q (.bl (!decide (x = .non))) H) ∨ rNotB x y H Q
theorem op_isA {X : Cx} : OpR X (compareOp .Is) rIsA := op_isN.or op_isBl
theorem op_isNotA {X : Cx} : OpR X (compareOp .IsNot) rIsNotA := op_notN.or op_notBl
theorem isNon_ok {K : PySem.W.Frag} {H : Hp} {x : D} {v : V} (r : Rep K H x v) : x.isNon = decide (v = .non) := by
  cases x with
  | non => rw [r.non_]; rfl
  | bl b => rw [r.bl_]; rfl
  | int b => rw [r.int_]; rfl
  | str b => rw [r.str_]; rfl
  | ref b => rw [r.ref_]; rfl
  | tup ds => obtain ⟨a, vs, rfl, _⟩ := r.tup_; rfl
  | rol ds => obtain ⟨a, vs, rfl, _⟩ := r.rol_; rfl
  | ktup ds => obtain ⟨a, vs, rfl, _⟩ := r.ktup_; rfl
theorem od_is {G : Pg} : OpD G doIs rIsA := fun H h x y v u P Q rh rx ry p f => by
  cases y with
  | non =>
    have p' : P (.bl x.isNon) h := by cases x <;> exact p
    exact .inl ⟨ry.non_, by rw [← isNon_ok rx]; exact f.val rh p' rep_bl⟩
  | bl b =>
    cases x <;> first | exact p.elim | exact .inr ⟨_, _, rx.bl_, ry.bl_, f.val rh p rep_bl⟩
  | _ => cases x <;> exact p.elim
theorem od_isNot {G : Pg} : OpD G doIsNot rIsNotA := fun H h x y v u P Q rh rx ry p f => by
  cases y with
  | non =>
    have p' : P (.bl (!x.isNon)) h := by cases x <;> exact p
    exact .inl ⟨ry.non_, by rw [← isNon_ok rx]; exact f.val rh p' rep_bl⟩
  | bl b =>
    cases x <;> first | exact p.elim | exact .inr ⟨_, _, rx.bl_, ry.bl_, f.val rh p rep_bl⟩
  | _ => cases x <;> exact p.elim
/-! ### in -/
def D.flat : D → Bool
  | .non => true
  | .bl _ => true
  | .int _ => true
  | .str _ => true
  | _ => false
/-- == of flat values -/
def eqF : D → D → Bool
  | .non, .non => true
  | .bl a, .bl b => a == b
  | .bl a, .int b => (if a then 1 else 0) == b
  | .int a, .bl b => a == (if b then 1 else 0)
  | .int a, .int b => a == b
  | .str a, .str b => a == b
  | _, _ => false
theorem flat_ok {K : PySem.W.Frag} {H : Hp} {x : D} {v : V} (r : Rep K H x v) (f : x.flat = true) : flatV v = true := by
  cases x with
  | non => rw [r.non_]; rfl
  | bl b => rw [r.bl_]; rfl
  | int b => rw [r.int_]; rfl
  | str b => rw [r.str_]; rfl
  | _ => cases f
theorem eqF_ok {K : PySem.W.Frag} {H : Hp} {x y : D} {v u : V} (r : Rep K H x v) (r' : Rep K H y u) (f : x.flat = true) (f' : y.flat = true) : eqV v u = eqF x y := by
  cases x <;> cases y <;> first
    | (cases f; done)
    | (cases f'; done)
    | (simp only [Rep] at r r'; subst r r'; rfl)
theorem flats_ok {K : PySem.W.Frag} {H : Hp} : ∀ {ds : List D} {vs : List V}, Reps K H ds vs → ds.all D.flat = true → vs.all flatV = true
  | [], vs, r, f => by rw [r.nil_]; rfl
  | d :: ds, vs, r, f => by
    obtain ⟨v, us, rfl, p, q⟩ := r.cons_
    rw [List.all_cons, Bool.and_eq_true] at f ⊢
    exact ⟨flat_ok p f.1, flats_ok q f.2⟩
theorem inV_ok {K : PySem.W.Frag} {H : Hp} {x : D} {v : V} (rx : Rep K H x v) (fx : x.flat = true) : ∀ {ds : List D} {vs : List V}, Reps K H ds vs → ds.all D.flat = true → inV v vs = ds.any fun y => eqF y x
  | [], vs, r, f => by rw [r.nil_]; rfl
  | d :: ds, vs, r, f => by
    obtain ⟨w, us, rfl, p, q⟩ := r.cons_
    rw [List.all_cons, Bool.and_eq_true] at f
    have ih := inV_ok rx fx q f.2
    show (eqV w v || inV v us) = (eqF d x || ds.any fun y => eqF y x)
    rw [ih, eqF_ok p rx f.1 fx]
/-- is x in the sequence ds: all flat, or data of a list -/
def memL (h : DH) (x : D) (ds : List D) : Option Bool := match toPy h 19 x, toPys (toPy h 19) ds with
  | some d, some es => some (es.any fun z => PyData.eqv z d)
  | _, _ => none
def valD {κ : Type} [DecidableEq κ] (kvs : List (κ × D)) (k : κ) : Option D := (kvs.find? fun kv => decide (kv.1 = k)).map (·.2)
theorem RepF.val {κ : Type} [DecidableEq κ] {K : PySem.W.Frag} {H : Hp} : ∀ {kvs : List (κ × D)} {ws : List (κ × V)}, RepF K H kvs ws → ∀ k, (∀ d, valD kvs k = some d → ∃ v, valV ws k = some v ∧ Rep K H d v) ∧ (valD kvs k = none → valV ws k = none)
  | [], ws, r, k => by
    rw [show ws = [] from r]
    exact ⟨fun d e => (by cases e), fun _ => rfl⟩
  | (f, d) :: kvs, ws, r, k => by
    obtain ⟨v, us, rfl, p, q⟩ := r
    have ih := q.val k
    by_cases e : f = k
    · have e1 : valD ((f, d) :: kvs) k = some d := by simp [valD, List.find?_cons, e]
      have e2 : valV ((f, v) :: us) k = some v := by simp [valV, List.find?_cons, e]
      rw [e1, e2]
      exact ⟨fun d' z => (by cases z; exact ⟨v, rfl, p⟩), fun z => (by cases z)⟩
    · have e1 : valD ((f, d) :: kvs) k = valD kvs k := by simp [valD, List.find?_cons, e]
      have e2 : valV ((f, v) :: us) k = valV us k := by simp [valV, List.find?_cons, e]
      rw [e1, e2]
      exact ih
theorem RepF.valO {κ : Type} [DecidableEq κ] {K : PySem.W.Frag} {H : Hp} {kvs : List (κ × D)} {ws : List (κ × V)} (r : RepF K H kvs ws) (k : κ) : (valV ws k).isSome = (valD kvs k).isSome := by
  cases e : valD kvs k with
  | none => rw [(r.val k).2 e]; rfl
  | some d =>
    obtain ⟨v, p, _⟩ := (r.val k).1 d e
    rw [p]; rfl
def D.key? : D → Option Key
  | .int i => some (.inl i)
  | .str s => some (.inr s)
  | _ => none
def keys? : List D → Option (List Key)
  | [] => some []
  | d :: ds => match d.key? with
    | some k => (keys? ds).map (k :: ·)
    | none => none
def D.tkey? : D → Option (List Key)
  | .tup ds => keys? ds
  | _ => none
theorem key_ok {K : PySem.W.Frag} {H : Hp} {d : D} {v : V} {k : Key} (r : Rep K H d v) (e : d.key? = some k) : v = kV k := by
  cases d with
  | int i => cases e; exact r.int_
  | str i => cases e; exact r.str_
  | _ => cases e
theorem keys_ok {K : PySem.W.Frag} {H : Hp} : ∀ {ds : List D} {vs : List V} {ks : List Key}, Reps K H ds vs → keys? ds = some ks → vs = ks.map kV
  | [], vs, ks, r, e => by rw [r.nil_]; cases e; rfl
  | d :: ds, vs, ks, r, e => by
    obtain ⟨v, us, rfl, p, q⟩ := r.cons_
    unfold keys? at e
    cases z : d.key? with
    | none => simp [z] at e
    | some k =>
      simp only [z] at e
      obtain ⟨ys, e1, rfl⟩ := Option.map_eq_some_iff.mp e
      rw [key_ok p z, keys_ok q e1]; rfl
theorem tkey_ok {K : PySem.W.Frag} {H : Hp} {d : D} {v : V} {k : List Key} (r : Rep K H d v) (e : d.tkey? = some k) : ∃ b, v = .ref b ∧ H b = some (.tup (k.map kV)) := by
  cases d with
  | tup ds =>
    obtain ⟨a, vs, rfl, q, p⟩ := r.tupH
    exact ⟨a, rfl, by rw [q, keys_ok p e]⟩
  | _ => cases e
/-- a tuple as a key: of the module, or made -/
def D.xkey? : D → Option (Bool × List Key)
  | .tup ds => (keys? ds).map fun k => (false, k)
  | .ktup ds => (keys? ds).map fun k => (true, k)
  | _ => none
theorem xkey_ok {K : PySem.W.Frag} {H : Hp} {d : D} {v : V} {m : Bool} {k : List Key} (r : Rep K H d v) (e : d.xkey? = some (m, k)) : ∃ b, v = .ref b ∧ KeyX K H m b k := by
  cases d with
  | tup ds =>
    obtain ⟨a, vs, rfl, q, p⟩ := r.tupH
    obtain ⟨k', e1, e2⟩ := Option.map_eq_some_iff.mp (show (keys? ds).map (fun k => (false, k)) = some (m, k) from e)
    cases e2
    refine ⟨a, rfl, ?_⟩
    unfold KeyX
    rw [if_neg Bool.false_ne_true, q, keys_ok p e1]
  | ktup ds =>
    unfold Rep at r
    obtain ⟨a, vs, rfl, q, p⟩ := r
    obtain ⟨k', e1, e2⟩ := Option.map_eq_some_iff.mp (show (keys? ds).map (fun k => (true, k)) = some (m, k) from e)
    cases e2
    refine ⟨a, rfl, ?_⟩
    unfold KeyX
    rw [if_pos rfl, ← keys_ok p e1]
    exact q
  | _ => cases e
/-- what a dict has at a key -/
def dGet (h : DH) (a : Addr) (x : D) (k : Option D → Prop) : Prop := match h a with
  | some (.dK kvs) => ∃ key, x.key? = some key ∧ k (valD kvs key)
  | some (.dT kvs) => ∃ key, x.tkey? = some key ∧ k (valD kvs key)
  | some (.fK kvs _ _) => ∃ key, x.key? = some key ∧ k (valD kvs key)
  | some (.fT kvs _ _) => ∃ key, x.tkey? = some key ∧ k (valD kvs key)
  | some (.dX kvs) => ∃ m key, x.xkey? = some (m, key) ∧ k (valX kvs key)
  | _ => False
theorem dGet_ok {G : Pg} {H : Hp} {h : DH} {a : Addr} {x : D} {u : V} {k : Option D → Prop} (rh : RH G H h) (rx : Rep G.K H x u) (p : dGet h a x k) :
    ∃ o ov, DGetW G.P G.w G.K H a u ov ∧ k o ∧ (∀ d, o = some d → ∃ v, ov = some v ∧ Rep G.K H d v) ∧ (o = none → ov = none) := by
  unfold dGet at p
  split at p
  · rename_i kvs e
    obtain ⟨key, e1, q⟩ := p
    obtain ⟨ws, e2, r⟩ := rh _ _ e
    rw [key_ok rx e1]
    exact ⟨_, _, .inl (DGet.k e2), q, fun d z => (r.val key).1 d z, fun z => (r.val key).2 z⟩
  · rename_i kvs e
    obtain ⟨key, e1, q⟩ := p
    obtain ⟨ws, e2, r⟩ := rh _ _ e
    obtain ⟨b, rfl, eb⟩ := tkey_ok rx e1
    exact ⟨_, _, .inl (DGet.t e2 eb), q, fun d z => (r.val key).1 d z, fun z => (r.val key).2 z⟩
  · rename_i kvs o ws e
    obtain ⟨key, e1, q⟩ := p
    obtain ⟨e2, r⟩ := rh _ _ e
    rw [key_ok rx e1]
    exact ⟨_, _, .inl (.inl ⟨ws, key, .inr ⟨o, e2⟩, rfl, rfl⟩), q, fun d z => (r.val key).1 d z, fun z => (r.val key).2 z⟩
  · rename_i kvs o ws e
    obtain ⟨key, e1, q⟩ := p
    obtain ⟨e2, r⟩ := rh _ _ e
    obtain ⟨b, rfl, eb⟩ := tkey_ok rx e1
    exact ⟨_, _, .inl (.inr ⟨ws, key, b, .inr ⟨o, e2⟩, rfl, eb, rfl⟩), q, fun d z => (r.val key).1 d z, fun z => (r.val key).2 z⟩
  · rename_i kvs e
    obtain ⟨m, key, e1, q⟩ := p
    obtain ⟨xs, e2, r, _⟩ := rh _ _ e
    obtain ⟨b, rfl, eb⟩ := xkey_ok rx e1
    obtain ⟨v1, v2⟩ := r.val key
    cases ev : valX kvs key with
    | none =>
      rw [ev] at q
      exact ⟨none, none, .inr ⟨xs, key, b, e2, r.ksq, rfl, eb.sq, by rw [v2 ev]; exact True.intro⟩, q, (fun d z => by cases z), fun _ => rfl⟩
    | some d =>
      rw [ev] at q
      obtain ⟨v, q1, q2⟩ := v1 d ev
      exact ⟨some d, some v, .inr ⟨xs, key, b, e2, r.ksq, rfl, eb.sq, q1⟩, q, (fun d' z => by cases z; exact ⟨v, rfl, q2⟩), fun z => by cases z⟩
  · exact p.elim
def isDict (h : DH) (a : Addr) : Bool := match h a with
  | some (.dK _) => true
  | some (.dT _) => true
  | some (.fK _ _ _) => true
  | some (.fT _ _ _) => true
  | some (.dX _) => true
  | _ => false
def isTupD : D → Bool
  | .tup _ => true
  | .ktup _ => true
  | _ => false
def rInDT (K : PySem.W.Frag) (g : Bool → Bool) : R2 := fun x y H Q => ∃ d ds, Dp K H x d ∧ Dp K H y (.tuple ds) ∧ SeqAt.shaped d = true ∧ SeqAt.shaped (.tuple ds) = true ∧ Q (.bl (g (ds.any fun z => PyData.eqv z d))) H
theorem op_inDT {X : Cx} (hu : X.A.units + 65 < cLine) : OpR X (compareOp .In) (rInDT X.K id) := by
  intro pins s σ H x y v u Q I rx ry h
  obtain ⟨d, ds, hd, he, sd, se, q⟩ := h
  obtain ⟨as, r1⟩ := Dp.reads I d x v hd rx
  obtain ⟨bs, r2⟩ := Dp.reads I (.tuple ds) y u he ry
  exact SeqAt.in_tuple_reads r2 r1 (SeqAt.canLay_of_shaped se) (SeqAt.canLay_of_shaped sd) (PyProof.Rows.room_in_shaped sd hu) ⟨.bl _, H, I, rfl, q⟩
theorem op_notInDT {X : Cx} (hu : X.A.units + 65 < cLine) : OpR X (compareOp .NotIn) (rInDT X.K not) := by
  intro pins s σ H x y v u Q I rx ry h
  obtain ⟨d, ds, hd, he, sd, se, q⟩ := h
  obtain ⟨as, r1⟩ := Dp.reads I d x v hd rx
  obtain ⟨bs, r2⟩ := Dp.reads I (.tuple ds) y u he ry
  exact SeqAt.notIn_tuple_reads r2 r1 (SeqAt.canLay_of_shaped se) (SeqAt.canLay_of_shaped sd) (PyProof.Rows.room_in_shaped sd hu) ⟨.bl _, H, I, rfl, q⟩
def doInB (g : Bool → Bool) : DO := fun x y h P => match y with
  | .ref a => if isDict h a = true then dGet h a x fun o => P (.bl (g o.isSome)) h else (∃ ds b, lstOf h y = some ds ∧ memL h x ds = some b ∧ P (.bl (g b)) h) ∨ ∃ S n k, h a = some (.sK S n) ∧ x.key? = some k ∧ P (.bl (g (S k))) h
  | .rol ds => ∃ b, memL h x ds = some b ∧ P (.bl (g b)) h
  | .tup ds => (x.flat = true ∧ ds.all D.flat = true ∧ P (.bl (g (ds.any fun y => eqF y x))) h) ∨ (isTupD x = true ∧ ∃ b, memL h x ds = some b ∧ P (.bl (g b)) h)
  | .ktup ds => x.flat = true ∧ ds.all D.flat = true ∧ P (.bl (g (ds.any fun y => eqF y x))) h
  | _ => False
def doIn : DO := doInB id
def doNotIn : DO := doInB not
def rInA (K : PySem.W.Frag) (P : Program) (w : World) : R2 := fun x y H Q => ((rIn K false x y H Q ∨ rInD K x y H Q) ∨ ∃ a o, y = .ref a ∧ DGetW P w K H a x o ∧ Q (.bl o.isSome) H) ∨ (rSInK P w false x y H Q ∨ rInDT K id x y H Q)
def rNotInA (K : PySem.W.Frag) (P : Program) (w : World) : R2 := fun x y H Q => ((rIn K true x y H Q ∨ rNotInD K x y H Q) ∨ ∃ a o, y = .ref a ∧ DGetW P w K H a x o ∧ Q (.bl (!o.isSome)) H) ∨ (rSInK P w true x y H Q ∨ rInDT K not x y H Q)
theorem op_dIn {X : Cx} (hu : X.A.units + 1 < cLine) : OpR X (compareOp .In) (fun x y H Q => ∃ a o, y = .ref a ∧ DGetW X.prog X.w X.K H a x o ∧ Q (.bl o.isSome) H) := by
  intro pins s σ H x y v u Q I rx ry h
  obtain ⟨a, o, rfl, g, q⟩ := h
  cases ry
  exact dw_in hu I g rx fun s1 I1 => ⟨.bl _, H, I1, rfl, q⟩
theorem op_dNotIn {X : Cx} (hu : X.A.units + 1 < cLine) : OpR X (compareOp .NotIn) (fun x y H Q => ∃ a o, y = .ref a ∧ DGetW X.prog X.w X.K H a x o ∧ Q (.bl (!o.isSome)) H) := by
  intro pins s σ H x y v u Q I rx ry h
  obtain ⟨a, o, rfl, g, q⟩ := h
  cases ry
  exact dw_notIn hu I g rx fun s1 I1 => ⟨.bl _, H, I1, rfl, q⟩
theorem op_inA {X : Cx} (hu : X.A.units + 65 < cLine) : OpR X (compareOp .In) (rInA X.K X.prog X.w) := ((op_in_seq.or (op_inD hu)).or (op_dIn (by omega))).or (or_sinK.or (op_inDT hu))
theorem op_notInA {X : Cx} (hu : X.A.units + 65 < cLine) : OpR X (compareOp .NotIn) (rNotInA X.K X.prog X.w) := ((op_notIn_seq.or (op_notInD hu)).or (op_dNotIn (by omega))).or (or_snotinK.or (op_notInDT hu))
theorem memL_ok {G : Pg} {H : Hp} {h : DH} {x : D} {v : V} {a : Addr} {ds : List D} {us : List V} {b : Bool} (rh : RH G H h) (rx : Rep G.K H x v) (hq : SqL G.K H a us) (r : Reps G.K H ds us) (e : memL h x ds = some b) :
    ∃ d es, Dp G.K H v d ∧ Dp G.K H (.ref a) (.list es) ∧ SeqAt.shaped d = true ∧ SeqAt.shaped (.list es) = true ∧ b = es.any fun z => PyData.eqv z d := by
  unfold memL at e
  cases zx : toPy h 19 x with
  | none => simp [zx] at e
  | some d =>
    cases zy : toPys (toPy h 19) ds with
    | none => simp [zx, zy] at e
    | some es =>
      simp only [zx, zy] at e
      cases e
      exact ⟨d, es, toPy_ok rh 19 x v d rx zx, .lst hq (toPys_ok (toPy_ok rh 19) ds us es r zy), toPy_shaped (by decide) zx, toPys_shapedL (by decide) zy, rfl⟩
theorem memT_ok {G : Pg} {H : Hp} {h : DH} {x : D} {v : V} {a : Addr} {ds : List D} {us : List V} {b : Bool} (rh : RH G H h) (rx : Rep G.K H x v) (hq : SqT G.K H a us) (r : Reps G.K H ds us) (e : memL h x ds = some b) :
    ∃ d es, Dp G.K H v d ∧ Dp G.K H (.ref a) (.tuple es) ∧ SeqAt.shaped d = true ∧ SeqAt.shaped (.tuple es) = true ∧ b = es.any fun z => PyData.eqv z d := by
  unfold memL at e
  cases zx : toPy h 19 x with
  | none => simp [zx] at e
  | some d =>
    cases zy : toPys (toPy h 19) ds with
    | none => simp [zx, zy] at e
    | some es =>
      simp only [zx, zy] at e
      cases e
      exact ⟨d, es, toPy_ok rh 19 x v d rx zx, .tup hq (toPys_ok (toPy_ok rh 19) ds us es r zy), toPy_shaped (by decide) zx, toPys_shapedT (by decide) zy, rfl⟩
theorem od_in {G : Pg} : OpD G doIn (rInA G.K G.P G.w) := fun H h x y v u P Q rh rx ry p f => by
  have lst : ∀ ds b, lstOf h y = some ds → memL h x ds = some b → P (.bl b) h → rInA G.K G.P G.w v u H Q := fun ds b e1 e2 p => by
    obtain ⟨a, us, rfl, q, r⟩ := lstOf_ok rh ry e1
    obtain ⟨d, es, h1, h2, h3, h4, rfl⟩ := memL_ok rh rx q r e2
    exact .inl (.inl (.inr ⟨d, es, h1, h2, h3, h4, f.val rh p rep_bl⟩))
  have tpl : ∀ ds a us, u = .ref a → SqT G.K H a us → Reps G.K H ds us → x.flat = true → ds.all D.flat = true → P (.bl (ds.any fun y => eqF y x)) h → rInA G.K G.P G.w v u H Q := fun ds a us e q r fx fd p => by
    refine .inl (.inl (.inl ⟨a, us, e, .inr q, flat_ok rx fx, flats_ok r fd, ?_⟩))
    rw [if_neg Bool.false_ne_true, inV_ok rx fx r fd]
    exact f.val rh p rep_bl
  cases y with
  | ref a =>
    unfold doIn doInB at p
    simp only at p
    split at p
    · obtain ⟨o, ov, g, k, e1, e2⟩ := dGet_ok rh rx p
      refine .inl (.inr ⟨a, ov, ry.ref_, g, ?_⟩)
      have e : ov.isSome = o.isSome := by
        cases o with
        | none => rw [e2 rfl]; rfl
        | some d => obtain ⟨w, z, _⟩ := e1 d rfl; rw [z]; rfl
      rw [e]
      exact f.val rh k rep_bl
    · rcases p with ⟨ds, b, e1, e2, p⟩ | ⟨S, n, k, e1, e2, p⟩
      · exact lst ds b e1 e2 p
      · exact .inr (.inl ⟨k, a, S, n, key_ok rx e2, ry.ref_, rh _ _ e1, f.val rh p rep_bl⟩)
  | rol ds =>
    obtain ⟨b, e2, p⟩ := p
    exact lst ds b rfl e2 p
  | tup ds =>
    obtain ⟨a, us, e, q, r⟩ := ry.tup_
    rcases p with p | ⟨_, b, e2, p⟩
    · exact tpl ds a us e q r p.1 p.2.1 p.2.2
    · obtain ⟨d, es, h1, h2, h3, h4, rfl⟩ := memT_ok rh rx q r e2
      exact .inr (.inr ⟨d, es, h1, e ▸ h2, h3, h4, f.val rh p rep_bl⟩)
  | ktup ds =>
    obtain ⟨a, us, e, q, r⟩ := ry.ktup_
    exact tpl ds a us e q r p.1 p.2.1 p.2.2
  | _ => exact p.elim
theorem od_notIn {G : Pg} : OpD G doNotIn (rNotInA G.K G.P G.w) := fun H h x y v u P Q rh rx ry p f => by
  have lst : ∀ ds b, lstOf h y = some ds → memL h x ds = some b → P (.bl (!b)) h → rNotInA G.K G.P G.w v u H Q := fun ds b e1 e2 p => by
    obtain ⟨a, us, rfl, q, r⟩ := lstOf_ok rh ry e1
    obtain ⟨d, es, h1, h2, h3, h4, rfl⟩ := memL_ok rh rx q r e2
    exact .inl (.inl (.inr ⟨d, es, h1, h2, h3, h4, f.val rh p rep_bl⟩))
  have tpl : ∀ ds a us, u = .ref a → SqT G.K H a us → Reps G.K H ds us → x.flat = true → ds.all D.flat = true → P (.bl (!(ds.any fun y => eqF y x))) h → rNotInA G.K G.P G.w v u H Q := fun ds a us e q r fx fd p => by
    refine .inl (.inl (.inl ⟨a, us, e, .inr q, flat_ok rx fx, flats_ok r fd, ?_⟩))
    rw [if_pos rfl, inV_ok rx fx r fd]
    exact f.val rh p rep_bl
  cases y with
  | ref a =>
    unfold doNotIn doInB at p
    simp only at p
    split at p
    · obtain ⟨o, ov, g, k, e1, e2⟩ := dGet_ok rh rx p
      refine .inl (.inr ⟨a, ov, ry.ref_, g, ?_⟩)
      have e : ov.isSome = o.isSome := by
        cases o with
        | none => rw [e2 rfl]; rfl
        | some d => obtain ⟨w, z, _⟩ := e1 d rfl; rw [z]; rfl
      rw [e]
      exact f.val rh k rep_bl
    · rcases p with ⟨ds, b, e1, e2, p⟩ | ⟨S, n, k, e1, e2, p⟩
      · exact lst ds b e1 e2 p
      · exact .inr (.inl ⟨k, a, S, n, key_ok rx e2, ry.ref_, rh _ _ e1, f.val rh p rep_bl⟩)
  | rol ds =>
    obtain ⟨b, e2, p⟩ := p
    exact lst ds b rfl e2 p
  | tup ds =>
    obtain ⟨a, us, e, q, r⟩ := ry.tup_
    rcases p with p | ⟨_, b, e2, p⟩
    · exact tpl ds a us e q r p.1 p.2.1 p.2.2
    · obtain ⟨d, es, h1, h2, h3, h4, rfl⟩ := memT_ok rh rx q r e2
      exact .inr (.inr ⟨d, es, h1, e ▸ h2, h3, h4, f.val rh p rep_bl⟩)
  | ktup ds =>
    obtain ⟨a, us, e, q, r⟩ := ry.ktup_
    exact tpl ds a us e q r p.1 p.2.1 p.2.2
  | _ => exact p.elim
end DW

/-! DW, part 3: the readings of expressions. -/
namespace DW
open PySem L2

/-! ### the combinators -/
def lk : DSt → Nat → Option D
  | [], _ => none
  | x :: _, 0 => x
  | _ :: e, n + 1 => lk e n
theorem lk_eq : ∀ (e : DSt) (i : Nat) (d : D), lk e i = some d → e[i]? = some (some d)
  | [], _, _, h => by cases h
  | x :: _, 0, d, h => by
    have h' : x = some d := h
    subst h'; rfl
  | _ :: e, n + 1, d, h => by
    have := lk_eq e n d h
    simpa using this
def cVar (i : Nat) : DE := fun e h P _ => match lk e i with
  | some d => P d h
  | none => False
def cD (d : D) : DE := fun _ h P _ => P d h
def cBin (f : DO) (a b : DE) : DE := fun e h P R => a e h (fun x h1 => b e h1 (fun y h2 => f x y h2 P) R) R
/-- a op1 b op2 c -/
def cChain (f g : DO) (a b c : DE) : DE := fun e h P R => a e h (fun x h1 => b e h1 (fun y h2 => f x y h2 fun z h3 => match z with
  | .bl true => c e h3 (fun w h4 => g y w h4 P) R
  | .bl false => P (.bl false) h3
  | _ => False) R) R
def cChain3 (f g k : DO) (a b c d : DE) : DE := fun e h P R => a e h (fun x h1 => b e h1 (fun y h2 => f x y h2 fun z h3 => match z with
  | .bl true => c e h3 (fun u h4 => g y u h4 fun z' h5 => match z' with
    | .bl true => d e h5 (fun v h6 => k u v h6 P) R
    | .bl false => P (.bl false) h5
    | _ => False) R
  | .bl false => P (.bl false) h3
  | _ => False) R) R
def cNil : DA := fun _ h P _ => P [] h
def cCons (a : DE) (r : DA) : DA := fun e h P R => a e h (fun x h1 => r e h1 (fun xs h2 => P (x :: xs) h2) R) R
def cTup (t : DA) : DE := fun e h P R => t e h (fun xs h1 => xs.length ≤ sizeLine ∧ P (.tup xs) h1) R
def cLst (t : DA) : DE := fun e h P R => t e h (fun xs h1 => xs.length ≤ sizeLine ∧ ∀ p, h1 p = none → P (.ref p) (up h1 p (.lst xs))) R
/-! tests -/
def tRu (d : D) (h : DH) (k : Bool → Prop) : Prop := match d with
  | .non => k false
  | .bl b => k b
  | .int i => k (i != 0)
  | .str y => y.length ≤ sizeLine ∧ k ((y.length : Int) != 0)
  | .tup ds => k (!ds.isEmpty)
  | .ktup ds => k (!ds.isEmpty)
  | .rol ds => k (!ds.isEmpty)
  | .ref a => match h a with
    | some (.lst xs) => k (!xs.isEmpty)
    | some (.dK kvs) => k (!kvs.isEmpty)
    | _ => False
/-- a value's truth -/
def cTru (a : DE) : DT := fun e h P R => a e h (fun x h1 => tRu x h1 fun b => P b h1) R
/-- a value that is a truth value -/
def cTst (a : DE) : DT := fun e h P R => a e h (fun x h1 => match x with
  | .bl b => P b h1
  | _ => False) R
def cAnd (t u : DT) : DT := fun e h P R => t e h (fun b h1 => if b = true then u e h1 P R else P false h1) R
def cOr (t u : DT) : DT := fun e h P R => t e h (fun b h1 => if b = true then P true h1 else u e h1 P R) R
def cNot (t : DT) : DT := fun e h P R => t e h (fun b h1 => P (!b) h1) R
/-- as values: all but the last a truth value -/
def cAndV (a b : DE) : DE := fun e h P R => a e h (fun x h1 => match x with
  | .bl true => b e h1 P R
  | .bl false => P (.bl false) h1
  | _ => False) R
def cOrV (a b : DE) : DE := fun e h P R => a e h (fun x h1 => match x with
  | .bl false => b e h1 P R
  | .bl true => P (.bl true) h1
  | _ => False) R
def cNotV (a : DE) : DE := fun e h P R => a e h (fun x h1 => match x with
  | .bl b => P (.bl (!b)) h1
  | _ => False) R
def cIfE (t : DT) (a b : DE) : DE := fun e h P R => t e h (fun c h1 => if c = true then a e h1 P R else b e h1 P R) R
/-- one place: -i -/
def cNeg (a : DE) : DE := fun e h P R => a e h (fun x h1 => match x with
  | .int i => P (.int (-i)) h1
  | _ => False) R
/-- what cannot be read -/
def cBad : DE := fun _ _ _ _ => False
def cBadT : DT := fun _ _ _ _ => False
def cBadA : DA := fun _ _ _ _ => False

section
variable {X : Cx} {G : Pg} {W : WX} {a b c : Expr} {da db dc : DE} {dt du : DT} {pos : Pos}
theorem se_bad {e : Expr} : PE X e (LE G W cBad) := ⟨fun _ _ _ _ _ _ ⟨_, _, _, _, _, _, z, _⟩ => z.elim⟩
theorem st_bad {e : Expr} : PT X e (LT G W cBadT) := ⟨fun _ _ _ _ _ _ ⟨_, _, _, _, _, _, z, _⟩ => z.elim⟩
theorem sw_bad {e : Expr} : PW X e (LT G W cBadT) := ⟨fun _ _ _ _ _ _ _ ⟨_, _, _, _, _, _, z, _⟩ => z.elim⟩
theorem sa_bad {e : List Expr} : PA X e (LA G W cBadA) := ⟨fun _ _ _ _ _ _ _ ⟨_, _, _, _, _, _, z, _⟩ => z.elim⟩
theorem se_var {i : Nat} {x : Str} (hN : X.N[i]? = some x) (hv : Vis X.env.scope x) (hd : (x == ("__debug__" : Str)) = false) (hcd : (x == ("__classdict__" : Str)) = false) : PE X (.Name x pos) (LE G W (cVar i)) := by
  refine pe_imp (pe_var hN hv hd hcd) ?_
  rintro σ H Q ⟨e, h, P, R, re, rh, t, f, _⟩
  unfold cVar at t
  cases z : lk e i with
  | none => rw [z] at t; exact t.elim
  | some d =>
    rw [z] at t
    obtain ⟨v, p, q⟩ := re.2 i d (lk_eq _ _ _ z)
    exact ⟨v, p, f d h v H t (TupLe.refl H) rh q⟩
theorem se_val {e : Expr} {d : D} {v : V} (h : PE X e (tC v)) (r : ∀ H, Rep G.K H d v) : PE X e (LE G W (cD d)) := by
  refine pe_imp h ?_
  rintro σ H Q ⟨e, h, P, R, re, rh, t, f, _⟩
  exact f d h v H t (TupLe.refl H) rh (r H)
/-- what comes of a part, in LE's words -/
theorem LE.mk {t : DE} {σ : St} {H : Hp} {Q : VK} {e : DSt} {h : DH} {P : KD} {R : KX} (re : RE G.K H e σ) (rh : RH G H h) (ht : t e h P R) (x : LX G W σ H R)
    (f : ∀ d h' v H', P d h' → TupLe H H' → RH G H' h' → Rep G.K H' d v → RE G.K H' e σ → LX G W σ H' R → Q v H') : LE G W t σ H Q :=
  ⟨e, h, P, R, re, rh, ht, fun d h' v H' p tl rh' r => f d h' v H' p tl rh' r (re.keep tl) (x.later tl), x⟩
theorem LT.mk {t : DT} {σ : St} {H : Hp} {Q : Bool → Hp → Prop} {e : DSt} {h : DH} {P : Bool → DH → Prop} {R : KX} (re : RE G.K H e σ) (rh : RH G H h) (ht : t e h P R) (x : LX G W σ H R)
    (f : ∀ b h' H', P b h' → TupLe H H' → RH G H' h' → RE G.K H' e σ → LX G W σ H' R → Q b H') : LT G W t σ H Q :=
  ⟨e, h, P, R, re, rh, ht, fun d h' H' p tl rh' => f d h' H' p tl rh' (re.keep tl) (x.later tl), x⟩
theorem LA.mk {t : DA} {σ : St} {H : Hp} {Q : List V → Hp → Prop} {e : DSt} {h : DH} {P : List D → DH → Prop} {R : KX} (re : RE G.K H e σ) (rh : RH G H h) (ht : t e h P R) (x : LX G W σ H R)
    (f : ∀ ds h' vs H', P ds h' → TupLe H H' → RH G H' h' → Reps G.K H' ds vs → RE G.K H' e σ → LX G W σ H' R → Q vs H') : LA G W t σ H Q :=
  ⟨e, h, P, R, re, rh, ht, fun d h' v H' p tl rh' r => f d h' v H' p tl rh' r (re.keep tl) (x.later tl), x⟩
theorem se_bin {op : Operator} {f : DO} {r : R2} (ho : OpR X (binaryOp op) r) (od : OpD G f r) (ha : PE X a (LE G W da)) (hb : PE X b (LE G W db)) : PE X (.BinOp a op b pos) (LE G W (cBin f da db)) := by
  refine pe_imp (pe_op ho ha hb) ?_
  rintro σ H Q ⟨e, h, P, R, re, rh, t, fin, x⟩
  refine LE.mk re rh t x fun d h1 v H1 t1 tl1 rh1 r1 re1 x1 => ?_
  refine LE.mk re1 rh1 t1 x1 fun d2 h2 v2 H2 t2 tl2 rh2 r2 re2 x2 => ?_
  exact od H2 h2 d d2 v v2 P Q rh2 (Rep.keep tl2 d v r1) r2 t2 fun d' h' v' H' p tl => fin d' h' v' H' p (tl1.trans (tl2.trans tl))
theorem se_cmp {op : CmpOp} {f : DO} {r : R2} (ho : OpR X (compareOp op) r) (od : OpD G f r) (hm : behindInMarks op b = false) (ha : PE X a (LE G W da)) (hb : PE X b (LE G W db)) : PE X (.Compare a [op] [b] pos) (LE G W (cBin f da db)) := by
  refine pe_imp (pe_cmpR ho ha hb hm) ?_
  rintro σ H Q ⟨e, h, P, R, re, rh, t, fin, x⟩
  refine LE.mk re rh t x fun d h1 v H1 t1 tl1 rh1 r1 re1 x1 => ?_
  refine LE.mk re1 rh1 t1 x1 fun d2 h2 v2 H2 t2 tl2 rh2 r2 re2 x2 => ?_
  exact od H2 h2 d d2 v v2 P Q rh2 (Rep.keep tl2 d v r1) r2 t2 fun d' h' v' H' p tl => fin d' h' v' H' p (tl1.trans (tl2.trans tl))
/-- a truth value's test from the value's reading -/
theorem tst_of {te : TE} {t : DE} {σ : St} {H : Hp} {Q : Bool → Hp → Prop} (i : ∀ Q' : VK, LE G W t σ H Q' → te σ H Q') (l : LT G W (cTst t) σ H Q) : tTest te σ H Q := by
  obtain ⟨e, h, P, R, re, rh, ht, fin, x⟩ := l
  refine i _ (LE.mk re rh ht x fun d h1 v H1 t1 tl1 rh1 r1 re1 x1 => ?_)
  cases d with
  | bl k =>
    rw [r1.bl_]
    exact ⟨k, rfl, fin k h1 H1 t1 tl1 rh1⟩
  | _ => exact t1.elim
theorem le_bin {f : DO} {r : R2} (od : OpD G f r) : ∀ σ H Q, LE G W (cBin f da db) σ H Q → tOp r (LE G W da) (LE G W db) σ H Q := by
  rintro σ H Q ⟨e, h, P, R, re, rh, t, fin, x⟩
  refine LE.mk re rh t x fun d h1 v H1 t1 tl1 rh1 r1 re1 x1 => ?_
  refine LE.mk re1 rh1 t1 x1 fun d2 h2 v2 H2 t2 tl2 rh2 r2 re2 x2 => ?_
  exact od H2 h2 d d2 v v2 P Q rh2 (Rep.keep tl2 d v r1) r2 t2 fun d' h' v' H' p tl => fin d' h' v' H' p (tl1.trans (tl2.trans tl))
theorem st_cmp {op : CmpOp} {f : DO} {r : R2} (ho : OpR X (compareOp op) r) (od : OpD G f r) (hm : behindInMarks op b = false) (ha : PE X a (LE G W da)) (hb : PE X b (LE G W db)) : PT X (.Compare a [op] [b] pos) (LT G W (cTst (cBin f da db))) :=
  pt_imp (pt_cmpR ho ha hb hm) fun σ H Q l => tst_of (fun Q' q => le_bin od σ H Q' q) l
theorem le_chain {f g : DO} {r r' : R2} (od : OpD G f r) (od' : OpD G g r') : ∀ σ H Q, LE G W (cChain f g da db dc) σ H Q → tChain r r' (LE G W da) (LE G W db) (LE G W dc) σ H Q := by
  rintro σ H Q ⟨e, h, P, R, re, rh, t, fin, x⟩
  refine LE.mk re rh t x fun d h1 v H1 t1 tl1 rh1 r1 re1 x1 => ?_
  refine LE.mk re1 rh1 t1 x1 fun d2 h2 v2 H2 t2 tl2 rh2 r2 re2 x2 => ?_
  refine od H2 h2 d d2 v v2 _ _ rh2 (Rep.keep tl2 d v r1) r2 t2 fun d3 h3 v3 H3 t3 tl3 rh3 r3 => ?_
  cases d3 with
  | bl k =>
    refine ⟨k, r3.bl_, ?_⟩
    cases k with
    | true =>
      rw [if_pos rfl]
      refine LE.mk (re2.keep tl3) rh3 t3 (x2.later tl3) fun d4 h4 v4 H4 t4 tl4 rh4 r4 re4 x4 => ?_
      exact od' H4 h4 d2 d4 v2 v4 P Q rh4 (Rep.keep (tl3.trans tl4) d2 v2 r2) r4 t4 fun d' h' v' H' p tl => fin d' h' v' H' p (tl1.trans (tl2.trans (tl3.trans (tl4.trans tl))))
    | false =>
      rw [if_neg Bool.false_ne_true]
      exact fin _ h3 _ H3 t3 (tl1.trans (tl2.trans tl3)) rh3 rep_bl
  | _ => exact t3.elim
theorem se_chain {op op' : CmpOp} {f g : DO} {r r' : R2} (ho : OpR X (compareOp op) r) (ho' : OpR X (compareOp op') r') (od : OpD G f r) (od' : OpD G g r') (hm : lastMarks [op, op'] [b, c] = false)
    (ha : PE X a (LE G W da)) (hb : PE X b (LE G W db)) (hc : PE X c (LE G W dc)) : PE X (.Compare a [op, op'] [b, c] pos) (LE G W (cChain f g da db dc)) := pe_imp (pe_chain ho ho' ha hb hc hm) (le_chain od od')
theorem st_chain {op op' : CmpOp} {f g : DO} {r r' : R2} (ho : OpR X (compareOp op) r) (ho' : OpR X (compareOp op') r') (od : OpD G f r) (od' : OpD G g r') (hm : lastMarks [op, op'] [b, c] = false)
    (ha : PE X a (LE G W da)) (hb : PE X b (LE G W db)) (hc : PE X c (LE G W dc)) : PT X (.Compare a [op, op'] [b, c] pos) (LT G W (cTst (cChain f g da db dc))) :=
  pt_imp (pt_chain ho ho' ha hb hc hm) fun σ H Q l => tst_of (fun Q' q => le_chain od od' σ H Q' q) l
/-- a op1 b op2 c op3 d -/
def tChain3 (r r' r'' : R2) (ta tb tc td : TE) : TE := fun σ H Q => ta σ H fun x H1 => tb σ H1 fun y H2 => r x y H2 fun z H3 => ∃ k, z = .bl k ∧
  (if k = true then tc σ H3 fun w' H4 => r' y w' H4 fun z' H5 => ∃ k', z' = .bl k' ∧ (if k' = true then td σ H5 fun v' H6 => r'' w' v' H6 Q else Q (.bl false) H5) else Q (.bl false) H3)
theorem pe_chain3 {op op' op'' : CmpOp} {r r' r'' : R2} {ta tb tc td : TE} (ho : OpR X (compareOp op) r) (ho' : OpR X (compareOp op') r') (ho'' : OpR X (compareOp op'') r'') (ha : PE X a ta) (hb : PE X b tb) (hc : PE X c tc) (hd : PE X d td)
    (hm : lastMarks [op, op', op''] [b, c, d] = false) : PE X (.Compare a [op, op', op''] [b, c, d] pos) (tChain3 r r' r'' ta tb tc td) := by
  refine ⟨fun pins s σ H Q I h => ?_⟩
  refine PyProof.Rows.Compare_chain (thn (ha.run pins s σ H _ I h) fun v s1 ⟨x, H1, I1, r1, q1⟩ => PyProof.Rows.chain_link (thn (hb.run pins s1 σ H1 _ I1 q1) fun u s2 ⟨y, H2, I2, r2, q2⟩ =>
    thn (ho pins s2 σ H2 x y v u _ I2 r1 r2 q2) fun d s3 ⟨z, H3, I3, r3, k, e, q3⟩ => ?_)) hm
  subst e
  cases r3
  refine wpAny_truthy_bool ?_
  cases k with
  | false => exact PyProof.Rows.ite_ff ⟨.bl false, H3, I3, rfl, q3⟩
  | true =>
    refine PyProof.Rows.ite_tt (PyProof.Rows.chain_link (thn (hc.run pins s3 σ H3 _ I3 q3) fun w' s4 ⟨z', H4, I4, r4, q4⟩ => thn (ho' pins s4 σ H4 y z' u w' _ I4 r2 r4 q4) fun d' s5 ⟨z5, H5, I5, r5, k', e', q5⟩ => ?_))
    subst e'
    cases r5
    refine wpAny_truthy_bool ?_
    cases k' with
    | false => exact PyProof.Rows.ite_ff ⟨.bl false, H5, I5, rfl, q5⟩
    | true => exact PyProof.Rows.ite_tt (PyProof.Rows.chain_last (thn (hd.run pins s5 σ H5 _ I5 q5) fun w6 s6 ⟨z6, H6, I6, r6, q6⟩ => ho'' pins s6 σ H6 z' z6 w' w6 Q I6 r4 r6 q6))
theorem pt_chain3 {op op' op'' : CmpOp} {r r' r'' : R2} {ta tb tc td : TE} (ho : OpR X (compareOp op) r) (ho' : OpR X (compareOp op') r') (ho'' : OpR X (compareOp op'') r'') (ha : PE X a ta) (hb : PE X b tb) (hc : PE X c tc) (hd : PE X d td)
    (hm : lastMarks [op, op', op''] [b, c, d] = false) : PT X (.Compare a [op, op', op''] [b, c, d] pos) (tTest (tChain3 r r' r'' ta tb tc td)) := by
  refine ⟨fun pins s σ H Q I h => ?_⟩
  refine PyProof.Rows.isTrue_chain (thn (ha.run pins s σ H _ I h) fun v s1 ⟨x, H1, I1, r1, q1⟩ => PyProof.Rows.test_link (thn (hb.run pins s1 σ H1 _ I1 q1) fun u s2 ⟨y, H2, I2, r2, q2⟩ =>
    thn (ho pins s2 σ H2 x y v u _ I2 r1 r2 q2) fun d s3 ⟨z, H3, I3, r3, k, e, q3⟩ => ?_)) hm
  subst e
  cases r3
  refine wpAny_truthy_bool ?_
  cases k with
  | false =>
    obtain ⟨k', e', q'⟩ := q3
    cases e'
    exact PyProof.Rows.ite_ff ⟨H3, I3, q'⟩
  | true =>
    refine PyProof.Rows.ite_tt (PyProof.Rows.test_link (thn (hc.run pins s3 σ H3 _ I3 q3) fun w' s4 ⟨z', H4, I4, r4, q4⟩ => thn (ho' pins s4 σ H4 y z' u w' _ I4 r2 r4 q4) fun d' s5 ⟨z5, H5, I5, r5, k', e', q5⟩ => ?_))
    subst e'
    cases r5
    refine wpAny_truthy_bool ?_
    cases k' with
    | false =>
      obtain ⟨k', e', q'⟩ := q5
      cases e'
      exact PyProof.Rows.ite_ff ⟨H5, I5, q'⟩
    | true =>
      refine PyProof.Rows.ite_tt (PyProof.Rows.test_last (thn (hd.run pins s5 σ H5 _ I5 q5) fun w6 s6 ⟨z6, H6, I6, r6, q6⟩ => thn (ho'' pins s6 σ H6 z' z6 w' w6 _ I6 r4 r6 q6) fun d7 s7 ⟨z7, H7, I7, r7, k, e, q7⟩ => ?_))
      subst e
      cases r7
      exact wpAny_truthy_bool ⟨H7, I7, q7⟩
theorem le_chain3 {dd : DE} {f g k0 : DO} {r r' r'' : R2} (od : OpD G f r) (od' : OpD G g r') (od'' : OpD G k0 r'') : ∀ σ H Q, LE G W (cChain3 f g k0 da db dc dd) σ H Q → tChain3 r r' r'' (LE G W da) (LE G W db) (LE G W dc) (LE G W dd) σ H Q := by
  rintro σ H Q ⟨e, h, P, R, re, rh, t, fin, x⟩
  refine LE.mk re rh t x fun d h1 v H1 t1 tl1 rh1 r1 re1 x1 => ?_
  refine LE.mk re1 rh1 t1 x1 fun d2 h2 v2 H2 t2 tl2 rh2 r2 re2 x2 => ?_
  refine od H2 h2 d d2 v v2 _ _ rh2 (Rep.keep tl2 d v r1) r2 t2 fun d3 h3 v3 H3 t3 tl3 rh3 r3 => ?_
  cases d3 with
  | bl k =>
    refine ⟨k, r3.bl_, ?_⟩
    cases k with
    | true =>
      rw [if_pos rfl]
      refine LE.mk (re2.keep tl3) rh3 t3 (x2.later tl3) fun d4 h4 v4 H4 t4 tl4 rh4 r4 re4 x4 => ?_
      refine od' H4 h4 d2 d4 v2 v4 _ _ rh4 (Rep.keep (tl3.trans tl4) d2 v2 r2) r4 t4 fun d5 h5 v5 H5 t5 tl5 rh5 r5 => ?_
      cases d5 with
      | bl k =>
        refine ⟨k, r5.bl_, ?_⟩
        cases k with
        | true =>
          rw [if_pos rfl]
          refine LE.mk (re4.keep tl5) rh5 t5 (x4.later tl5) fun d6 h6 v6 H6 t6 tl6 rh6 r6 re6 x6 => ?_
          exact od'' H6 h6 d4 d6 v4 v6 P Q rh6 (Rep.keep (tl5.trans tl6) d4 v4 r4) r6 t6 fun d' h' v' H' p tl => fin d' h' v' H' p (tl1.trans (tl2.trans (tl3.trans (tl4.trans (tl5.trans (tl6.trans tl))))))
        | false =>
          rw [if_neg Bool.false_ne_true]
          exact fin _ h5 _ H5 t5 (tl1.trans (tl2.trans (tl3.trans (tl4.trans tl5)))) rh5 rep_bl
      | _ => exact t5.elim
    | false =>
      rw [if_neg Bool.false_ne_true]
      exact fin _ h3 _ H3 t3 (tl1.trans (tl2.trans tl3)) rh3 rep_bl
  | _ => exact t3.elim
theorem se_chain3 {dd : DE} {op op' op'' : CmpOp} {f g k0 : DO} {r r' r'' : R2} (ho : OpR X (compareOp op) r) (ho' : OpR X (compareOp op') r') (ho'' : OpR X (compareOp op'') r'') (od : OpD G f r) (od' : OpD G g r') (od'' : OpD G k0 r'') (hm : lastMarks [op, op', op''] [b, c, d] = false)
    (ha : PE X a (LE G W da)) (hb : PE X b (LE G W db)) (hc : PE X c (LE G W dc)) (hd : PE X d (LE G W dd)) : PE X (.Compare a [op, op', op''] [b, c, d] pos) (LE G W (cChain3 f g k0 da db dc dd)) := pe_imp (pe_chain3 ho ho' ho'' ha hb hc hd hm) (le_chain3 od od' od'')
theorem st_chain3 {dd : DE} {op op' op'' : CmpOp} {f g k0 : DO} {r r' r'' : R2} (ho : OpR X (compareOp op) r) (ho' : OpR X (compareOp op') r') (ho'' : OpR X (compareOp op'') r'') (od : OpD G f r) (od' : OpD G g r') (od'' : OpD G k0 r'') (hm : lastMarks [op, op', op''] [b, c, d] = false)
    (ha : PE X a (LE G W da)) (hb : PE X b (LE G W db)) (hc : PE X c (LE G W dc)) (hd : PE X d (LE G W dd)) : PT X (.Compare a [op, op', op''] [b, c, d] pos) (LT G W (cTst (cChain3 f g k0 da db dc dd))) :=
  pt_imp (pt_chain3 ho ho' ho'' ha hb hc hd hm) fun σ H Q l => tst_of (fun Q' q => le_chain3 od od' od'' σ H Q' q) l
theorem sa_nil : PA X [] (LA G W cNil) := pa_imp pa_nil (by
  rintro σ H Q ⟨e, h, P, R, re, rh, t, fin, x⟩
  exact fin [] h [] H t (TupLe.refl H) rh reps_nil)
theorem sa_cons {es : List Expr} {dr : DA} (hs : starEach (a :: es) X.env = (false, eval a X.env) :: starEach es X.env) (ha : PE X a (LE G W da)) (hr : PA X es (LA G W dr)) : PA X (a :: es) (LA G W (cCons da dr)) := pa_imp (pa_cons ha hr hs) (by
  rintro σ H Q ⟨e, h, P, R, re, rh, t, fin, x⟩
  refine LE.mk re rh t x fun d h1 v H1 t1 tl1 rh1 r1 re1 x1 => ?_
  refine LA.mk re1 rh1 t1 x1 fun ds h2 vs H2 t2 tl2 rh2 r2 re2 x2 => ?_
  exact fin _ h2 _ H2 t2 (tl1.trans tl2) rh2 (reps_cons (Rep.keep tl2 d v r1) r2))
theorem se_tup {es : List Expr} {t : DA} {x1} (h : PA X es (LA G W t)) : PE X (.Tuple es x1 pos) (LE G W (cTup t)) := pe_imp (pe_tup h) (by
  rintro σ H Q ⟨e, h, P, R, re, rh, t, fin, x⟩
  refine LA.mk re rh t x fun ds h1 vs H1 t1 tl1 rh1 r1 re1 x1 => ?_
  refine ⟨by rw [r1.length]; exact t1.1, ?_⟩
  exact Fin2.newT (P := P) (fun d' h' v' H' p tl => fin d' h' v' H' p (tl1.trans tl)) rh1 t1.2 r1)
theorem se_lst {es : List Expr} {t : DA} (h : PA X es (LA G W t)) : PE X (.List es pos) (LE G W (cLst t)) := pe_imp (pe_lst h) (by
  rintro σ H Q ⟨e, h, P, R, re, rh, t, fin, x⟩
  refine LA.mk re rh t x fun ds h1 vs H1 t1 tl1 rh1 r1 re1 x1 => ?_
  refine ⟨by rw [r1.length]; exact t1.1, ?_⟩
  exact Fin2.new (P := P) (fun d' h' v' H' p tl => fin d' h' v' H' p (tl1.trans tl)) rh1 t1.2 fun c hc => OR.lst hc r1)
theorem isEmpty_reps {K : PySem.W.Frag} {H : Hp} {ds : List D} {vs : List V} (r : Reps K H ds vs) : vs.isEmpty = ds.isEmpty := by
  cases ds with
  | nil => rw [r.nil_]; rfl
  | cons d ds => obtain ⟨v, us, rfl, _⟩ := r.cons_; rfl
theorem tru_okD {H : Hp} {h : DH} {d : D} {v : V} {k : Bool → Prop} (rh : RH G H h) (r : Rep G.K H d v) (t : tRu d h k) : ∃ b, TruV G.K v H b ∧ k b := by
  cases d with
  | non => rw [r.non_]; exact ⟨_, rfl, t⟩
  | bl b => rw [r.bl_]; exact ⟨_, rfl, t⟩
  | int b => rw [r.int_]; exact ⟨_, rfl, t⟩
  | str b => rw [r.str_]; exact ⟨_, ⟨t.1, rfl⟩, t.2⟩
  | tup ds =>
    obtain ⟨a, vs, rfl, q, p⟩ := r.tup_
    exact ⟨_, .inr (.inl ⟨vs, q, rfl⟩), by rw [isEmpty_reps p]; exact t⟩
  | ktup ds =>
    obtain ⟨a, vs, rfl, q, p⟩ := r.ktup_
    exact ⟨_, .inr (.inl ⟨vs, q, rfl⟩), by rw [isEmpty_reps p]; exact t⟩
  | rol ds =>
    obtain ⟨a, vs, rfl, q, p⟩ := r.rol_
    exact ⟨_, .inl ⟨vs, q.sq, rfl⟩, by rw [isEmpty_reps p]; exact t⟩
  | ref a =>
    rw [r.ref_]
    unfold tRu at t
    simp only at t
    split at t
    · rename_i xs e
      obtain ⟨vs, q, p⟩ := rh.lst e
      exact ⟨_, .inl ⟨vs, .inl (.inl q), rfl⟩, by rw [isEmpty_reps p]; exact t⟩
    · rename_i kvs e
      obtain ⟨ws, q, p⟩ := rh _ _ e
      have z : ws.isEmpty = kvs.isEmpty := by
        have l := p.length
        cases ws <;> cases kvs <;> simp at l ⊢
      exact ⟨_, .inr (.inr ⟨ws, q, rfl⟩), by rw [z]; exact t⟩
    · exact t.elim
theorem st_tru (hK : X.K = G.K) (ha : PE X a (LE G W da)) (he : ∀ whole, isTrue a X.env whole = (do let v ← whole; standAt a.pos; holding [v] (truthy v))) : PT X a (LT G W (cTru da)) := pt_imp (pt_truth ha he) (by
  rintro σ H Q ⟨e, h, P, R, re, rh, t, fin, x⟩
  refine LE.mk re rh t x fun d h1 v H1 t1 tl1 rh1 r1 re1 x1 => ?_
  obtain ⟨b, p, q⟩ := tru_okD rh1 r1 t1
  exact ⟨b, by rw [hK]; exact p, fin b h1 H1 q tl1 rh1⟩)
theorem lt_and {t u : DT} : ∀ σ H Q, LT G W (cAnd t u) σ H Q → tAnd (LT G W t) (LT G W u) σ H Q := by
  rintro σ H Q ⟨e, h, P, R, re, rh, t, fin, x⟩
  refine LT.mk re rh t x fun b h1 H1 t1 tl1 rh1 re1 x1 => ?_
  cases b with
  | true =>
    rw [if_pos rfl] at t1 ⊢
    exact LT.mk re1 rh1 t1 x1 fun b h2 H2 t2 tl2 rh2 re2 x2 => fin b h2 H2 t2 (tl1.trans tl2) rh2
  | false =>
    rw [if_neg Bool.false_ne_true] at t1 ⊢
    exact fin false h1 H1 t1 tl1 rh1
theorem lt_or {t u : DT} : ∀ σ H Q, LT G W (cOr t u) σ H Q → tOr (LT G W t) (LT G W u) σ H Q := by
  rintro σ H Q ⟨e, h, P, R, re, rh, t, fin, x⟩
  refine LT.mk re rh t x fun b h1 H1 t1 tl1 rh1 re1 x1 => ?_
  cases b with
  | false =>
    rw [if_neg Bool.false_ne_true] at t1 ⊢
    exact LT.mk re1 rh1 t1 x1 fun b h2 H2 t2 tl2 rh2 re2 x2 => fin b h2 H2 t2 (tl1.trans tl2) rh2
  | true =>
    rw [if_pos rfl] at t1 ⊢
    exact fin true h1 H1 t1 tl1 rh1
theorem st_not (h : PT X a (LT G W dt)) : PT X (.UnaryOp .Not a pos) (LT G W (cNot dt)) := pt_imp (pt_not h) (by
  rintro σ H Q ⟨e, h, P, R, re, rh, t, fin, x⟩
  exact LT.mk re rh t x fun b h1 H1 t1 tl1 rh1 re1 x1 => fin (!b) h1 H1 t1 tl1 rh1)
theorem se_not (h : PE X a (LE G W da)) : PE X (.UnaryOp .Not a pos) (LE G W (cNotV da)) := pe_imp (pe_not h) (by
  rintro σ H Q ⟨e, h, P, R, re, rh, t, fin, x⟩
  refine LE.mk re rh t x fun d h1 v H1 t1 tl1 rh1 r1 re1 x1 => ?_
  cases d with
  | bl k => exact ⟨k, r1.bl_, fin _ h1 _ H1 t1 tl1 rh1 rep_bl⟩
  | _ => exact t1.elim)
theorem se_and {rest : List Expr} (ha : PE X a (LE G W da)) (hb : PE X (.BoolOp .And (b :: rest) pos) (LE G W db)) : PE X (.BoolOp .And (a :: b :: rest) pos) (LE G W (cAndV da db)) := pe_imp (pe_and ha hb) (by
  rintro σ H Q ⟨e, h, P, R, re, rh, t, fin, x⟩
  refine LE.mk re rh t x fun d h1 v H1 t1 tl1 rh1 r1 re1 x1 => ?_
  cases d with
  | bl k =>
    refine ⟨k, r1.bl_, ?_⟩
    cases k with
    | true =>
      rw [if_pos rfl]
      exact LE.mk re1 rh1 t1 x1 fun d2 h2 v2 H2 t2 tl2 rh2 r2 re2 x2 => fin d2 h2 v2 H2 t2 (tl1.trans tl2) rh2 r2
    | false =>
      rw [if_neg Bool.false_ne_true]
      exact fin _ h1 _ H1 t1 tl1 rh1 rep_bl
  | _ => exact t1.elim)
theorem se_or {rest : List Expr} (ha : PE X a (LE G W da)) (hb : PE X (.BoolOp .Or (b :: rest) pos) (LE G W db)) : PE X (.BoolOp .Or (a :: b :: rest) pos) (LE G W (cOrV da db)) := pe_imp (pe_or ha hb) (by
  rintro σ H Q ⟨e, h, P, R, re, rh, t, fin, x⟩
  refine LE.mk re rh t x fun d h1 v H1 t1 tl1 rh1 r1 re1 x1 => ?_
  cases d with
  | bl k =>
    refine ⟨k, r1.bl_, ?_⟩
    cases k with
    | false =>
      rw [if_neg Bool.false_ne_true]
      exact LE.mk re1 rh1 t1 x1 fun d2 h2 v2 H2 t2 tl2 rh2 r2 re2 x2 => fin d2 h2 v2 H2 t2 (tl1.trans tl2) rh2 r2
    | true =>
      rw [if_pos rfl]
      exact fin _ h1 _ H1 t1 tl1 rh1 rep_bl
  | _ => exact t1.elim)
theorem se_ifE (hc : PT X c (LT G W dt)) (ha : PE X a (LE G W da)) (hb : PE X b (LE G W db)) : PE X (.IfExp c a b pos) (LE G W (cIfE dt da db)) := pe_imp (pe_ifExp hc ha hb) (by
  rintro σ H Q ⟨e, h, P, R, re, rh, t, fin, x⟩
  refine LT.mk re rh t x fun b h1 H1 t1 tl1 rh1 re1 x1 => ?_
  cases b with
  | true =>
    rw [if_pos rfl] at t1 ⊢
    exact LE.mk re1 rh1 t1 x1 fun d2 h2 v2 H2 t2 tl2 rh2 r2 re2 x2 => fin d2 h2 v2 H2 t2 (tl1.trans tl2) rh2 r2
  | false =>
    rw [if_neg Bool.false_ne_true] at t1 ⊢
    exact LE.mk re1 rh1 t1 x1 fun d2 h2 v2 H2 t2 tl2 rh2 r2 re2 x2 => fin d2 h2 v2 H2 t2 (tl1.trans tl2) rh2 r2)
theorem se_neg (h : PE X a (LE G W da)) : PE X (.UnaryOp .USub a pos) (LE G W (cNeg da)) := pe_imp (pe_un un_neg h) (by
  rintro σ H Q ⟨e, h, P, R, re, rh, t, fin, x⟩
  refine LE.mk re rh t x fun d h1 v H1 t1 tl1 rh1 r1 re1 x1 => ?_
  cases d with
  | int k => exact ⟨k, r1.int_, fin _ h1 _ H1 t1 tl1 rh1 rep_int⟩
  | _ => exact t1.elim)
end
end DW

/-! DW, part 4: subscripts, slices, fields, calls. -/
namespace DW
open PySem L2

/-! ### items -/
def doIx : DO := fun x y h P => match x, y with
  | .tup ds, .int i => ∃ d, atI ds i = some d ∧ P d h
  | .ktup ds, .int i => ∃ d, atI ds i = some d ∧ P d h
  | .rol ds, .int i => ∃ d, atI ds i = some d ∧ P d h
  | .str z, .int i => z.length ≤ sizeLine ∧ ∃ c, atI z.cps.toList i = some c ∧ P (.str ⟨#[c]⟩) h
  | .ref a, y => if isDict h a = true then dGet h a y fun o => ∃ d, o = some d ∧ P d h else ∃ ds i d, lstOf h (.ref a) = some ds ∧ y = .int i ∧ atI ds i = some d ∧ P d h
  | _, _ => False
def rIxA (P : Program) (w : World) (K : PySem.W.Frag) : R2 := fun x y H Q => rIx K x y H Q ∨ ∃ a v, x = .ref a ∧ DGetW P w K H a y (some v) ∧ Q v H
theorem ix_dict {X : Cx} (hu : X.A.units + 1 < cLine) : IxR X (fun x y H Q => ∃ a v, x = .ref a ∧ DGetW X.prog X.w X.K H a y (some v) ∧ Q v H) := by
  intro value slice pins s σ H x y v u Q I rx ry h hs
  obtain ⟨a, w, rfl, g, q⟩ := h
  cases rx
  exact PyProof.Rows.tail_any (dw_typ I g) PySem.F.slot_dict_getitem.lookup (dw_getItem hu I g ry fun w' s' I' r' => ⟨w, H, I', r', q⟩) hs
theorem ix_A {X : Cx} (hu : X.A.units + 1 < cLine) : IxR X (rIxA X.prog X.w X.K) := ix_seq.or (ix_dict hu)
theorem Reps.atI {K : PySem.W.Frag} {H : Hp} {ds : List D} {vs : List V} {i : Int} {d : D} (r : Reps K H ds vs) (e : L2.atI ds i = some d) : ∃ v, L2.atI vs i = some v ∧ Rep K H d v := by
  unfold L2.atI at e ⊢
  rw [r.length]
  cases z : ixN ds.length i with
  | none => rw [z] at e; cases e
  | some j =>
    rw [z] at e
    obtain ⟨v, p, q⟩ := r.get (i := j) e
    exact ⟨v, p, q⟩
theorem od_ix {G : Pg} : OpD G doIx (rIxA G.P G.w G.K) := fun H h x y v u P Q rh rx ry p f => by
  cases x with
  | tup ds =>
    cases y <;> first | exact p.elim | skip
    obtain ⟨d, e, q⟩ := p
    obtain ⟨a, vs, rfl, s, r⟩ := rx.tup_
    obtain ⟨w, e', r'⟩ := r.atI e
    exact .inl (.inr (.inl ⟨a, vs, _, w, rfl, ry.int_, s, e', f.val rh q r'⟩))
  | ktup ds =>
    cases y <;> first | exact p.elim | skip
    obtain ⟨d, e, q⟩ := p
    obtain ⟨a, vs, rfl, s, r⟩ := rx.ktup_
    obtain ⟨w, e', r'⟩ := r.atI e
    exact .inl (.inr (.inl ⟨a, vs, _, w, rfl, ry.int_, s, e', f.val rh q r'⟩))
  | rol ds =>
    cases y <;> first | exact p.elim | skip
    obtain ⟨d, e, q⟩ := p
    obtain ⟨a, vs, rfl, s, r⟩ := rx.rol_
    obtain ⟨w, e', r'⟩ := r.atI e
    exact .inl (.inl ⟨a, vs, _, w, rfl, ry.int_, s.sq, e', f.val rh q r'⟩)
  | str z =>
    cases y <;> first | exact p.elim | skip
    obtain ⟨l, c, e, q⟩ := p
    exact .inl (.inr (.inr ⟨z, _, c, rx.str_, ry.int_, l, e, f.val rh q rep_str⟩))
  | ref a =>
    unfold doIx at p
    simp only at p
    split at p
    · obtain ⟨o, ov, g, ⟨d, rfl, k⟩, e1, e2⟩ := dGet_ok rh ry p
      obtain ⟨w, rfl, r⟩ := e1 d rfl
      exact .inr ⟨a, w, rx.ref_, g, f.val rh k r⟩
    · obtain ⟨ds, i, d, e1, rfl, e2, q⟩ := p
      obtain ⟨b, vs, e3, s, r⟩ := lstOf_ok rh rx e1
      obtain ⟨w, e', r'⟩ := r.atI e2
      exact .inl (.inl ⟨b, vs, _, w, e3, ry.int_, s, e', f.val rh q r'⟩)
  | _ => cases y <;> exact p.elim
/-! ### slices -/
/-- a slice's part -/
abbrev DO1 := DSt → DH → (Option Int → DH → Prop) → KX → Prop
def cNoPart : DO1 := fun _ h P _ => P none h
def cPart (a : DE) : DO1 := fun e h P R => a e h (fun x h1 => match x with
  | .int i => P (some i) h1
  | _ => False) R
/-- the items from lo on, below hi -/
def cutD (xs : List D) (lo hi : Option Int) : List D := (xs.drop (HT.sIx xs.length 0 lo)).take (HT.sIx xs.length xs.length hi - HT.sIx xs.length 0 lo)
def slD (x : D) (lo hi : Option Int) (h : DH) (P : KD) : Prop := match x with
  | .tup ds => P (.tup (cutD ds lo hi)) h
  | .rol ds => ∀ p, h p = none → P (.ref p) (up h p (.lst (cutD ds lo hi)))
  | .str z => z.length ≤ sizeLine ∧ P (.str (cutS z lo hi)) h
  | .ref a => match h a with
    | some (.lst ds) => ∀ p, h p = none → P (.ref p) (up h p (.lst (cutD ds lo hi)))
    | _ => False
  | _ => False
def cSl (a : DE) (lo hi : DO1) : DE := fun e h P R => a e h (fun x h1 => lo e h1 (fun l h2 => hi e h2 (fun u h3 => slD x l u h3 P) R) R) R
def rSlAll (K : PySem.W.Frag) : V → Option Int → Option Int → Hp → VK → Prop := fun x lo hi H Q => (rSlL K x lo hi H Q ∨ rSlA K x lo hi H Q) ∨ rSlS x lo hi H Q
theorem sl_all {X : Cx} : SlR X (rSlAll X.K) := (sl_list.or sl_tupA).or sl_str
theorem Reps.cut {K : PySem.W.Frag} {H : Hp} {ds : List D} {vs : List V} (r : Reps K H ds vs) (lo hi : Option Int) : Reps K H (cutD ds lo hi) (cutV vs lo hi) := by
  unfold cutD cutV
  rw [r.length]
  exact (r.drop _).take _
theorem cutD_all {ds : List D} {lo hi : Option Int} (h : HT.sIx ds.length 0 lo = 0 ∧ HT.sIx ds.length ds.length hi = ds.length) : cutD ds lo hi = ds := by
  unfold cutD
  rw [h.1, h.2]
  simp
theorem sl_okD {G : Pg} {H : Hp} {h : DH} {x : D} {v : V} {lo hi : Option Int} {P : KD} {Q : VK} (rh : RH G H h) (r : Rep G.K H x v) (p : slD x lo hi h P) (f : Fin2 G P H Q) : rSlAll G.K v lo hi H Q := by
  cases x with
  | tup ds =>
    obtain ⟨a, vs, rfl, s, q⟩ := r.tup_
    refine .inl (.inr ⟨a, vs, rfl, s, fun e => ?_, fun _ => f.newT rh p (q.cut lo hi)⟩)
    rw [q.length] at e
    have p' : P (.tup (cutD ds lo hi)) h := p
    rw [cutD_all e] at p'
    exact f.val rh p' r
  | rol ds =>
    obtain ⟨a, vs, rfl, s, q⟩ := r.rol_
    exact .inl (.inl ⟨a, vs, rfl, s.sq, f.new rh p fun c hc => OR.lst hc (q.cut lo hi)⟩)
  | str z => exact .inr ⟨z, r.str_, p.1, f.val rh p.2 rep_str⟩
  | ref a =>
    unfold slD at p
    simp only at p
    split at p
    · rename_i ds e
      obtain ⟨vs, s, q⟩ := rh.lst e
      exact .inl (.inl ⟨a, vs, r.ref_, .inl (.inl s), f.new rh p fun c hc => OR.lst hc (q.cut lo hi)⟩)
    · exact p.elim
  | _ => exact p.elim
/-- xs[::-1] -/
def cRev (a : DE) : DE := fun e h P R => a e h (fun x h1 => ∃ ds, lstOf h1 x = some ds ∧ ∀ p, h1 p = none → P (.ref p) (up h1 p (.lst ds.reverse))) R

/-! ### fields: the places by the class's number -/
def cFld (a : DE) (ix : List (Nat × Nat)) : DE := fun e h P R => a e h (fun x h1 => match x with
  | .ref p => match h1 p with
    | some (.ins c fs) => match ix.lookup c with
      | some i => match fs[i]? with
        | some d => P d h1
        | none => False
      | none => False
    | _ => False
  | _ => False) R
/-- what the classes with these fields must be -/
def FldOk (G : Pg) (f : Str) (ix : List (Nat × Nat)) : Prop := ∀ c i, ix.lookup c = some i → Cls G.K (G.ca c) ∧ NoAttr G.K (G.ca c) f ∧ (G.fn c)[i]? = some f ∧ (G.fn c).Nodup
theorem zip_look {ns : List Str} (nd : ns.Nodup) {f : Str} : ∀ {vs : List V} {i : Nat} {v : V}, ns[i]? = some f → vs[i]? = some v → (ns.zip vs).lookup f = some v := by
  induction ns with
  | nil => intro vs i v e; simp at e
  | cons n ns ih =>
    intro vs i v e e'
    cases vs with
    | nil => simp at e'
    | cons w vs =>
      cases i with
      | zero =>
        simp at e e'
        subst e e'
        simp [List.lookup]
      | succ i =>
        simp at e e'
        have nn := List.nodup_cons.mp nd
        have ne : (f == n) = false := by
          rw [beq_eq_false_iff_ne]
          intro z
          subst z
          exact nn.1 (List.mem_of_getElem? e)
        show List.lookup f ((n, w) :: ns.zip vs) = _
        simp only [List.lookup, ne]
        exact ih nn.2 e e'
section
variable {X : Cx} {G : Pg} {W : WX} {a b c e : Expr} {da db dc : DE} {dt du : DT} {pos : Pos}
theorem se_ix (hP : X.prog = G.P) (hw : X.w = G.w) (hK : X.K = G.K) (hu : X.A.units + 1 < cLine) (hs : PlainIx b) (ha : PE X a (LE G W da)) (hb : PE X b (LE G W db)) : PE X (.Subscript a b pos) (LE G W (cBin doIx da db)) :=
  pe_imp (pe_ix (by rw [← hK, ← hP, ← hw]; exact ix_A hu : IxR X (rIxA G.P G.w G.K)) ha hb hs) (le_bin od_ix)
theorem lo_none : PO X none (fun σ H Q => Q none H) := po_none
theorem se_slice {lo hi : Option Expr} {p2 : Pos} (hK : X.K = G.K) {tl th : DO1}
    (ha : PE X a (LE G W da)) (hl : (lo = none ∧ tl = cNoPart) ∨ ∃ e d, lo = some e ∧ tl = cPart d ∧ PE X e (LE G W d)) (hh : (hi = none ∧ th = cNoPart) ∨ ∃ e d, hi = some e ∧ th = cPart d ∧ PE X e (LE G W d)) :
    PE X (.Subscript a (.Slice lo hi none p2) pos) (LE G W (cSl da tl th)) := by
  -- a part's reading
  have part : ∀ {o : Option Expr} {t : DO1}, ((o = none ∧ t = cNoPart) ∨ ∃ e d, o = some e ∧ t = cPart d ∧ PE X e (LE G W d)) → ∃ to : TO, PO X o to ∧ ∀ {σ : St} {H : Hp} {Q : Option Int → Hp → Prop} {en : DSt} {h : DH} {P : Option Int → DH → Prop} {R : KX}, RE G.K H en σ → RH G H h → t en h P R → LX G W σ H R →
      (∀ o h' H', P o h' → TupLe H H' → RH G H' h' → RE G.K H' en σ → LX G W σ H' R → Q o H') → to σ H Q := by
    intro o t z
    rcases z with ⟨rfl, rfl⟩ | ⟨e, d, rfl, rfl, pe⟩
    · exact ⟨tNoPart, po_none, fun {σ H Q en h P R} re rh p x f => f none h H p (TupLe.refl H) rh re x⟩
    · refine ⟨tPart (LE G W d), po_some pe, fun {σ H Q en h P R} re rh p x f => ?_⟩
      refine LE.mk re rh p x fun d1 h1 v1 H1 t1 tl1 rh1 r1 re1 x1 => ?_
      cases d1 with
      | int i => exact ⟨i, r1.int_, f _ h1 H1 t1 tl1 rh1 re1 x1⟩
      | _ => exact t1.elim
  obtain ⟨tol, pol, cl⟩ := part hl
  obtain ⟨toh, poh, ch⟩ := part hh
  refine pe_imp (pe_slice (sl_all (X := X)) ha pol poh) ?_
  rintro σ H Q ⟨en, h, P, R, re, rh, t, fin, x⟩
  refine LE.mk re rh t x fun d h1 v H1 t1 tl1 rh1 r1 re1 x1 => ?_
  refine cl re1 rh1 t1 x1 fun l h2 H2 t2 tl2 rh2 re2 x2 => ?_
  refine ch re2 rh2 t2 x2 fun u h3 H3 t3 tl3 rh3 re3 x3 => ?_
  rw [hK]
  exact sl_okD rh3 (Rep.keep (tl2.trans tl3) _ _ r1) t3 fun d' h' v' H' p tl => fin d' h' v' H' p (tl1.trans (tl2.trans (tl3.trans tl)))
theorem se_rev {k : Nat} {p1 p2 p3 : Pos} (hK : X.K = G.K) (ha : PE X a (LE G W da)) : PE X (.Subscript a (.Slice none none (some (.UnaryOp .USub (.Constant (.int 1) k p1) p2)) p3) pos) (LE G W (cRev da)) := by
  refine pe_imp (pe_revL ha) ?_
  rintro σ H Q ⟨en, h, P, R, re, rh, t, fin, x⟩
  refine LE.mk re rh t x fun d h1 v H1 t1 tl1 rh1 r1 re1 x1 => ?_
  obtain ⟨ds, e, p⟩ := t1
  obtain ⟨a, vs, rfl, s, q⟩ := lstOf_ok rh1 r1 e
  refine ⟨a, vs, rfl, by rw [hK]; exact s, ?_⟩
  exact Fin2.new (P := P) (fun d' h' v' H' p tl => fin d' h' v' H' p (tl1.trans tl)) rh1 p fun c hc => OR.lst hc q.reverse
theorem se_fld {f : Str} {ix : List (Nat × Nat)} (hK : X.K = G.K) (hf : FldOk G f ix) (hb : attributeBase a f X.env (eval a X.env) = eval a X.env) (ha : PE X a (LE G W da)) : PE X (.Attribute a f pos) (LE G W (cFld da ix)) := by
  refine pe_imp (pe_fld ha hb) ?_
  rintro σ H Q ⟨en, h, P, R, re, rh, t, fin, x⟩
  refine LE.mk re rh t x fun d h1 v H1 t1 tl1 rh1 r1 re1 x1 => ?_
  cases d with
  | ref p =>
    simp only at t1
    split at t1
    · rename_i c fs ep
      split at t1
      · rename_i i ei
        split at t1
        · rename_i d ed
          obtain ⟨dx, vs, e1, e2, e3⟩ := rh1 _ _ ep
          obtain ⟨hc, hn, hi, nd⟩ := hf c i ei
          obtain ⟨w, e4, e5⟩ := e2.get ed
          exact ⟨p, G.ca c, dx, _, w, r1.ref_, e1, by rw [hK]; exact hc, by rw [hK]; exact hn, zip_look nd hi e4, fin d h1 w H1 t1 tl1 rh1 e5⟩
        · exact t1.elim
      · exact t1.elim
    · exact t1.elim
  | _ => exact t1.elim
end

/-! ### calls -/
/-- calling u with positional arguments alone, as s says -/
theorem passN {X : Cx} : Passes (L2N.CX X.prog X.w) X E0 := fun _ _ _ _ _ _ _ h => by
  obtain ⟨_, _, _, _, _, _, _, _, _, _, _, _, z⟩ := h
  exact z.elim
theorem takesN {X : Cx} : L2N.Takes X (fun _ _ _ _ => False) := fun _ _ x => by
  obtain ⟨_, _, _, _, _, _, _, _, _, _, _, _, _, _, _, _, z⟩ := x
  exact z.elim
def CallP (G : Pg) (X : Cx) (W : WX) (u : Value) (s : DSp) : Prop :=
  ∀ (pins : List (Addr × Obj)) (st : Shared) (σ : St) (H : Hp) (ds : List D) (vs : List V) (us : List Value) (h : DH) (P : KD) (R : KX) (Q : VK), Inv X pins σ H st → Vals vs us → Reps G.K H ds vs → RH G H h → s ds h P R → Fin2 G P H Q → LX G W σ H R →
    wpAny (model X.prog X.w) X.A (call u us) (EP X pins σ Q) X.xe st
def cCall (s : DSp) (t : DA) : DE := fun e h P R => t e h (fun ds h1 => s ds h1 P R) R
structure Same5 (G : Pg) (X : Cx) : Prop where
  K : X.K = G.K
  P : X.prog = G.P
  w : X.w = G.w
  mg : X.mg = G.mg
  base : X.base = G.base
theorem call_fnP {G : Pg} {X : Cx} {W : WX} {k : Nat} {f : Addr} {fd : FuncData} {ps : List Str} {s : DSp} (S : Same5 G X) (tk : L2N.Takes X W) (hr : Room k X.A)
    (F : FnOk G.P G.w G.K G.mg G.base (L2N.CX G.P G.w) k f fd ps (LSp G s)) (hb : Binds G.K fd ps []) : CallP G X W (.ref f) s := by
  intro pins st σ H ds vs us h P R Q I rv rs rh hs fin x
  have F' : FnOk X.prog X.w X.K X.mg X.base (L2N.CX X.prog X.w) k f fd ps (LSp G s) := by rw [S.K, S.P, S.w, S.mg, S.base]; exact F
  exact run_fnS (E := WE W) F' hr (by rw [S.K]; exact hb) (L2N.passAt tk σ) I rv ⟨ds, h, P, R, rs, rh, hs, fin, fun x' h' cls dd H' a b c d => x x' h' cls dd H' a b c d⟩
/-- .. while an exception is handled -/
theorem call_hotP {G : Pg} {X : Cx} {W : WX} {k : Nat} {f : Addr} {fd : FuncData} {ps : List Str} {s : DSp} (S : Same5 G X) (tk : L2N.Takes X W) (hr : L2H.RoomH k X.A) (hc : L2H.HotC X)
    (F : L2H.FnH G.P G.w G.K G.mg G.base (L2N.CX G.P G.w) k f fd ps (LSp G s)) (hb : Binds G.K fd ps []) : CallP G X W (.ref f) s := by
  intro pins st σ H ds vs us h P R Q I rv rs rh hs fin x
  have F' : L2H.FnH X.prog X.w X.K X.mg X.base (L2N.CX X.prog X.w) k f fd ps (LSp G s) := by rw [S.K, S.P, S.w, S.mg, S.base]; exact F
  exact L2H.run_fnH (E := WE W) F' hr hc (by rw [S.K]; exact hb) (L2N.passAt tk σ) I rv ⟨ds, h, P, R, rs, rh, hs, fin, fun x' h' cls dd H' a b c d => x x' h' cls dd H' a b c d⟩
section
variable {X : Cx} {G : Pg} {W : WX} {x : Str} {u : Value} {s : DSp} {t : DA} {p pos : Pos} {e : Expr} {es : List Expr}
theorem se_call (hg : Gl X x) (hm : X.mg x = some u) (hk : PySem.W.keepIn X.K u = true) (hc : CallP G X W u s) (ha : PA X (e :: es) (LA G W t)) (hdb : (x == ("__debug__" : Str)) = false)
    (he : starEach (e :: es) X.env = (false, eval e X.env) :: starEach es X.env) (hpl : (backTo pos (starEach es X.env)).any (·.1) = false) : PE X (.Call (.Name x p) (e :: es) [] pos) (LE G W (cCall s t)) := by
  refine ⟨fun pins st σ H Q I h => ?_⟩
  refine wpAny_Call_Name_kw (ld_glob I hg hm ?_ hdb)
  obtain ⟨en, dh, P, R, re, rh, tt, fin, lx⟩ := h
  refine PySem.W.callWith_K (h₀ := X.base) I.ok.mod.kin hk (thn (ha.run pos pins st σ H (fun vs H1 => ∃ ds h1, s ds h1 P R ∧ TupLe H H1 ∧ RH G H1 h1 ∧ Reps G.K H1 ds vs) I ?_) fun us s1 ⟨vs, H1, I1, r, ds, h1, q, tl, rh1, rs⟩ => ⟨I1.kIn, ?_⟩) he hpl
  · exact LA.mk re rh tt lx fun ds h1 vs H1 t1 tl1 rh1 r1 re1 x1 => ⟨ds, h1, t1, tl1, rh1, r1⟩
  · exact hc pins s1 σ H1 ds vs us h1 P R Q I1 r rs rh1 q (fun d' h' v' H' p tl' => fin d' h' v' H' p (tl.trans tl')) (lx.later tl)
theorem se_call0 (hg : Gl X x) (hm : X.mg x = some u) (hk : PySem.W.keepIn X.K u = true) (hc : CallP G X W u s) (hdb : (x == ("__debug__" : Str)) = false) : PE X (.Call (.Name x p) [] [] pos) (LE G W (cCall s cNil)) := by
  refine ⟨fun pins st σ H Q I h => ?_⟩
  refine wpAny_Call_Name_kw (ld_glob I hg hm ?_ hdb)
  obtain ⟨en, dh, P, R, re, rh, tt, fin, lx⟩ := h
  exact PySem.W.callWith_K0 I.kIn hk (hc pins st σ H [] [] [] dh P R Q I .nil reps_nil rh tt (fun d' h' v' H' p tl' => fin d' h' v' H' p tl') lx)
end
end DW

/-! DW, part 5: instances made, methods, properties, keywords, built-ins. -/
namespace DW
open PySem L2

abbrev DSp2 := List D → List D → DH → KD → KX → Prop
/-- calling u with positional and keyword arguments -/
def CallKP (G : Pg) (X : Cx) (W : WX) (u : Value) (ks : List Str) (s : DSp2) : Prop :=
  ∀ (pins : List (Addr × Obj)) (st : Shared) (σ : St) (H : Hp) (ds es : List D) (vs zs : List V) (us ws : List Value) (h : DH) (P : KD) (R : KX) (Q : VK), Inv X pins σ H st → Vals vs us → Vals zs ws → Reps G.K H ds vs → Reps G.K H es zs → RH G H h → s ds es h P R → Fin2 G P H Q → LX G W σ H R →
    wpAny (model X.prog X.w) X.A (call u us (ks.zip ws)) (EP X pins σ Q) X.xe st
def cCallK (s : DSp2) (t tk : DA) : DE := fun e h P R => t e h (fun ds h1 => tk e h1 (fun es h2 => s ds es h2 P R) R) R
/-- how arguments bind: ar puts positional and keyword values (and defaults) in the parameters' order -/
def BindD (G : Pg) (fd : FuncData) (ps : List Str) (n : Nat) (ks : List Str) (ar : List D → List D → List D) : Prop :=
  ∃ g : List Value → List Value → List Value, (∀ (s : Shared) (us ws : List Value), G.K.In s.heap → us.length = n → ws.length = ks.length → BindsTo s fd ⟨us, ks.zip ws⟩ (ps.zip (g us ws))) ∧
    ∀ (H : Hp) (ds es : List D) (vs zs : List V) (us ws : List Value), us.length = n → ws.length = ks.length → Vals vs us → Vals zs ws → Reps G.K H ds vs → Reps G.K H es zs → ∃ vs', Vals vs' (g us ws) ∧ Reps G.K H (ar ds es) vs'
def arSp (n m : Nat) (ar : List D → List D → List D) (s : DSp) : DSp2 := fun ds es h P R => ds.length = n ∧ es.length = m ∧ s (ar ds es) h P R
theorem call_fnKP {G : Pg} {X : Cx} {W : WX} {k n : Nat} {f : Addr} {fd : FuncData} {ps ks : List Str} {s : DSp} {ar : List D → List D → List D} (S : Same5 G X) (tk : L2N.Takes X W) (hr : Room k X.A)
    (F : FnOk G.P G.w G.K G.mg G.base (L2N.CX G.P G.w) k f fd ps (LSp G s)) (hb : BindD G fd ps n ks ar) : CallKP G X W (.ref f) ks (arSp n ks.length ar s) := by
  intro pins st σ H ds es vs zs us ws h P R Q I rv rz rs rt rh hs fin x
  obtain ⟨l1, l2, hs⟩ := hs
  obtain ⟨g, hto, hrel⟩ := hb
  have n1 : us.length = n := by rw [← rv.length, rs.length, l1]
  have n2 : ws.length = ks.length := by rw [← rz.length, rt.length, l2]
  obtain ⟨vs', hv, hr'⟩ := hrel H ds es vs zs us ws n1 n2 rv rz rs rt
  have F' : FnOk X.prog X.w X.K X.mg X.base (L2N.CX X.prog X.w) k f fd ps (LSp G s) := by rw [S.K, S.P, S.w, S.mg, S.base]; exact F
  have hp := L2N.passAt tk σ
  refine wpAny_call (codeAny_mono (F'.run X.A X.stack st H ⟨us, ks.zip ws⟩ (g us ws) vs' Q (WE W σ) hr I.env0 (hto st us ws (by rw [← S.K]; exact I.kIn) n1 n2) hv ⟨ds |> fun _ => ar ds es, h, P, R, hr', rh, hs, fin, fun x' h' cls dd H' a b c d => x x' h' cls dd H' a b c d⟩) fun r s' hq => ?_)
  cases r with
  | ok fl =>
    cases fl with
    | ret u => exact I.after hq
    | _ => exact False.elim hq
  | error er => exact hp pins H st er s' I hq

/-! ### a new instance -/
/-- C(..): a new instance without fields, then __init__ -/
def mkSp (c : Nat) (s : DSp) : DSp := fun ds h P R => ∀ p, h p = none → s (.ref p :: ds) (up h p (.ins c [])) (fun d h' => d = .non ∧ P (.ref p) h') R
def mkSp2 (c : Nat) (s : DSp2) : DSp2 := fun ds es h P R => ∀ p, h p = none → s (.ref p :: ds) es (up h p (.ins c [])) (fun d h' => d = .non ∧ P (.ref p) h') R
theorem made_rh {G : Pg} {H : Hp} {h : DH} {x dx : Addr} {c : Nat} (rh : RH G H h) (hx : H x = none) (hd : H dx = none) (ne : dx ≠ x) :
    RH G (L2.upd (L2.upd H dx (.own x)) x (.ins (G.ca c) dx [])) (up h x (.ins c [])) ∧ TupLe H (L2.upd (L2.upd H dx (.own x)) x (.ins (G.ca c) dx [])) := by
  have hx' : L2.upd H dx (.own x) x = none := by rw [upd_ne (Ne.symm ne)]; exact hx
  refine ⟨(rh.more hd).upd (fun z e => by rw [hx'] at e; cases e) ?_, (TupLe.new hd).trans (TupLe.new hx')⟩
  exact ⟨dx, [], by rw [upd_same, List.zip_nil_right], reps_nil, Nat.zero_le _⟩
/-- the class is called: the frame of type.__call__, the new objects (at dx, x), __init__ -/
theorem run_new {G : Pg} {X : Cx} {W : WX} {k c : Nat} {f : Addr} {fd : FuncData} {ps : List Str} {s : DSp} (S : Same5 G X) (tk : L2N.Takes X W) (M : Mk G.K (G.ca c) f) (hr : Room (k + 1) X.A)
    (F : FnOk G.P G.w G.K G.mg G.base (L2N.CX G.P G.w) k f fd ps (LSp G s)) {pins : List (Addr × Obj)} {st : Shared} {σ : St} {H : Hp} {Q : VK} {us : List Value} {kw : List (Str × Value)} {h : DH} {P : KD} {R : KX}
    (I : Inv X pins σ H st) (rh : RH G H h) (fin : Fin2 G P H Q) (lx : LX G W σ H R)
    (go : ∀ x dx : Addr, H x = none → H dx = none → dx ≠ x → ∃ (bv : List Value) (vs : List V) (rs : List D), (∀ s' : Shared, G.K.In s'.heap → BindsTo s' fd ⟨.ref x :: us, kw⟩ (ps.zip bv)) ∧ Vals vs bv ∧
      Reps G.K (L2.upd (L2.upd H dx (.own x)) x (.ins (G.ca c) dx [])) rs vs ∧ s rs (up h x (.ins c [])) (fun d h' => d = .non ∧ P (.ref x) h') R) :
    wpAny (model X.prog X.w) X.A (call (.ref (G.ca c)) us kw) (EP X pins σ Q) X.xe st := by
  have hx : H (st.heap.objs.size + 1) = none := I.hok.fresh (Nat.le_succ _)
  have hd : H st.heap.objs.size = none := I.hok.fresh (Nat.le_refl _)
  have ne : st.heap.objs.size ≠ st.heap.objs.size + 1 := Nat.ne_of_lt (Nat.lt_succ_self _)
  obtain ⟨rh', tl⟩ := made_rh (c := c) rh hx hd ne
  obtain ⟨bv, vs, rs, hto, hv, hr', hs⟩ := go _ _ hx hd ne
  have F' : FnOk X.prog X.w X.K X.mg X.base (L2N.CX X.prog X.w) k f fd ps (LSp G s) := by rw [S.K, S.P, S.w, S.mg, S.base]; exact F
  have hp := L2N.passAt tk σ
  have M1 := M.makes; have M2 := M.init; have M3 := M.fn
  rw [← S.K] at M1 M2 M3
  have I2 := Inv.made (C := G.ca c) I
  refine wpAny_call (make_map (f := f) I.kIn M1 M2 (beq_iff_eq.mp M3) ?_)
  refine codeAny_mono (F'.run _ X.stack _ _ ⟨.ref (st.heap.objs.size + 1) :: us, kw⟩ bv vs (fun v H3 => v = .non ∧ Q (.ref (st.heap.objs.size + 1)) H3) (WE W σ) (hr.make (G.ca c) us kw) (I2.env0.make (G.ca c) us kw) (hto _ (by rw [← S.K]; exact I2.kIn)) hv ?_) fun r s' hq => ?_
  · refine ⟨rs, _, _, R, hr', rh', hs, ?_, fun x' h' cls dd H' a b c d => lx x' h' cls dd H' a (tl.trans b) c d⟩
    rintro d h' v H' ⟨rfl, p⟩ tl' rh'' r
    exact ⟨r.non_, fin _ h' _ H' p (tl.trans tl') rh'' rep_ref⟩
  · cases r with
    | ok fl =>
      cases fl with
      | ret u =>
        obtain ⟨v, H', I3, rv', ev, q3⟩ := I2.after hq
        subst ev
        exact ⟨rv', ⟨.ref (st.heap.objs.size + 1), H', I3, rfl, q3⟩⟩
      | _ => exact False.elim hq
    | error er => exact hp pins _ _ er s' I2 hq
theorem call_mkP {G : Pg} {X : Cx} {W : WX} {k c : Nat} {f : Addr} {fd : FuncData} {ps : List Str} {s : DSp} (S : Same5 G X) (tk : L2N.Takes X W) (M : Mk G.K (G.ca c) f) (hr : Room (k + 1) X.A)
    (F : FnOk G.P G.w G.K G.mg G.base (L2N.CX G.P G.w) k f fd ps (LSp G s)) (hb : Binds G.K fd ps []) : CallP G X W (.ref (G.ca c)) (mkSp c s) := by
  intro pins st σ H ds vs us h P R Q I rv rs rh hs fin lx
  refine run_new S tk M hr F I rh fin lx fun x dx hx hd ne => ?_
  obtain ⟨rh', tl⟩ := made_rh (c := c) rh hx hd ne
  refine ⟨.ref x :: us, .ref x :: vs, .ref x :: ds, fun s' K' => ?_, .cons rfl rv, reps_cons rep_ref (Reps.keep tl _ _ rs), hs x (rh.fresh hx)⟩
  have hl := F.len (.ref x :: vs) _ (fun _ _ => True) (fun _ _ _ => True) ⟨_, _, _, _, reps_cons rep_ref (Reps.keep tl _ _ rs), rh', hs x (rh.fresh hx), fun _ _ _ _ _ _ _ _ => trivial, fun _ _ _ _ _ _ _ _ _ => trivial⟩
  have b := hb s' (.ref x :: us) K' (by rw [List.append_nil, ← hl, List.length_cons, List.length_cons, rv.length])
  rw [List.append_nil] at b
  exact b
theorem call_mkKP {G : Pg} {X : Cx} {W : WX} {k c n : Nat} {f : Addr} {fd : FuncData} {ps ks : List Str} {s : DSp} {ar : List D → List D → List D} (S : Same5 G X) (tk : L2N.Takes X W) (M : Mk G.K (G.ca c) f) (hr : Room (k + 1) X.A)
    (F : FnOk G.P G.w G.K G.mg G.base (L2N.CX G.P G.w) k f fd ps (LSp G s)) (hb : BindD G fd ps (n + 1) ks ar) : CallKP G X W (.ref (G.ca c)) ks (mkSp2 c (arSp (n + 1) ks.length ar s)) := by
  intro pins st σ H ds es vs zs us ws h P R Q I rv rz rs rt rh hs fin lx
  refine run_new S tk M hr F I rh fin lx fun x dx hx hd ne => ?_
  obtain ⟨rh', tl⟩ := made_rh (c := c) rh hx hd ne
  obtain ⟨l1, l2, hs⟩ := hs x (rh.fresh hx)
  obtain ⟨g, hto, hrel⟩ := hb
  have n1 : (Value.ref x :: us).length = n + 1 := by rw [← l1, List.length_cons, List.length_cons, ← rv.length, rs.length]
  have n2 : ws.length = ks.length := by rw [← rz.length, rt.length, l2]
  obtain ⟨vs', hv, hr'⟩ := hrel _ (.ref x :: ds) es (.ref x :: vs) zs (.ref x :: us) ws n1 n2 (.cons rfl rv) rz (reps_cons rep_ref (Reps.keep tl _ _ rs)) (Reps.keep tl _ _ rt)
  exact ⟨g (.ref x :: us) ws, vs', _, fun s' K' => hto s' _ ws K' n1 n2, hv, hr', hs⟩

/-! ### calls with keywords -/
section
variable {X : Cx} {G : Pg} {W : WX} {x : Str} {u : Value} {ks : List Str} {s : DSp2} {t tk : DA} {p pos kpos : Pos} {e : Expr} {es : List Expr} {kws : List Keyword} {nm : Option Str} {de : DE}
theorem sk_nil : PK X [] (LA G W cNil) := ⟨fun pos pins st σ H Q I h => pk_nil.run pos pins st σ H Q I (by
  obtain ⟨e, h, P, R, re, rh, t, fin, x⟩ := h
  exact fin [] h [] H t (TupLe.refl H) rh reps_nil)⟩
theorem sk_cons (ha : PE X e (LE G W de)) (hr : PK X kws (LA G W tk)) : PK X (⟨nm, e, kpos⟩ :: kws) (LA G W (cCons de tk)) := ⟨fun pos pins st σ H Q I h => (pk_cons ha hr).run pos pins st σ H Q I (by
  obtain ⟨e, h, P, R, re, rh, t, fin, x⟩ := h
  refine LE.mk re rh t x fun d h1 v H1 t1 tl1 rh1 r1 re1 x1 => ?_
  refine LA.mk re1 rh1 t1 x1 fun ds h2 vs H2 t2 tl2 rh2 r2 re2 x2 => ?_
  exact fin _ h2 _ H2 t2 (tl1.trans tl2) rh2 (reps_cons (Rep.keep tl2 d v r1) r2))⟩
theorem se_callK (hg : Gl X x) (hm : X.mg x = some u) (hk : PySem.W.keepIn X.K u = true) (hc : CallKP G X W u ks s) (ha : PA X (e :: es) (LA G W t)) (hkw : PK X kws (LA G W tk)) (hdb : (x == ("__debug__" : Str)) = false)
    (he : starEach (e :: es) X.env = (false, eval e X.env) :: starEach es X.env) (hall : (backToKw pos (keywordEach kws X.env)).all (·.1.isSome) = true) (hks : (backToKw pos (keywordEach kws X.env)).filterMap (·.1) = ks)
    (hpl : ((backTo pos (starEach (e :: es) X.env)).any (·.1) || (backToKw pos (keywordEach kws X.env)).any (·.1.isNone)) = false) : PE X (.Call (.Name x p) (e :: es) kws pos) (LE G W (cCallK s t tk)) := by
  refine ⟨fun pins st σ H Q I h => ?_⟩
  refine wpAny_Call_Name_kw (ld_glob I hg hm ?_ hdb)
  obtain ⟨en, dh, P, R, re, rh, tt, fin, lx⟩ := h
  refine PySem.W.callWith_KW (h₀ := X.base) I.ok.mod.kin hk hall (thn (ha.run pos pins st σ H (fun vs H1 => ∃ ds h1, tk en h1 (fun es h2 => s ds es h2 P R) R ∧ TupLe H H1 ∧ RH G H1 h1 ∧ Reps G.K H1 ds vs ∧ RE G.K H1 en σ ∧ LX G W σ H1 R) I ?_) fun us s1 ⟨vs, H1, I1, r, ds, h1, q, tl, rh1, rs, re1, lx1⟩ => ?_) hpl he
  · exact LA.mk re rh tt lx fun ds h1 vs H1 t1 tl1 rh1 r1 re1 x1 => ⟨ds, h1, t1, tl1, rh1, r1, re1, x1⟩
  · refine thn (hkw.run pos pins s1 σ H1 (fun zs H2 => ∃ es h2, s ds es h2 P R ∧ TupLe H1 H2 ∧ RH G H2 h2 ∧ Reps G.K H2 es zs) I1 ?_) fun ws s2 ⟨zs, H2, I2, r2, es', h2, q2, tl2, rh2, rs2⟩ => ⟨I2.kIn, ?_⟩
    · exact LA.mk re1 rh1 q lx1 fun ds2 h2 vs H2 t1 tl1 rh1 r1 re1 x1 => ⟨ds2, h2, t1, tl1, rh1, r1⟩
    · rw [hks]
      exact hc pins s2 σ H2 ds es' vs zs us ws h2 P R Q I2 r r2 (Reps.keep tl2 _ _ rs) rs2 rh2 q2 (fun d' h' v' H' p tl' => fin d' h' v' H' p (tl.trans (tl2.trans tl'))) (lx.later (tl.trans tl2))
theorem se_callK0 (hg : Gl X x) (hm : X.mg x = some u) (hk : PySem.W.keepIn X.K u = true) (hc : CallKP G X W u ks s) (hkw : PK X kws (LA G W tk)) (hdb : (x == ("__debug__" : Str)) = false)
    (hall : (backToKw pos (keywordEach kws X.env)).all (·.1.isSome) = true) (hks : (backToKw pos (keywordEach kws X.env)).filterMap (·.1) = ks)
    (hpl : ((backTo pos (starEach [] X.env)).any (·.1) || (backToKw pos (keywordEach kws X.env)).any (·.1.isNone)) = false) : PE X (.Call (.Name x p) [] kws pos) (LE G W (cCallK s cNil tk)) := by
  refine ⟨fun pins st σ H Q I h => ?_⟩
  refine wpAny_Call_Name_kw (ld_glob I hg hm ?_ hdb)
  obtain ⟨en, dh, P, R, re, rh, tt, fin, lx⟩ := h
  refine PySem.W.callWith_KW0 (h₀ := X.base) I.ok.mod.kin hk hall ?_ hpl
  refine thn (hkw.run pos pins st σ H (fun zs H2 => ∃ es h2, s [] es h2 P R ∧ TupLe H H2 ∧ RH G H2 h2 ∧ Reps G.K H2 es zs) I ?_) fun ws s2 ⟨zs, H2, I2, r2, es', h2, q2, tl2, rh2, rs2⟩ => ⟨I2.kIn, ?_⟩
  · exact LA.mk re rh tt lx fun ds2 h2 vs H2 t1 tl1 rh1 r1 re1 x1 => ⟨ds2, h2, t1, tl1, rh1, r1⟩
  · rw [hks]
    exact hc pins s2 σ H2 [] es' [] zs [] ws h2 P R Q I2 .nil r2 reps_nil rs2 rh2 q2 (fun d' h' v' H' p tl' => fin d' h' v' H' p (tl2.trans tl')) (lx.later tl2)
end

/-! ### methods, properties -/
/-- o.m(..) of an instance of the class c -/
def cMeth1 (o : DE) (c : Nat) (s : DSp) (t : DA) : DE := fun e h P R => o e h (fun x h1 => match x with
  | .ref p => match h1 p with
    | some (.ins c' _) => c' = c ∧ t e h1 (fun ds h2 => s (x :: ds) h2 P R) R
    | _ => False
  | _ => False) R
/-- .. of one of these -/
def cMeth (o : DE) (tb : List (Nat × DSp)) (t : DA) : DE := fun e h P R => ∃ q ∈ tb, cMeth1 o q.1 q.2 t e h P R
/-- o.f, a property -/
def cProp1 (o : DE) (c : Nat) (s : DSp) : DE := fun e h P R => o e h (fun x h1 => match x with
  | .ref p => match h1 p with
    | some (.ins c' _) => c' = c ∧ s [x] h1 P (fun _ _ => False)
    | _ => False
  | _ => False) R
def cProp (o : DE) (tb : List (Nat × DSp)) : DE := fun e h P R => ∃ q ∈ tb, cProp1 o q.1 q.2 e h P R
/-- the class c has the method -/
structure MethOk (G : Pg) (m : Str) (c : Nat) (f : Addr) : Prop where
  cl : Cls G.K (G.ca c)
  mt : Meth G.K (G.ca c) m f
  no : m ∉ G.fn c
  ne : m = ("__eq__" : Str) → PySem.W.findIn G.K (.ref (G.ca c)) "__ne__" = some (some (.builtin "object.__ne__")) ∧ PySem.W.mroIn G.K (G.ca c) (.type "object") = some true
theorem zip_none {ns : List Str} {m : Str} (h : m ∉ ns) : ∀ (vs : List V), (ns.zip vs).lookup m = none := by
  induction ns with
  | nil => intro vs; rfl
  | cons n ns ih =>
    intro vs
    cases vs with
    | nil => rfl
    | cons v vs =>
      have h1 : ¬ m = n := fun z => h (by rw [z]; exact List.mem_cons_self)
      have h2 : m ∉ ns := fun z => h (List.mem_cons_of_mem _ z)
      have ne : (m == n) = false := by rw [beq_eq_false_iff_ne]; exact h1
      show List.lookup m ((n, v) :: ns.zip vs) = none
      simp only [List.lookup, ne]
      exact ih h2 vs
section
variable {X : Cx} {G : Pg} {W : WX} {o e : Expr} {es : List Expr} {m : Str} {c k : Nat} {f : Addr} {s : DSp} {t : DA} {do_ : DE} {apos pos : Pos} {pl : Sem Bool}
theorem se_meth1 (hK : X.K = G.K) (M : MethOk G m c f) (hc : CallP G X W (.ref f) s) (ho : PE X o (LE G W do_)) (ha : PA X (e :: es) (LA G W t))
    (hst : starEach (e :: es) X.env = (false, eval e X.env) :: starEach es X.env) (hpl : (backTo pos (starEach es X.env)).any (·.1) = false)
    (ht : eval (.Call (.Attribute o m apos) (e :: es) [] pos) X.env = (do
      let recv ← eval o X.env
      standAt apos.atName
      let (fn, own) ← holding [recv] (getMethod recv m pl)
      callWith pos fn own (backTo pos (starEach (e :: es) X.env)) (backToKw pos (keywordEach [] X.env)))) :
    PE X (.Call (.Attribute o m apos) (e :: es) [] pos) (LE G W (cMeth1 do_ c s t)) := by
  refine ⟨fun pins st σ H Q I h => ?_⟩
  obtain ⟨en, dh, P, R, re, rh, tt, fin, lx⟩ := h
  have cl := M.cl; have mt := M.mt
  rw [← hK] at cl mt
  refine PySem.W.methodCall_KW (pl := pl) (thn (ho.run pins st σ H (fun v H1 => ∃ p dx ws h1, v = .ref p ∧ H1 p = some (.ins (G.ca c) dx ((G.fn c).zip ws)) ∧ t en h1 (fun ds h2 => s (.ref p :: ds) h2 P R) R ∧ TupLe H H1 ∧ RH G H1 h1 ∧ RE G.K H1 en σ ∧ LX G W σ H1 R) I ?_) fun u s1 ⟨v, H1, I1, rx, p, dx, ws, h1, ev, ep, q, tl, rh1, re1, lx1⟩ => ?_) ht
  · refine LE.mk re rh tt lx fun d h1 v H1 t1 tl1 rh1 r1 re1 x1 => ?_
    cases d with
    | ref p =>
      simp only at t1
      split at t1
      · rename_i c' fs ep
        obtain ⟨rfl, t1⟩ := t1
        obtain ⟨dx, ws, e1, _⟩ := rh1 _ _ ep
        exact ⟨p, dx, ws, h1, r1.ref_, e1, t1, tl1, rh1, re1, x1⟩
      · exact t1.elim
    | _ => exact t1.elim
  · subst ev
    obtain rfl : u = Value.ref p := rx
    refine getmeth_ok I1 ep cl mt (zip_none M.no ws) ?_
    refine PySem.W.callWith_K (first := [.ref p]) (h₀ := X.base) I.ok.mod.kin mt.kp (thn (ha.run pos pins s1 σ H1 (fun vs H2 => ∃ ds h2, s (.ref p :: ds) h2 P R ∧ TupLe H1 H2 ∧ RH G H2 h2 ∧ Reps G.K H2 ds vs) I1 ?_) fun us s2 ⟨vs, H2, I2, r, ds, h2, q2, tl2, rh2, rs2⟩ => ⟨I2.kIn, ?_⟩) hst hpl
    · exact LA.mk re1 rh1 q lx1 fun ds h2 vs H2 t1 tl1 rh1 r1 re1 x1 => ⟨ds, h2, t1, tl1, rh1, r1⟩
    · exact hc pins s2 σ H2 (.ref p :: ds) (.ref p :: vs) (.ref p :: us) h2 P R Q I2 (.cons rfl r) (reps_cons rep_ref rs2) rh2 q2 (fun d' h' v' H' p tl' => fin d' h' v' H' p (tl.trans (tl2.trans tl'))) (lx1.later tl2)
theorem se_meth0 (hK : X.K = G.K) (M : MethOk G m c f) (hc : CallP G X W (.ref f) s) (ho : PE X o (LE G W do_))
    (ht : eval (.Call (.Attribute o m apos) [] [] pos) X.env = (do
      let recv ← eval o X.env
      standAt apos.atName
      let (fn, own) ← holding [recv] (getMethod recv m pl)
      callWith pos fn own (backTo pos (starEach [] X.env)) (backToKw pos (keywordEach [] X.env)))) :
    PE X (.Call (.Attribute o m apos) [] [] pos) (LE G W (cMeth1 do_ c s cNil)) := by
  refine ⟨fun pins st σ H Q I h => ?_⟩
  obtain ⟨en, dh, P, R, re, rh, tt, fin, lx⟩ := h
  have cl := M.cl; have mt := M.mt
  rw [← hK] at cl mt
  refine PySem.W.methodCall_KW (pl := pl) (thn (ho.run pins st σ H (fun v H1 => ∃ p dx ws h1, v = .ref p ∧ H1 p = some (.ins (G.ca c) dx ((G.fn c).zip ws)) ∧ s [.ref p] h1 P R ∧ TupLe H H1 ∧ RH G H1 h1 ∧ LX G W σ H1 R) I ?_) fun u s1 ⟨v, H1, I1, rx, p, dx, ws, h1, ev, ep, q, tl, rh1, lx1⟩ => ?_) ht
  · refine LE.mk re rh tt lx fun d h1 v H1 t1 tl1 rh1 r1 re1 x1 => ?_
    cases d with
    | ref p =>
      simp only at t1
      split at t1
      · rename_i c' fs ep
        obtain ⟨rfl, t1⟩ := t1
        obtain ⟨dx, ws, e1, _⟩ := rh1 _ _ ep
        exact ⟨p, dx, ws, h1, r1.ref_, e1, t1, tl1, rh1, x1⟩
      · exact t1.elim
    | _ => exact t1.elim
  · subst ev
    obtain rfl : u = Value.ref p := rx
    refine getmeth_ok I1 ep cl mt (zip_none M.no ws) ?_
    exact PySem.W.callWith_K0 (first := [.ref p]) I1.kIn mt.kp (hc pins s1 σ H1 [.ref p] [.ref p] [.ref p] h1 P R Q I1 (.cons rfl .nil) (reps_cons rep_ref reps_nil) rh1 q (fun d' h' v' H' p tl' => fin d' h' v' H' p (tl.trans tl')) lx1)
/-- one of several -/
theorem pe_some {α : Type} {e : Expr} {tb : List α} {f : α → DE} (h : ∀ q ∈ tb, PE X e (LE G W (f q))) : PE X e (LE G W fun en h P R => ∃ q ∈ tb, f q en h P R) := ⟨fun pins st σ H Q I l => by
  obtain ⟨en, dh, P, R, re, rh, ⟨q, hq, tt⟩, fin, lx⟩ := l
  exact (h q hq).run pins st σ H Q I ⟨en, dh, P, R, re, rh, tt, fin, lx⟩⟩
theorem se_prop1 {k : Nat} {p : Addr} {fd : FuncData} {ps : List Str} (S : Same5 G X) (cl : Cls G.K (G.ca c)) (hp : PropOf G.K (G.ca c) m p f) (F : FnOk G.P G.w G.K G.mg G.base (L2N.CX G.P G.w) k f fd ps (LSp G s)) (hb : Binds G.K fd ps []) (hr : Room (k + 1) X.A)
    (hab : attributeBase o m X.env (eval o X.env) = eval o X.env) (ho : PE X o (LE G W do_)) : PE X (.Attribute o m pos) (LE G W (cProp1 do_ c s)) := by
  have F' : FnOk X.prog X.w X.K X.mg X.base (L2N.CX X.prog X.w) k f fd ps (LSp G s) := by rw [S.K, S.P, S.w, S.mg, S.base]; exact F
  have cl' := cl; have hp' := hp; have hb' := hb
  rw [← S.K] at cl' hp' hb'
  refine pe_imp (pe_prop (E := E0) ho cl' hp' F' hr hb' .nil passN hab) ?_
  rintro σ H Q ⟨en, h, P, R, re, rh, t, fin, x⟩
  refine LE.mk re rh t x fun d h1 v H1 t1 tl1 rh1 r1 re1 x1 => ?_
  cases d with
  | ref p =>
    simp only at t1
    split at t1
    · rename_i c' fs ep
      obtain ⟨rfl, t1⟩ := t1
      obtain ⟨dx, ws, e1, _⟩ := rh1 _ _ ep
      exact ⟨p, dx, _, r1.ref_, e1, [.ref p], h1, P, _, reps_cons rep_ref reps_nil, rh1, t1, fun d' h' v' H' p' tl' => fin d' h' v' H' p' (tl1.trans tl'), fun _ _ _ _ _ z => z.elim⟩
    · exact t1.elim
  | _ => exact t1.elim
end
end DW

/-! DW, part 6: targets, statements, loops. -/
namespace DW
open PySem L2

/-! ### targets -/
abbrev DG := D → DSt → DH → (DSt → DH → Prop) → Prop
abbrev DGs := List D → DSt → DH → (DSt → DH → Prop) → Prop
def gN (i : Nat) : DG := fun d e h Q => Q (e.set i (some d)) h
def gsNil : DGs := fun ds e h Q => ds = [] ∧ Q e h
def gsCons (g : DG) (r : DGs) : DGs := fun ds e h Q => match ds with
  | d :: ds => g d e h fun e1 h1 => r ds e1 h1 Q
  | [] => False
/-- a, b, .. = a tuple, or a list -/
def gT (n : Nat) (g : DGs) : DG := fun d e h Q => match d with
  | .tup ds => ds.length = n ∧ g ds e h Q
  | .ktup ds => ds.length = n ∧ g ds e h Q
  | _ => False
def gBad : DG := fun _ _ _ _ => False
def gsBad : DGs := fun _ _ _ _ => False
/-- o[i] = v -/
def gS (o i : DE) (f : D → D → D → DH → (DH → Prop) → Prop) : DG := fun d e h Q => o e h (fun x h1 => i e h1 (fun y h2 => f x y d h2 fun h3 => Q e h3) fun _ _ => False) fun _ _ => False
/-- only the slots S differ -/
def Wip (S : List Nat) (σ σ' : St) : Prop := ∀ vs : List Nat, (∀ i ∈ S, i ∈ vs) → wipe σ' vs = wipe σ vs
theorem wipe_get (σ : St) (j : Nat) : ∀ vs : List Nat, (wipe σ vs)[j]? = if j ∈ vs then (σ[j]?).map (fun _ => none) else σ[j]?
  | [] => by simp [wipe]
  | v :: vs => by
    have ih := wipe_get σ j vs
    unfold wipe
    by_cases e : v = j
    · subst e
      rw [if_pos List.mem_cons_self]
      by_cases l : v < σ.length
      · rw [List.getElem?_set_self (by rw [wipe_length]; exact l), List.getElem?_eq_getElem l]; rfl
      · rw [List.getElem?_eq_none (by rw [List.length_set, wipe_length]; omega), List.getElem?_eq_none (by omega)]; rfl
    · rw [List.getElem?_set_ne e, ih]
      by_cases m : j ∈ vs
      · rw [if_pos m, if_pos (List.mem_cons_of_mem _ m)]
      · rw [if_neg m, if_neg (fun z => by rcases List.mem_cons.mp z with q | q; exact e q.symm; exact m q)]
theorem Wip.refl (S : List Nat) (σ : St) : Wip S σ σ := fun _ _ => rfl
theorem Wip.set {σ : St} {i : Nat} {x : Option V} : Wip [i] σ (σ.set i x) := fun vs h => by
  have hi := h i List.mem_cons_self
  refine List.ext_getElem? fun j => ?_
  rw [wipe_get, wipe_get]
  by_cases e : i = j
  · subst e
    rw [if_pos hi, if_pos hi]
    by_cases l : i < σ.length
    · rw [List.getElem?_set_self l, List.getElem?_eq_getElem l]; rfl
    · rw [List.getElem?_eq_none (by rw [List.length_set]; omega), List.getElem?_eq_none (by omega)]
  · rw [List.getElem?_set_ne e]
theorem Wip.app {S T : List Nat} {σ σ1 σ2 : St} (a : Wip S σ σ1) (b : Wip T σ1 σ2) : Wip (S ++ T) σ σ2 := fun vs h => (b vs fun i m => h i (List.mem_append_right _ m)).trans (a vs fun i m => h i (List.mem_append_left _ m))
def LQ (G : Pg) (Q : St → Hp → Prop) (Q' : DSt → DH → Prop) (H : Hp) : Prop := ∀ e' h' σ' H', Q' e' h' → TupLe H H' → RH G H' h' → RE G.K H' e' σ' → Q σ' H'
def LG (G : Pg) (S : List Nat) (g : DG) : TG := fun v σ H Q => ∃ d e h Q', Rep G.K H d v ∧ RE G.K H e σ ∧ RH G H h ∧ g d e h Q' ∧ LQ G (fun σ' H' => Wip S σ σ' → Q σ' H') Q' H
def LGs (G : Pg) (S : List Nat) (g : DGs) : TGs := fun vs σ H Q => ∃ ds e h Q', Reps G.K H ds vs ∧ RE G.K H e σ ∧ RH G H h ∧ g ds e h Q' ∧ LQ G (fun σ' H' => Wip S σ σ' → Q σ' H') Q' H
section
variable {X : Cx} {G : Pg} {W : WX} {pos : Pos}
theorem pg_imp {e : Expr} {t t' : TG} (h : PG X e t) (i : ∀ v σ H Q, t' v σ H Q → t v σ H Q) : PG X e t' := ⟨fun pins s σ H v u Q I r q => h.run pins s σ H v u Q I r (i _ _ _ _ q)⟩
theorem pgs_imp {e : List Expr} {t t' : TGs} (h : PGs X e t) (i : ∀ v σ H Q, t' v σ H Q → t v σ H Q) : PGs X e t' := ⟨fun pins s σ H v u Q I r q => h.run pins s σ H v u Q I r (i _ _ _ _ q)⟩
theorem sg_bad {e : Expr} : PG X e (LG G [] gBad) := ⟨fun _ _ _ _ _ _ _ _ _ ⟨_, _, _, _, _, _, _, z, _⟩ => z.elim⟩
theorem sgs_bad {e : List Expr} : PGs X e (LGs G [] gsBad) := ⟨fun _ _ _ _ _ _ _ _ _ ⟨_, _, _, _, _, _, _, z, _⟩ => z.elim⟩
theorem sg_name {i : Nat} {x : Str} (hN : X.N.Nodup) (hi : X.N[i]? = some x) (hx : Loc X.env.scope x) (hf : X.fn x = true ∨ X.env.scope.names.lookup x = some .local) : PG X (.Name x pos) (LG G [i] (gN i)) := by
  refine pg_imp (pg_name hN hi hx hf) ?_
  rintro v σ H Q ⟨d, e, h, Q', r, re, rh, q, l⟩
  exact l _ h _ H q (TupLe.refl H) rh (re.set r) Wip.set
theorem sgs_nil : PGs X [] (LGs G [] gsNil) := by
  refine pgs_imp pgs_nil ?_
  rintro v σ H Q ⟨d, e, h, Q', r, re, rh, ⟨rfl, q⟩, l⟩
  exact ⟨r.nil_, l _ h _ H q (TupLe.refl H) rh re (Wip.refl _ _)⟩
theorem LQ.later {Q : St → Hp → Prop} {Q' : DSt → DH → Prop} {H H1 : Hp} (l : LQ G Q Q' H) (t : TupLe H H1) : LQ G Q Q' H1 := fun e' h' σ' H' z t' => l e' h' σ' H' z (t.trans t')
theorem sgs_cons {e : Expr} {es : List Expr} {g : DG} {r : DGs} (hs : (assignEach (e :: es) X.env).map (fun x => x.2) = assign e X.env :: (assignEach es X.env).map (fun x => x.2)) {S T : List Nat} (h1 : PG X e (LG G S g)) (h2 : PGs X es (LGs G T r)) : PGs X (e :: es) (LGs G (S ++ T) (gsCons g r)) := by
  refine pgs_imp (pgs_cons h1 h2 hs) ?_
  rintro v σ H Q ⟨ds, en, h, Q', rs, re, rh, q, l⟩
  cases ds with
  | nil => exact q.elim
  | cons d ds =>
    obtain ⟨w, us, rfl, p, rs'⟩ := rs.cons_
    refine ⟨w, us, rfl, d, en, h, _, p, re, rh, q, fun e1 h1 σ1 H1 q1 tl1 rh1 re1 w1 => ?_⟩
    exact ⟨ds, e1, h1, Q', Reps.keep tl1 _ _ rs', re1, rh1, q1, fun e' h' σ' H' q' tl' rh' re' w' => l e' h' σ' H' q' (tl1.trans tl') rh' re' (w1.app w')⟩
theorem sg_tup {es : List Expr} {k n : Nat} {S : List Nat} {g : DGs} (hK : X.K = G.K) (hc : X.calm = true) (h : PGs X es (LGs G S g)) (hn : (assignEach es X.env).length = n) (hst : (assignEach es X.env).findIdx? (·.1) = none) : PG X (.Tuple es k pos) (LG G S (gT n g)) := by
  refine pg_imp (pg_tup hc h hn hst) ?_
  rintro v σ H Q ⟨d, en, h, Q', r, re, rh, q, l⟩
  cases d with
  | tup ds =>
    obtain ⟨a, vs, rfl, s, rs⟩ := r.tup_
    exact ⟨a, vs, rfl, by rw [hK]; exact s, by rw [rs.length]; exact q.1, ds, en, h, Q', rs, re, rh, q.2, l⟩
  | ktup ds =>
    obtain ⟨a, vs, rfl, s, rs⟩ := r.ktup_
    exact ⟨a, vs, rfl, by rw [hK]; exact s, by rw [rs.length]; exact q.1, ds, en, h, Q', rs, re, rh, q.2, l⟩
  | _ => exact q.elim
end

/-! ### statements -/
def sSeq (t u : DS) : DS := fun D e h => t { D with nx := u D } e h
def sNext : DS := fun D e h => D.nx e h
def sBrk : DS := fun D e h => D.bk e h
def sCnt : DS := fun D e h => D.ct e h
def sDrop (a : DE) : DS := fun D e h => a e h (fun _ h1 => D.nx e h1) fun x h1 => D.ex x e h1
def sRet (a : DE) : DS := fun D e h => a e h D.rt fun x h1 => D.ex x e h1
def sRetN : DS := fun D _ h => D.rt .non h
def sIf (c : DT) (t u : DS) : DS := fun D e h => c e h (fun b h1 => if b = true then t D e h1 else u D e h1) fun x h1 => D.ex x e h1
def sAsg (a : DE) (g : DG) : DS := fun D e h => a e h (fun d h1 => g d e h1 D.nx) fun x h1 => D.ex x e h1
def sBad : DS := fun _ _ _ => False
/-- a, b = e1, e2 -/
def sPar (i j : Nat) (t : DA) : DS := fun D e h => t e h (fun ds h1 => match ds with
  | [d, c] => D.nx ((e.set i (some d)).set j (some c)) h1
  | _ => False) fun x h1 => D.ex x e h1
/-- a field's store: at the place i of the class c (the next place, or one that stands) -/
def putI (fs : List D) (i : Nat) (d : D) : Option (List D) := if i < fs.length then some (fs.set i d) else if i = fs.length then some (fs ++ [d]) else none
def sFld (o a : DE) (ix : List (Nat × Nat)) : DS := fun D e h => a e h (fun d h1 => o e h1 (fun x h2 => match x with
  | .ref p => match h2 p with
    | some (.ins c fs) => match ix.lookup c with
      | some i => match putI fs i d with
        | some fs' => D.nx e (up h2 p (.ins c fs'))
        | none => False
      | none => False
    | _ => False
  | _ => False) fun x h2 => D.ex x e h2) fun x h1 => D.ex x e h1
/-- x[i] = v: a list's or a dict's -/
def putM {κ : Type} [DecidableEq κ] (kvs : List (κ × D)) (k : κ) (v : D) : List (κ × D) := if (kvs.any fun kv => decide (kv.1 = k)) = true then kvs.map fun kv => if kv.1 = k then (kv.1, v) else kv else kvs ++ [(k, v)]
def setD (x y d : D) (h : DH) (Q : DH → Prop) : Prop := match x with
  | .ref a => match h a with
    | some (.lst xs) => ∃ i j, y = .int i ∧ ixN xs.length i = some j ∧ Q (up h a (.lst (xs.set j d)))
    | some (.dK kvs) => ∃ k, y.key? = some k ∧ kvs.length < sizeLine ∧ Q (up h a (.dK (putM kvs k d)))
    | some (.dT kvs) => ∃ k, y.tkey? = some k ∧ kvs.length < sizeLine ∧ Q (up h a (.dT (putM kvs k d)))
    | some (.dX kvs) => ∃ m k, y.xkey? = some (m, k) ∧ kvs.length < sizeLine ∧ Q (up h a (.dX (putX kvs k m d)))
    | _ => False
  | _ => False
def sSub (o i a : DE) : DS := fun D e h => a e h (fun d h1 => o e h1 (fun x h2 => i e h2 (fun y h3 => setD x y d h3 fun h4 => D.nx e h4) fun x h3 => D.ex x e h3) fun x h2 => D.ex x e h2) fun x h1 => D.ex x e h1
/-- while: at most n turns -/
def whN (c : DT) (b : DS) : Nat → DEnds → DSt → DH → Prop
  | 0, _, _, _ => False
  | n + 1, D, e, h => c e h (fun k h1 => if k = true then b { D with nx := whN c b n D, ct := whN c b n D, bk := D.nx } e h1 else D.nx e h1) fun x h1 => D.ex x e h1
def sWhile (c : DT) (b : DS) : DS := fun D e h => ∃ n, whN c b n D e h

section
variable {X : Cx} {G : Pg} {W : WX} {a : Expr} {da db dc : DE} {dt : DT} {t u : DS} {pos : Pos}
theorem ss_bad {s : Stmt} : PS X s (LS G W sBad) := ⟨fun _ _ _ _ _ _ ⟨_, _, _, _, _, z, _⟩ => z.elim⟩
theorem sss_bad {s : List Stmt} : PSs X s (LS G W sBad) := ⟨fun _ _ _ _ _ _ ⟨_, _, _, _, _, z, _⟩ => z.elim⟩
/-- exceptions of a part, in the ends' words -/
theorem LEnds.x {D : Ends} {D' : DEnds} {H : Hp} {e : DSt} {σ : St} (l : LEnds G W D D' H) (re : RE G.K H e σ) : LX G W σ H fun x h => D'.ex x e h := fun x h' cls dd H' z tl rh rx => l.ex x e h' cls dd σ H' z tl rh (re.keep tl) rx
theorem sss_nil : PSs X [] (LS G W sNext) := pss_imp pss_nil (by
  rintro D σ H ⟨e, h, D', re, rh, z, l⟩
  exact l.nx e h σ H z (TupLe.refl H) rh re)
theorem sss_cons {s : Stmt} {r : List Stmt} (h1 : PS X s (LS G W t)) (h2 : PSs X r (LS G W u)) : PSs X (s :: r) (LS G W (sSeq t u)) := pss_imp (pss_cons h1 h2) (by
  rintro D σ H ⟨e, h, D', re, rh, z, l⟩
  refine ⟨e, h, { D' with nx := u D' }, re, rh, z, ⟨fun e1 h1 σ1 H1 z1 tl1 rh1 re1 => ?_, l.rt, l.bk, l.ct, l.ex⟩⟩
  exact ⟨e1, h1, D', re1, rh1, z1, l.later tl1⟩)
theorem sss_one {s : Stmt} (h1 : PS X s (LS G W t)) : PSs X [s] (LS G W t) := pss_one h1
theorem ss_pass : PS X (.Pass pos) (LS G W sNext) := ps_imp ps_pass (by
  rintro D σ H ⟨e, h, D', re, rh, z, l⟩
  exact l.nx e h σ H z (TupLe.refl H) rh re)
theorem ss_brk : PS X (.Break pos) (LS G W sBrk) := ps_imp ps_break (by
  rintro D σ H ⟨e, h, D', re, rh, z, l⟩
  exact l.bk e h σ H z (TupLe.refl H) rh re)
theorem ss_cnt : PS X (.Continue pos) (LS G W sCnt) := ps_imp ps_continue (by
  rintro D σ H ⟨e, h, D', re, rh, z, l⟩
  exact l.ct e h σ H z (TupLe.refl H) rh re)
theorem ss_drop (hs : swapsWith a none pos.line X.env = pure false) (ha : PE X a (LE G W da)) : PS X (.Expr a pos) (LS G W (sDrop da)) := ps_imp (ps_expr ha hs) (by
  rintro D σ H ⟨e, h, D', re, rh, z, l⟩
  refine LE.mk re rh z (l.x re) fun d h1 v H1 t1 tl1 rh1 r1 re1 x1 => ?_
  exact l.nx e h1 σ H1 t1 tl1 rh1 re1)
theorem ss_doc {x j pos'} : PS X (.Expr (.Constant (.str x) j pos) pos') (LS G W sNext) := ps_imp ps_doc (by
  rintro D σ H ⟨e, h, D', re, rh, z, l⟩
  exact l.nx e h σ H z (TupLe.refl H) rh re)
theorem ss_ret (ha : PE X a (LE G W da)) : PS X (.Return (some a) pos) (LS G W (sRet da)) := ps_imp (ps_ret ha) (by
  rintro D σ H ⟨e, h, D', re, rh, z, l⟩
  exact LE.mk re rh z (l.x re) fun d h1 v H1 t1 tl1 rh1 r1 re1 x1 => l.rt d h1 v H1 t1 tl1 rh1 r1)
theorem ss_retN : PS X (.Return none pos) (LS G W sRetN) := ps_imp ps_retN (by
  rintro D σ H ⟨e, h, D', re, rh, z, l⟩
  exact l.rt .non h .non H z (TupLe.refl H) rh rep_non)
theorem ss_if {c : Expr} {x y : List Stmt} (hc : PT X c (LT G W dt)) (hx : PSs X x (LS G W t)) (hy : PSs X y (LS G W u)) : PS X (.If c x y pos) (LS G W (sIf dt t u)) := ps_imp (ps_if hc hx hy) (by
  rintro D σ H ⟨e, h, D', re, rh, z, l⟩
  refine LT.mk re rh z (l.x re) fun b h1 H1 t1 tl1 rh1 re1 x1 => ?_
  cases b with
  | true =>
    rw [if_pos rfl] at t1 ⊢
    exact ⟨e, h1, D', re1, rh1, t1, l.later tl1⟩
  | false =>
    rw [if_neg Bool.false_ne_true] at t1 ⊢
    exact ⟨e, h1, D', re1, rh1, t1, l.later tl1⟩)
theorem ss_asg {tg : Expr} {g : DG} (h1 : (assignEach [tg] X.env).map (fun x => x.2) = [assign tg X.env]) (hs : swapsWithSole [tg] a pos.line X.env = pure false) (hw : swappedStores [tg] a X.env = pure none) (ha : PE X a (LE G W da)) {S : List Nat} (hg : PG X tg (LG G S g)) : PS X (.Assign [tg] a pos) (LS G W (sAsg da g)) := ps_imp (ps_asg ha hg hs hw h1) (by
  rintro D σ H ⟨e, h, D', re, rh, z, l⟩
  refine LE.mk re rh z (l.x re) fun d h1 v H1 t1 tl1 rh1 r1 re1 x1 => ?_
  exact ⟨d, e, h1, D'.nx, r1, re1, rh1, t1, fun e' h' σ' H' z' tl' rh' re' _ => l.nx e' h' σ' H' z' (tl1.trans tl') rh' re'⟩)
theorem RepF.none_ {κ : Type} {K : PySem.W.Frag} {H : Hp} {ws : List (κ × V)} (h : RepF K H [] ws) : ws = [] := h
theorem zip_put {ns : List Str} (nd : ns.Nodup) {f : Str} {v : V} : ∀ {vs : List V} {i : Nat}, ns[i]? = some f → i < vs.length → putF f v (ns.zip vs) = ns.zip (vs.set i v) := by
  induction ns with
  | nil => intro vs i e; simp at e
  | cons n ns ih =>
    intro vs i e l
    have nn := List.nodup_cons.mp nd
    cases vs with
    | nil => simp at l
    | cons w vs =>
      cases i with
      | zero =>
        simp at e; subst e
        show (if n = n then (n, v) :: ns.zip vs else _) = _
        rw [if_pos rfl]; rfl
      | succ i =>
        simp at e l
        have ne : ¬ n = f := fun z => nn.1 (by rw [z]; exact List.mem_of_getElem? e)
        show (if n = f then _ else (n, w) :: putF f v (ns.zip vs)) = _
        rw [if_neg ne, ih nn.2 e l]; rfl
theorem zip_add {ns : List Str} (nd : ns.Nodup) {f : Str} {v : V} : ∀ {vs : List V}, ns[vs.length]? = some f → putF f v (ns.zip vs) = ns.zip (vs ++ [v]) := by
  induction ns with
  | nil => intro vs e; simp at e
  | cons n ns ih =>
    intro vs e
    have nn := List.nodup_cons.mp nd
    cases vs with
    | nil =>
      simp at e; subst e
      rw [List.zip_nil_right]
      simp [putF, List.zip_cons_cons]
    | cons w vs =>
      simp at e
      have ne : ¬ n = f := fun z => nn.1 (by rw [z]; exact List.mem_of_getElem? e)
      show (if n = f then _ else (n, w) :: putF f v (ns.zip vs)) = _
      rw [if_neg ne, ih nn.2 e]; rfl
theorem ss_fld {o : Expr} {f : Str} {ix : List (Nat × Nat)} {pos' : Pos} (hK : X.K = G.K) (hf : FldOk G f ix) (hz : ∀ c, (G.fn c).length < 1000) (hs : swapsWith a (some (.Attribute o f pos')) pos.line X.env = pure false) (ho : PE X o (LE G W db)) (ha : PE X a (LE G W da)) : PS X (.Assign [.Attribute o f pos'] a pos) (LS G W (sFld db da ix)) := ps_imp (ps_fld ho ha hs) (by
  rintro D σ H ⟨e, h, D', re, rh, z, l⟩
  refine LE.mk re rh z (l.x re) fun d h1 v H1 t1 tl1 rh1 r1 re1 x1 => ?_
  refine LE.mk re1 rh1 t1 ((l.later tl1).x re1) fun x h2 w H2 t2 tl2 rh2 r2 re2 x2 => ?_
  cases x with
  | ref p =>
    simp only at t2
    split at t2
    · rename_i c fs ep
      split at t2
      · rename_i i ei
        split at t2
        · rename_i fs' efs
          obtain ⟨dx, vs, e1, e2, e3⟩ := rh2 _ _ ep
          obtain ⟨hc, hn, hi, nd⟩ := hf c i ei
          have lv := e2.length
          refine ⟨p, G.ca c, dx, _, r2.ref_, e1, by rw [hK]; exact hc, by rw [hK]; exact hn, ?_, ?_⟩
          · rw [List.length_zip]
            have := hz c
            omega
          · have tl3 : TupLe H2 (upd H2 p (.ins (G.ca c) dx (putF f v ((G.fn c).zip vs)))) := TupLe.upd fun u q => by rw [e1] at q; cases q; rfl
            refine l.nx e _ σ _ t2 (tl1.trans (tl2.trans tl3)) (rh2.upd (fun u q => by rw [e1] at q; cases q; rfl) ?_) (re2.keep tl3)
            have r1' := Rep.keep (tl2.trans tl3) _ _ r1
            have e2' := Reps.keep tl3 _ _ e2
            unfold putI at efs
            split at efs
            · rename_i hlt
              cases efs
              refine ⟨dx, vs.set i v, ?_, e2'.set i r1', by rw [List.length_set]; exact e3⟩
              rw [upd_same, zip_put nd hi (by rw [lv]; exact hlt)]
            · split at efs
              · rename_i heq
                cases efs
                refine ⟨dx, vs ++ [v], ?_, e2'.append (reps_cons r1' reps_nil), ?_⟩
                · rw [upd_same, zip_add nd (by rw [lv, ← heq]; exact hi)]
                · have := (List.getElem?_eq_some_iff.mp hi).1
                  simp; omega
              · cases efs
        · exact t2.elim
      · exact t2.elim
    · exact t2.elim
  | _ => exact t2.elim)
theorem RepF.any {κ : Type} [DecidableEq κ] {K : PySem.W.Frag} {H : Hp} {k : κ} : ∀ {kvs : List (κ × D)} {ws : List (κ × V)}, RepF K H kvs ws → (ws.any fun kv => decide (kv.1 = k)) = kvs.any fun kv => decide (kv.1 = k)
  | [], ws, r => by rw [show ws = [] from r]; rfl
  | (f, d) :: kvs, ws, r => by
    obtain ⟨v, us, rfl, p, q⟩ := r
    show (decide (f = k) || us.any _) = (decide (f = k) || kvs.any _)
    rw [q.any]
theorem RepF.repl {κ : Type} [DecidableEq κ] {K : PySem.W.Frag} {H : Hp} {k : κ} {d : D} {v : V} (rd : Rep K H d v) : ∀ {kvs : List (κ × D)} {ws : List (κ × V)}, RepF K H kvs ws → RepF K H (kvs.map fun kv => if kv.1 = k then (kv.1, d) else kv) (ws.map fun kv => if kv.1 = k then (kv.1, v) else kv)
  | [], ws, r => by rw [show ws = [] from r]; rfl
  | (f, d') :: kvs, ws, r => by
    obtain ⟨v', us, rfl, p, q⟩ := r
    rw [List.map_cons, List.map_cons]
    by_cases e : f = k
    · simp only [e, if_pos]
      exact ⟨v, _, rfl, rd, q.repl rd⟩
    · simp only [e, if_neg, if_false]
      exact ⟨v', _, rfl, p, q.repl rd⟩
theorem RepF.snoc {κ : Type} {K : PySem.W.Frag} {H : Hp} {k : κ} {d : D} {v : V} (rd : Rep K H d v) : ∀ {kvs : List (κ × D)} {ws : List (κ × V)}, RepF K H kvs ws → RepF K H (kvs ++ [(k, d)]) (ws ++ [(k, v)])
  | [], ws, r => by rw [show ws = [] from r]; exact ⟨v, [], rfl, rd, rfl⟩
  | (f, d') :: kvs, ws, r => by
    obtain ⟨v', us, rfl, p, q⟩ := r
    exact ⟨v', _, rfl, p, q.snoc rd⟩
theorem RepF.put {κ : Type} [DecidableEq κ] {K : PySem.W.Frag} {H : Hp} {k : κ} {d : D} {v : V} (rd : Rep K H d v) {kvs : List (κ × D)} {ws : List (κ × V)} (r : RepF K H kvs ws) : RepF K H (putM kvs k d) (putK ws k v) := by
  unfold putM putK
  rw [r.any]
  split
  · exact r.repl rd
  · exact r.snoc rd
/-- o[i] = v where o is a list or a dict -/
def rSetX (P : Program) (w : World) (K : PySem.W.Frag) (o i v : V) (H : Hp) (Q : Hp → Prop) : Prop := ∃ (a : Addr) (xs : List XE) (k : List Key) (b : Addr), o = .ref a ∧ H a = some (DXO P w a xs) ∧ KSq K H xs ∧ i = .ref b ∧ SqT K H b (k.map kV) ∧ xs.length < sizeLine ∧ ∀ r, L2.RelV v r → Q (L2.upd H a (DXO P w a (storedH xs k b r)))
theorem set_any {X : Cx} (hu : X.A.units + 1 < cLine) : PSet X (fun o i v H Q => rSetL o i v H Q ∨ (∃ a H4, o = .ref a ∧ DPut H a i v H4 ∧ Q H4) ∨ rSetX X.prog X.w X.K o i v H Q) := by
  intro pins s σ H o i v ov iv u Q I ro ri rv q
  rcases q with q | ⟨a, H4, rfl, g, q⟩ | ⟨a, xs, k, b, rfl, e, kq, rfl, eb, hl, q⟩
  · exact set_list pins s σ H o i v ov iv u Q I ro ri rv q
  · cases ro
    exact d_setItem hu I g ri rv fun s' I' => ⟨H4, I', q⟩
  · cases ro
    cases ri
    exact dx_setItem hu I e kq eb hl fun s' I' => ⟨_, I', q _ rv⟩
theorem set_okD {H : Hp} {h : DH} {x y d : D} {o i v : V} {Q : Hp → Prop} {Q' : DH → Prop} (rh : RH G H h) (rx : Rep G.K H x o) (ry : Rep G.K H y i) (rd : Rep G.K H d v) (p : setD x y d h Q')
    (f : ∀ h' H', Q' h' → TupLe H H' → RH G H' h' → Q H') : rSetL o i v H Q ∨ (∃ a H4, o = .ref a ∧ DPut H a i v H4 ∧ Q H4) ∨ rSetX G.P G.w G.K o i v H Q := by
  cases x with
  | ref a =>
    unfold setD at p
    simp only at p
    split at p
    · rename_i xs e
      obtain ⟨k, j, rfl, ej, q⟩ := p
      obtain ⟨vs, e1, r⟩ := rh.lst e
      have hf : ∀ u, H a = some u → fixedO u = false := fun u z => by rw [e1] at z; cases z; rfl
      refine .inl ⟨a, vs, k, j, rx.ref_, ry.int_, e1, by rw [r.length]; exact ej, f _ _ q (TupLe.upd hf) (rh.upd hf ?_)⟩
      exact ⟨_, upd_same, (Reps.keep (TupLe.upd hf) _ _ r).set j (Rep.keep (TupLe.upd hf) _ _ rd)⟩
    · rename_i kvs e
      obtain ⟨k, ek, l, q⟩ := p
      obtain ⟨ws, e1, r⟩ := rh _ _ e
      have hf : ∀ u, H a = some u → fixedO u = false := fun u z => by rw [e1] at z; cases z; rfl
      have z := key_ok ry ek
      subst z
      refine .inr (.inl ⟨a, _, rx.ref_, DPut.k e1 (by rw [r.length]; exact l), f _ _ q (TupLe.upd hf) (rh.upd hf ?_)⟩)
      exact ⟨_, upd_same, (r.keep (TupLe.upd hf)).put (Rep.keep (TupLe.upd hf) _ _ rd)⟩
    · rename_i kvs e
      obtain ⟨k, ek, l, q⟩ := p
      obtain ⟨ws, e1, r⟩ := rh _ _ e
      have hf : ∀ u, H a = some u → fixedO u = false := fun u z => by rw [e1] at z; cases z; rfl
      obtain ⟨b, rfl, eb⟩ := tkey_ok ry ek
      refine .inr (.inl ⟨a, _, rx.ref_, DPut.t e1 eb (by rw [r.length]; exact l), f _ _ q (TupLe.upd hf) (rh.upd hf ?_)⟩)
      exact ⟨_, upd_same, (r.keep (TupLe.upd hf)).put (Rep.keep (TupLe.upd hf) _ _ rd)⟩
    · rename_i kvs e
      obtain ⟨m, k, ek, l, q⟩ := p
      obtain ⟨xs, e1, r, l2⟩ := rh _ _ e
      have hf : ∀ u, H a = some u → fixedO u = false := fun u z => by rw [e1] at z; cases z; rfl
      obtain ⟨b, rfl, eb⟩ := xkey_ok ry ek
      refine .inr (.inr ⟨a, xs, k, b, rx.ref_, e1, r.ksq, rfl, eb.sq, by rw [r.length]; exact l, fun u ru => f _ _ q (TupLe.upd hf) (rh.upd hf ?_)⟩)
      refine ⟨_, upd_same, (r.keep (TupLe.upd hf)).put (eb.keep (TupLe.upd hf)) (Rep.keep (TupLe.upd hf) _ _ rd) ru, ?_⟩
      have := putX_len (kvs := kvs) (k := k) (m := m) (d := d)
      omega
    · exact p.elim
  | _ => exact p.elim
theorem ss_sub {o i : Expr} {p' : Pos} (hP : X.prog = G.P) (hww : X.w = G.w) (hK : X.K = G.K) (hu : X.A.units + 1 < cLine) (hsw : swapsWithSole [.Subscript o i p'] a pos.line X.env = pure false) (hw : swappedStores [.Subscript o i p'] a X.env = pure none)
    (hpg : ∀ {to ti : TE} {t : TSet}, PE X o to → PE X i ti → PSet X t → PG X (.Subscript o i p') (gSub to ti t)) (ho : PE X o (LE G W db)) (hi : PE X i (LE G W dc)) (ha : PE X a (LE G W da)) : PS X (.Assign [.Subscript o i p'] a pos) (LS G W (sSub db dc da)) := ps_imp (ps_asg ha (hpg ho hi (set_any hu)) hsw hw) (by
  rintro D σ H ⟨e, h, D', re, rh, z, l⟩
  refine LE.mk re rh z (l.x re) fun d h1 v H1 t1 tl1 rh1 r1 re1 x1 => ?_
  refine LE.mk re1 rh1 t1 ((l.later tl1).x re1) fun x h2 w H2 t2 tl2 rh2 r2 re2 x2 => ?_
  refine LE.mk re2 rh2 t2 ((l.later (tl1.trans tl2)).x re2) fun y h3 u H3 t3 tl3 rh3 r3 re3 x3 => ?_
  rw [hP, hww, hK]
  exact set_okD rh3 (Rep.keep tl3 _ _ r2) r3 (Rep.keep (tl2.trans tl3) _ _ r1) t3 fun h' H' q tl' rh' => l.nx e h' σ H' q (tl1.trans (tl2.trans (tl3.trans tl'))) rh' (re3.keep tl'))
theorem ss_while {c : Expr} {body : List Stmt} (hp : PassesOwn (model X.prog X.w) X.A X.env X.xe) (hc : PT X c (LT G W dt)) (hb : PSs X body (LS G W t)) : PS X (.While c body [] pos) (LS G W (sWhile dt t)) := ps_imp (ps_while hp hc hb) (by
  rintro D σ H ⟨e, h, D', re, rh, ⟨n, z⟩, l⟩
  refine ⟨fun m σ' H' => ∃ e' h', TupLe H H' ∧ RE G.K H' e' σ' ∧ RH G H' h' ∧ whN dt t m D' e' h', ⟨n, e, h, TupLe.refl H, re, rh, z⟩, ?_⟩
  rintro m σ1 H1 ⟨e1, h1, tl1, re1, rh1, z1⟩
  cases m with
  | zero => exact z1.elim
  | succ m =>
    refine LT.mk re1 rh1 z1 ((l.later tl1).x re1) fun b h2 H2 t2 tl2 rh2 re2 x2 => ?_
    cases b with
    | true =>
      rw [if_pos rfl] at t2 ⊢
      refine ⟨fun σ' H' => ∃ e' h', TupLe H H' ∧ RE G.K H' e' σ' ∧ RH G H' h' ∧ whN dt t m D' e' h', fun σ' H' q => ⟨m, Nat.lt_succ_self m, q⟩, ?_⟩
      refine ⟨e1, h2, _, re2, rh2, t2, ⟨fun e' h' σ' H' q tl' rh' re' => ?_, fun d h' v H' q tl' => l.rt d h' v H' q (tl1.trans (tl2.trans tl')), fun e' h' σ' H' q tl' rh' re' => ?_, fun e' h' σ' H' q tl' rh' re' => ?_, fun x e' h' cls dd σ' H' q tl' => l.ex x e' h' cls dd σ' H' q (tl1.trans (tl2.trans tl'))⟩⟩
      · exact ⟨e', h', tl1.trans (tl2.trans tl'), re', rh', q⟩
      · exact l.nx e' h' σ' H' q (tl1.trans (tl2.trans tl')) rh' re'
      · exact ⟨e', h', tl1.trans (tl2.trans tl'), re', rh', q⟩
    | false =>
      rw [if_neg Bool.false_ne_true] at t2 ⊢
      exact l.nx e1 h2 σ1 H2 t2 (tl1.trans tl2) rh2 re2)
end

/-! ### what a loop walks: its items, what must stand still meanwhile -/
abbrev DI := DSt → DH → (List D → (DH → Prop) → DH → Prop) → KX → Prop
structure ItOk (G : Pg) (H0 : Hp) (J : It) (ds : List D) (still : DH → Prop) : Prop where
  go : ∀ i H h d, TupLe H0 H → RH G H h → still h → ds[i]? = some d → J.go i H ∧ ∀ x H', J.yld i H x H' → TupLe H H' ∧ RH G H' h ∧ Rep G.K H' d x
  stop : ∀ H h, TupLe H0 H → RH G H h → still h → J.stop ds.length H
def LI (G : Pg) (W : WX) (t : DI) : TI := fun σ H R => ∃ e h P R', RE G.K H e σ ∧ RH G H h ∧ t e h P R' ∧ (∀ ds still h1 H1 J, P ds still h1 → TupLe H H1 → RH G H1 h1 → ItOk G H1 J ds still → R J H1) ∧ LX G W σ H R'
def forS (still : DH → Prop) (g : DG) (b : DS) : List D → DEnds → DSt → DH → Prop
  | [], D, e, h => still h ∧ D.nx e h
  | d :: r, D, e, h => still h ∧ g d e h fun e1 h1 => b { D with nx := forS still g b r D, ct := forS still g b r D, bk := D.nx } e1 h1
def sFor (i : DI) (g : DG) (b : DS) : DS := fun D e h => i e h (fun ds still h1 => forS still g b ds D e h1) fun x h1 => D.ex x e h1
section
variable {X : Cx} {G : Pg} {W : WX} {tg iter : Expr} {body : List Stmt} {di : DI} {g : DG} {b : DS} {pos : Pos}
theorem pi_imp {tg iter : Expr} {t t' : TI} (h : PI X tg iter t) (i : ∀ σ H R, t' σ H R → t σ H R) : PI X tg iter t' := ⟨fun pins s σ H R I q => h.run pins s σ H R I (i _ _ _ q)⟩
theorem ss_for (hp : PassesOwn (model X.prog X.w) X.A X.env X.xe) (hc : X.calm = true) (hi : PI X tg iter (LI G W di)) {S : List Nat} (hg : PG X tg (LG G S g)) (hb : PSs X body (LS G W b)) (hs : ∀ x, foldedSetIterable iter X.env x = pure x) : PS X (.For tg iter body [] pos) (LS G W (sFor di g b)) := ps_imp (ps_for hp hc hi hg hb hs) (by
  rintro D σ H ⟨e, h, D', re, rh, z, l⟩
  refine ⟨e, h, _, _, re, rh, z, fun ds still h1 H1 J q tl1 rh1 ok => ?_, l.x re⟩
  refine ⟨fun i m σ' H' => m = ds.length - i ∧ i ≤ ds.length ∧ ∃ e' h', TupLe H1 H' ∧ RE G.K H' e' σ' ∧ RH G H' h' ∧ forS still g b (ds.drop i) D' e' h', ⟨_, rfl, Nat.zero_le _, e, h1, TupLe.refl _, re.keep tl1, rh1, q⟩, ?_⟩
  rintro i m σ2 H2 ⟨rfl, hi, e2, h2, tl2, re2, rh2, q2⟩
  by_cases hlt : i < ds.length
  · right
    have ed : ds.drop i = ds[i] :: ds.drop (i + 1) := List.drop_eq_getElem_cons hlt
    rw [ed] at q2
    obtain ⟨st, q2⟩ := q2
    obtain ⟨go, yl⟩ := ok.go i H2 h2 ds[i] tl2 rh2 st (List.getElem?_eq_getElem hlt)
    refine ⟨go, fun σ' H' => ∃ e' h', TupLe H1 H' ∧ RE G.K H' e' σ' ∧ RH G H' h' ∧ forS still g b (ds.drop (i + 1)) D' e' h', fun σ' H' w => ⟨_, by omega, rfl, hlt, w⟩, fun x H3 y => ?_⟩
    obtain ⟨tl3, rh3, r3⟩ := yl x H3 y
    refine ⟨ds[i], e2, h2, _, r3, re2.keep tl3, rh3, q2, fun e4 h4 σ4 H4 q4 tl4 rh4 re4 _ => ?_⟩
    refine ⟨e4, h4, _, re4, rh4, q4, ⟨fun e' h' σ' H' w tl' rh' re' => ?_, fun d h' v H' w tl' => l.rt d h' v H' w (tl1.trans (tl2.trans (tl3.trans (tl4.trans tl')))), fun e' h' σ' H' w tl' rh' re' => ?_, fun e' h' σ' H' w tl' rh' re' => ?_, fun x e' h' cls dd σ' H' w tl' => l.ex x e' h' cls dd σ' H' w (tl1.trans (tl2.trans (tl3.trans (tl4.trans tl'))))⟩⟩
    · exact ⟨e', h', tl2.trans (tl3.trans (tl4.trans tl')), re', rh', w⟩
    · exact l.nx e' h' σ' H' w (tl1.trans (tl2.trans (tl3.trans (tl4.trans tl')))) rh' re'
    · exact ⟨e', h', tl2.trans (tl3.trans (tl4.trans tl')), re', rh', w⟩
  · left
    have ei : i = ds.length := by omega
    subst ei
    rw [List.drop_length] at q2
    exact ⟨ok.stop H2 h2 tl2 rh2 q2.1, l.nx e2 h2 σ2 H2 q2.2 (tl1.trans tl2) rh2 re2⟩)
end
end DW

/-! DW, part 7: what loops walk, comprehensions, built-in functions. -/
namespace DW
open PySem L2 PySem.Spec PyProof.Rows

/-! ### iterables -/
/-- x itself is walked: a list, a tuple, a text -/
def kD : Key → D
  | .inl i => .int i
  | .inr s => .str s
theorem rep_key {K : PySem.W.Frag} {H : Hp} (k : Key) : Rep K H (kD k) (kV k) := by
  cases k with
  | inl i => exact rep_int
  | inr s => exact rep_str
theorem reps_kVs {K : PySem.W.Frag} {H : Hp} : ∀ ks : List Key, Reps K H (ks.map kD) (ks.map kV)
  | [] => reps_nil
  | k :: ks => reps_cons (rep_key k) (reps_kVs ks)
theorem RepF.get {κ : Type} {K : PySem.W.Frag} {H : Hp} : ∀ {kvs : List (κ × D)} {ws : List (κ × V)}, RepF K H kvs ws → ∀ {i : Nat} {q : κ × D}, kvs[i]? = some q → ∃ v, ws[i]? = some (q.1, v)
  | [], _, _, i, q, e => by simp at e
  | (k, d) :: kvs, ws, r, i, q, e => by
    obtain ⟨v, us, rfl, p, r'⟩ := r
    cases i with
    | zero => simp at e; subst e; exact ⟨v, rfl⟩
    | succ i => simp at e ⊢; exact r'.get e
def itD (x : D) (h : DH) (P : List D → (DH → Prop) → DH → Prop) : Prop := match x with
  | .tup ds => P ds (fun _ => True) h
  | .ktup ds => P ds (fun _ => True) h
  | .rol ds => P ds (fun _ => True) h
  | .str z => P (z.cps.toList.map fun c => D.str ⟨#[c]⟩) (fun _ => True) h
  | .ref a => match h a with
    | some (.lst ds) => P ds (fun h' => h' a = some (.lst ds)) h
    | some (.fK kvs o ws) => P (kvs.map fun kv => kD kv.1) (fun h' => h' a = some (.fK kvs o ws)) h
    | some (.fT kvs o ws) => P (kvs.map fun kv => .tup (kv.1.map kD)) (fun h' => h' a = some (.fT kvs o ws)) h
    | _ => False
  | _ => False
def iSeq (a : DE) : DI := fun e h P R => a e h (fun x h1 => itD x h1 P) R
def rangeD (lo : Int) (n : Nat) : List D := (List.range n).map fun i => .int (lo + (i : Nat))
def rangeC (lo c : Int) (n : Nat) : List D := (List.range n).map fun i => .int (lo + (i : Nat) * c)
def iRng1D (t : DA) : DI := fun e h P R => t e h (fun ds h1 => match ds with
  | [.int j] => (-(2 ^ 62) ≤ j ∧ j < 2 ^ 62) ∧ P (rangeD 0 j.toNat) (fun _ => True) h1
  | _ => False) R
def iRng2D (t : DA) : DI := fun e h P R => t e h (fun ds h1 => match ds with
  | [.int i, .int j] => (-(2 ^ 62) ≤ i ∧ i < 2 ^ 62 ∧ -(2 ^ 62) ≤ j ∧ j < 2 ^ 62) ∧ P (rangeD i (j - i).toNat) (fun _ => True) h1
  | _ => False) R
def iRng3D (t : DA) : DI := fun e h P R => t e h (fun ds h1 => match ds with
  | [.int i, .int j, .int c] => ∃ n, RgC i j c n ∧ P (rangeC i c n) (fun _ => True) h1
  | _ => False) R
def stillL (x : D) (ds : List D) : DH → Prop := fun h => match x with
  | .ref a => h a = some (.lst ds)
  | _ => True
def enumD (ds : List D) : List D := (List.range ds.length).zip ds |>.map fun p => .tup [.int (p.1 : Nat), p.2]
def iEnumD (t : DA) : DI := fun e h P R => t e h (fun ds h1 => match ds with
  | [x] => (∃ xs, lstOf h1 x = some xs ∧ P (enumD xs) (stillL x xs) h1) ∨ ∃ xs, x = .tup xs ∧ P (enumD xs) (fun _ => True) h1
  | _ => False) R
def zipD (xs ys : List D) : List D := (xs.zip ys).map fun p => .tup [p.1, p.2]
def iZipD (t : DA) : DI := fun e h P R => t e h (fun ds h1 => match ds with
  | [x, y] => (∃ xs ys, lstOf h1 x = some xs ∧ lstOf h1 y = some ys ∧ P (zipD xs ys) (fun h => stillL x xs h ∧ stillL y ys h) h1) ∨
      ∃ xs ys, x = .tup xs ∧ y = .tup ys ∧ P (zipD xs ys) (fun _ => True) h1
  | _ => False) R
def iRevD (a : DE) : DI := fun e h P R => a e h (fun x h1 => match x with
  | .tup ds => P ds.reverse (fun _ => True) h1
  | .ktup ds => P ds.reverse (fun _ => True) h1
  | _ => ∃ xs, lstOf h1 x = some xs ∧ P xs.reverse (stillL x xs) h1) R
def iBad : DI := fun _ _ _ _ => False
section
variable {X : Cx} {G : Pg} {W : WX} {tg : Expr}
/-- iter(x), by values -/
def IterV (X : Cx) (tg : Expr) (r : V → Hp → (It → Hp → Prop) → Prop) : Prop :=
  ∀ (pins : List (Addr × Obj)) (s : Shared) (σ : L2.St) (H : Hp) (x : V) (v : Value) (R : It → Hp → Prop), Inv X pins σ H s → RelV x v → r x H R → wpAny (model X.prog X.w) X.A (pyIter v) (PIE X pins σ tg R) X.xe s
theorem iv_list : IterV X tg (fun x H R => ∃ a, x = .ref a ∧ (∃ xs, SqL X.K H a xs) ∧ R (Itl X.K a) H) := by
  rintro pins s σ H x v R I r ⟨a, rfl, ⟨xs, hq⟩, q⟩
  cases r
  obtain ⟨its, rv, p, hz⟩ := I.list hq
  refine wpAny_pyIter_list p.isList ⟨_, [s.heap.objs.size], _, _, H, rfl, I.kept (t' := s.toks) fun b o e => Heap.get?_push_of_some _ e, turn_list a _, ⟨_, Heap.get?_push_size _ rfl, rfl, rfl⟩, fun b hb => ?_, q⟩
  rw [List.mem_singleton.mp hb]
  exact I.fpOk (Nat.le_refl _) (I.hok.fresh (Nat.le_refl _))
theorem iv_tup : IterV X tg (fun x H R => ∃ a, x = .ref a ∧ (∃ xs, SqT X.K H a xs) ∧ R (Itt X.K a) H) := by
  rintro pins s σ H x v R I r ⟨a, rfl, ⟨xs, hq⟩, q⟩
  cases r
  obtain ⟨its, rv, p, hz⟩ := I.tuple hq
  refine wpAny_pyIter_tuple (show s.heap.IsTuple a its.toArray from p) ⟨_, [s.heap.objs.size], _, _, H, rfl, I.kept (t' := s.toks) fun b o e => Heap.get?_push_of_some _ e, turn_tuple a _, ⟨_, Heap.get?_push_size _ rfl, rfl, rfl⟩, fun b hb => ?_, q⟩
  rw [List.mem_singleton.mp hb]
  exact I.fpOk (Nat.le_refl _) (I.hok.fresh (Nat.le_refl _))
theorem iv_str : IterV X tg (fun x H R => ∃ z, x = .str z ∧ R (Its z) H) := by
  rintro pins s σ H x v R I r ⟨z, rfl, q⟩
  obtain ⟨t, rfl⟩ := r
  cases ha : z.cps.all (· < 128)
  · exact wpAny_pyIter_wide ha (pi_one (tk := s.toks) I _ (turn_str _ z t "str_iterator" (.inr rfl)) ⟨_, Heap.get?_push_size _ rfl, rfl, rfl⟩ q)
  · exact wpAny_pyIter_ascii ha (pi_one (tk := s.toks) I _ (turn_str _ z t "str_ascii_iterator" (.inl rfl)) ⟨_, Heap.get?_push_size _ rfl, rfl, rfl⟩ q)
theorem iv_keys : IterV X tg (fun x H R => ∃ d o kvs, x = .ref d ∧ H d = some (.frz o (.dK kvs)) ∧ R (Itk d o kvs) H) := by
  rintro pins s σ H x v R I r ⟨d, o, kvs, rfl, hd, q⟩
  cases r
  obtain ⟨n0, g0, x0, e0, p0, w0, t0, z0, -, -⟩ := I.frzK hd
  exact iter_keys n0 g0 x0 t0 (pi_one (tk := s.toks) I _ (turn_keys _ t0) ⟨_, Heap.get?_push_size _ rfl, rfl, by rw [z0] <;> rfl⟩ q)
theorem iv_keysT : IterV X tg (fun x H R => ∃ d o kvs, x = .ref d ∧ H d = some (.frz o (.dT kvs)) ∧ R (Itkt d o kvs) H) := by
  rintro pins s σ H x v R I r ⟨d, o, kvs, rfl, hd, q⟩
  cases r
  obtain ⟨n0, g0, x0, e0, p0, t0, z0, -⟩ := I.frzT hd
  exact iter_keys n0 g0 x0 t0 (pi_one (tk := s.toks) I _ (turn_keysT _ t0) ⟨_, Heap.get?_push_size _ rfl, rfl, by rw [z0] <;> rfl⟩ q)
theorem IterV.or {r r' : V → Hp → (It → Hp → Prop) → Prop} (h : IterV X tg r) (h' : IterV X tg r') : IterV X tg (fun x H R => r x H R ∨ r' x H R) := fun pins s σ H x v R I rv q => q.elim (h pins s σ H x v R I rv) (h' pins s σ H x v R I rv)
theorem pi_of {e : Expr} {te : TE} {r : V → Hp → (It → Hp → Prop) → Prop} (he : PE X e te) (h : IterV X tg r) : PI X tg e (fun σ H R => te σ H fun x H1 => r x H1 R) :=
  ⟨fun pins s σ H R I q => thn (he.run pins s σ H _ I q) fun v s1 ⟨x, H1, I1, r1, q1⟩ => h pins s1 σ H1 x v R I1 r1 q1⟩
theorem ito_list {H0 : Hp} {a : Addr} {ds : List D} {still : DH → Prop} (hs : ∀ H h, TupLe H0 H → RH G H h → still h → ∃ vs, SqL G.K H a vs ∧ Reps G.K H ds vs) : ItOk G H0 (Itl G.K a) ds still where
  go i H h d tl rh st e := by
    obtain ⟨vs, q, r⟩ := hs H h tl rh st
    obtain ⟨w, ew, rw_⟩ := r.get e
    refine ⟨⟨vs, w, q, ew⟩, fun x H' y => ?_⟩
    obtain ⟨rfl, all⟩ := y
    have := all vs q
    rw [ew] at this
    cases this
    exact ⟨TupLe.refl _, rh, rw_⟩
  stop H h tl rh st := by
    obtain ⟨vs, q, r⟩ := hs H h tl rh st
    exact ⟨vs, q, by rw [r.length]; exact Nat.le_refl _⟩
theorem ito_tup {H0 : Hp} {a : Addr} {ds : List D} {vs : List V} {still : DH → Prop} (q : SqT G.K H0 a vs) (r : Reps G.K H0 ds vs) : ItOk G H0 (Itt G.K a) ds still where
  go i H h d tl rh st e := by
    obtain ⟨w, ew, rw_⟩ := r.get e
    refine ⟨⟨vs, w, SqT.keep tl q, ew⟩, fun x H' y => ?_⟩
    obtain ⟨rfl, all⟩ := y
    have := all vs (SqT.keep tl q)
    rw [ew] at this
    cases this
    exact ⟨TupLe.refl _, rh, Rep.keep tl _ _ rw_⟩
  stop H h tl rh st := ⟨vs, SqT.keep tl q, by rw [r.length]; exact Nat.le_refl _⟩
theorem ito_rol {H0 : Hp} {a : Addr} {ds : List D} {vs : List V} {still : DH → Prop} (q : RoL G.K H0 a vs) (r : Reps G.K H0 ds vs) : ItOk G H0 (Itl G.K a) ds still :=
  ito_list fun H h tl rh st => ⟨vs, (q.keep tl).sq, Reps.keep tl _ _ r⟩
theorem ito_ref {H0 : Hp} {a : Addr} {ds : List D} : ItOk G H0 (Itl G.K a) ds (fun h => h a = some (.lst ds)) :=
  ito_list fun H h tl rh st => by
    obtain ⟨vs, q, r⟩ := rh.lst st
    exact ⟨vs, .inl (.inl q), r⟩
theorem ito_str {H0 : Hp} {z : Str} {still : DH → Prop} : ItOk G H0 (Its z) (z.cps.toList.map fun c => D.str ⟨#[c]⟩) still where
  go i H h d tl rh st e := by
    rw [List.getElem?_map] at e
    obtain ⟨c, ec, rfl⟩ := Option.map_eq_some_iff.mp e
    have ec' : z.cps[i]? = some c := by simpa using ec
    refine ⟨(Array.getElem?_eq_some_iff.mp ec').1, fun x H' y => ?_⟩
    obtain ⟨rfl, c', e', rfl⟩ := y
    rw [ec'] at e'
    cases e'
    exact ⟨TupLe.refl _, rh, rep_str⟩
  stop H h tl rh st := by
    show z.cps.size ≤ _
    simp
theorem ito_keys {H0 : Hp} {a : Addr} {kvs : List (Key × D)} {o : Obj} {ws : List (Key × V)} : ItOk G H0 (Itk a o ws) (kvs.map fun kv => kD kv.1) (fun h => h a = some (.fK kvs o ws)) where
  go i H h d tl rh st e := by
    obtain ⟨q, r⟩ := rh _ _ st
    rw [List.getElem?_map] at e
    obtain ⟨kv, e1, rfl⟩ := Option.map_eq_some_iff.mp e
    obtain ⟨v, e2⟩ := r.get e1
    refine ⟨⟨q, (List.getElem?_eq_some_iff.mp e2).1⟩, fun x H' y => ?_⟩
    obtain ⟨rfl, k, v', e3, rfl⟩ := y
    rw [e2] at e3
    cases e3
    exact ⟨TupLe.refl _, rh, rep_key _⟩
  stop H h tl rh st := by
    obtain ⟨q, r⟩ := rh _ _ st
    exact ⟨q, by rw [List.length_map, r.length]; exact Nat.le_refl _⟩
theorem ito_keysT {H0 : Hp} {a : Addr} {kvs : List (List Key × D)} {o : Obj} {ws : List (List Key × V)} : ItOk G H0 (Itkt a o ws) (kvs.map fun kv => .tup (kv.1.map kD)) (fun h => h a = some (.fT kvs o ws)) where
  go i H h d tl rh st e := by
    obtain ⟨q, r⟩ := rh _ _ st
    rw [List.getElem?_map] at e
    obtain ⟨kv, e1, rfl⟩ := Option.map_eq_some_iff.mp e
    obtain ⟨v, e2⟩ := r.get e1
    refine ⟨⟨q, (List.getElem?_eq_some_iff.mp e2).1⟩, fun x H' y => ?_⟩
    obtain ⟨rfl, k, v', b, e3, rfl, eb⟩ := y
    rw [e2] at e3
    cases e3
    exact ⟨TupLe.refl _, rh, rep_tup eb (reps_kVs _)⟩
  stop H h tl rh st := by
    obtain ⟨q, r⟩ := rh _ _ st
    exact ⟨q, by rw [List.length_map, r.length]; exact Nat.le_refl _⟩
theorem si_seq {e : Expr} {de : DE} (hK : X.K = G.K) (he : PE X e (LE G W de)) : PI X tg e (LI G W (iSeq de)) := pi_imp (pi_of he ((iv_list.or (iv_tup.or iv_str)).or (iv_keys.or iv_keysT))) (by
  rintro σ H R ⟨en, h, P, R', re, rh, t, fin, x⟩
  refine LE.mk re rh t x fun d h1 v H1 t1 tl1 rh1 r1 re1 x1 => ?_
  rw [hK]
  cases d with
  | tup ds =>
    obtain ⟨a, vs, rfl, q, r⟩ := r1.tup_
    exact .inl (.inr (.inl ⟨a, rfl, ⟨vs, q⟩, fin _ _ h1 H1 _ t1 tl1 rh1 (ito_tup q r)⟩))
  | ktup ds =>
    obtain ⟨a, vs, rfl, q, r⟩ := r1.ktup_
    exact .inl (.inr (.inl ⟨a, rfl, ⟨vs, q⟩, fin _ _ h1 H1 _ t1 tl1 rh1 (ito_tup q r)⟩))
  | rol ds =>
    obtain ⟨a, vs, rfl, q, r⟩ := r1.rol_
    exact .inl (.inl ⟨a, rfl, ⟨vs, q.sq⟩, fin _ _ h1 H1 _ t1 tl1 rh1 (ito_rol q r)⟩)
  | str z => exact .inl (.inr (.inr ⟨z, r1.str_, fin _ _ h1 H1 _ t1 tl1 rh1 ito_str⟩))
  | ref a =>
    unfold itD at t1
    simp only at t1
    split at t1
    · rename_i ds ea
      obtain ⟨vs, q, r⟩ := rh1.lst ea
      exact .inl (.inl ⟨a, r1.ref_, ⟨vs, .inl (.inl q)⟩, fin _ _ h1 H1 _ t1 tl1 rh1 ito_ref⟩)
    · rename_i kvs o ws ea
      exact .inr (.inl ⟨a, o, ws, r1.ref_, (rh1 _ _ ea).1, fin _ _ h1 H1 _ t1 tl1 rh1 ito_keys⟩)
    · rename_i kvs o ws ea
      exact .inr (.inr ⟨a, o, ws, r1.ref_, (rh1 _ _ ea).1, fin _ _ h1 H1 _ t1 tl1 rh1 ito_keysT⟩)
    · exact t1.elim
  | _ => exact t1.elim)
theorem ito_rng {H0 : Hp} {lo : Int} {n : Nat} {still : DH → Prop} : ItOk G H0 (Itr lo n) (rangeD lo n) still where
  go i H h d tl rh st e := by
    unfold rangeD at e
    rw [List.getElem?_map] at e
    obtain ⟨c, ec, rfl⟩ := Option.map_eq_some_iff.mp e
    obtain ⟨l, ec⟩ := List.getElem?_eq_some_iff.mp ec
    rw [List.length_range] at l
    simp at ec
    subst ec
    exact ⟨l, fun x H' y => by obtain ⟨rfl, rfl⟩ := y; exact ⟨TupLe.refl _, rh, rep_int⟩⟩
  stop H h tl rh st := by show n ≤ _; simp [rangeD]
theorem ito_rngC {H0 : Hp} {lo c : Int} {n : Nat} {still : DH → Prop} : ItOk G H0 (Itc lo c n) (rangeC lo c n) still where
  go i H h d tl rh st e := by
    unfold rangeC at e
    rw [List.getElem?_map] at e
    obtain ⟨c, ec, rfl⟩ := Option.map_eq_some_iff.mp e
    obtain ⟨l, ec⟩ := List.getElem?_eq_some_iff.mp ec
    rw [List.length_range] at l
    simp at ec
    subst ec
    exact ⟨l, fun x H' y => by obtain ⟨rfl, rfl⟩ := y; exact ⟨TupLe.refl _, rh, rep_int⟩⟩
  stop H h tl rh st := by show n ≤ _; simp [rangeC]
/-- lists of one, two, three -/
theorem Reps.one {K : PySem.W.Frag} {H : Hp} {x : D} {vs : List V} (r : Reps K H [x] vs) : ∃ v, vs = [v] ∧ Rep K H x v := by
  obtain ⟨v, u, rfl, p, q⟩ := r.cons_
  rw [q.nil_]; exact ⟨v, rfl, p⟩
theorem Reps.two {K : PySem.W.Frag} {H : Hp} {x y : D} {vs : List V} (r : Reps K H [x, y] vs) : ∃ v w, vs = [v, w] ∧ Rep K H x v ∧ Rep K H y w := by
  obtain ⟨v, u, rfl, p, q⟩ := r.cons_
  obtain ⟨w, rfl, q'⟩ := q.one
  exact ⟨v, w, rfl, p, q'⟩
theorem si_rng1 {a : Expr} {t : DA} {p pos : Pos} (hg : Gl X "range") (hm : X.mg "range" = none) (hs : starEach [a] X.env = [(false, eval a X.env)]) (ha : PA X [a] (LA G W t)) : PI X tg (.Call (.Name "range" p) [a] [] pos) (LI G W (iRng1D t)) := pi_imp (pi_range1 hg hm ha hs) (by
  rintro σ H R ⟨en, h, P, R', re, rh, t, fin, x⟩
  refine LA.mk re rh t x fun ds h1 vs H1 t1 tl1 rh1 r1 re1 x1 => ?_
  split at t1
  · rename_i j
    obtain ⟨v, rfl, r⟩ := r1.one
    exact ⟨j, by rw [r.int_], t1.1.1, t1.1.2, fin _ _ h1 H1 _ t1.2 tl1 rh1 ito_rng⟩
  · exact t1.elim)
theorem si_rng2 {a b : Expr} {t : DA} {p pos : Pos} (hg : Gl X "range") (hm : X.mg "range" = none) (hs : starEach [a, b] X.env = [(false, eval a X.env), (false, eval b X.env)]) (hs2 : starEach [b] X.env = [(false, eval b X.env)]) (ha : PA X [a, b] (LA G W t)) : PI X tg (.Call (.Name "range" p) [a, b] [] pos) (LI G W (iRng2D t)) := pi_imp (pi_range2 hg hm ha hs hs2) (by
  rintro σ H R ⟨en, h, P, R', re, rh, t, fin, x⟩
  refine LA.mk re rh t x fun ds h1 vs H1 t1 tl1 rh1 r1 re1 x1 => ?_
  split at t1
  · rename_i i j
    obtain ⟨v, w, rfl, r, r'⟩ := r1.two
    exact ⟨i, j, by rw [r.int_, r'.int_], t1.1, fin _ _ h1 H1 _ t1.2 tl1 rh1 ito_rng⟩
  · exact t1.elim)
theorem lst_still {H0 H : Hp} {h0 h : DH} {x : D} {v : V} {xs : List D} {a : Addr} {vs : List V} (e : lstOf h0 x = some xs) (rh0 : RH G H0 h0) (r : Rep G.K H0 x v) (ev : v = .ref a) (q : SqL G.K H0 a vs) (rs : Reps G.K H0 xs vs) (tl : TupLe H0 H) (rh : RH G H h) (st : stillL x xs h) : ∃ vs, SqL G.K H a vs ∧ Reps G.K H xs vs := by
  subst ev
  cases x with
  | rol ds =>
    cases e
    obtain ⟨b, ws, eb, q', r'⟩ := r.rol_
    cases eb
    exact ⟨ws, (q'.keep tl).sq, Reps.keep tl _ _ r'⟩
  | ref b =>
    have eb := r.ref_
    cases eb
    obtain ⟨ws, q', r'⟩ := rh.lst st
    exact ⟨ws, .inl (.inl q'), r'⟩
  | _ => cases e
theorem ito_enum {H0 : Hp} {a : Addr} {ds : List D} {still : DH → Prop} (hs : ∀ H h, TupLe H0 H → RH G H h → still h → ∃ vs, SqL G.K H a vs ∧ Reps G.K H ds vs) : ItOk G H0 (Ite G.K a) (enumD ds) still where
  go i H h d tl rh st e := by
    obtain ⟨vs, q, r⟩ := hs H h tl rh st
    unfold enumD at e
    rw [List.getElem?_map] at e
    obtain ⟨⟨j, c⟩, ec, rfl⟩ := Option.map_eq_some_iff.mp e
    rw [List.getElem?_zip_eq_some] at ec
    obtain ⟨e1, e2⟩ := ec
    obtain ⟨l, e1⟩ := List.getElem?_eq_some_iff.mp e1
    simp at e1
    subst e1
    obtain ⟨w, ew, rw_⟩ := r.get e2
    refine ⟨⟨vs, w, q, ew⟩, fun x H' y => ?_⟩
    obtain ⟨T, x', rfl, hT, rfl, all⟩ := y
    have := all vs q
    rw [ew] at this
    cases this
    exact ⟨TupLe.new hT, rh.more hT, rep_tup upd_same (reps_cons rep_int (reps_cons (Rep.keep (TupLe.new hT) _ _ rw_) reps_nil))⟩
  stop H h tl rh st := by
    obtain ⟨vs, q, r⟩ := hs H h tl rh st
    refine ⟨vs, q, ?_⟩
    rw [r.length]
    simp [enumD]
/-! ### enumerate of a tuple -/
theorem meets_enumT (l : Addr) (items : Array Value) (n : Nat) (dct : Option Addr) (sl : Array (Option Value)) :
    Meets (Builtin.«enumerate.__new__» ⟨[.type "enumerate", .ref l], []⟩) (fun _ R s => s.heap.get? l = some { cls := .type "tuple", dict := dct, data := .seq items n, slots := sl } ∧
      R (.ok (.ret (.ref (s.heap.push { cls := .type "tuple_iterator", data := .fields #[.ref l, .int 0 0] }).objs.size)))
        { s with heap := (s.heap.push { cls := .type "tuple_iterator", data := .fields #[.ref l, .int 0 0] }).push { cls := .type "enumerate", data := .fields #[.none, .bool false, .ref s.heap.objs.size, rawInt 0, .none, .none] } }) :=
  .of_wp fun prog w A R s h => by
    obtain ⟨hp, g, d, tk, os⟩ := s
    obtain ⟨at_, fin⟩ := h
    have isE := sub_enumerate
    have isT : Heap.IsTuple (Shared.heap ⟨hp, g, d, tk, os⟩) l items := ⟨_, at_, rfl, n, rfl⟩
    wp_walk using AutoSeq1.wpAny_loadPart' at_
    refine wpAny_stack_any fun _ => wpAny_pure ?_
    split
    · rename_i c _ _ _ _ _
      cases (c == Value.type "enumerate") <;> (wp_walk using AutoSeq1.wpAny_loadPart' at_, wpAny_pyIter_tuple isT; exact ⟨_, rfl, fin⟩)
    · wp_walk using AutoSeq1.wpAny_loadPart' at_, wpAny_pyIter_tuple isT
      exact ⟨_, rfl, fin⟩
theorem call_enumT {prog : Program} {w : World} {A : Around} {E : Value → Shared → Prop} {s : Shared} {l : Addr} {items : Array Value} {Q : Value → Shared → Prop} (hL : s.heap.IsTuple l items)
    (h : ∀ h', IsEnum h' (s.heap.objs.size + 1) s.heap.objs.size 0 .none → h'.IsTupleIter s.heap.objs.size l 0 → (∀ b o, s.heap.get? b = some o → h'.get? b = some o) → Q (.ref (s.heap.objs.size + 1)) { s with heap := h' }) :
    wpAny (model prog w) A (call (.type "enumerate") [.ref l]) Q E s := by
  obtain ⟨⟨c, dct, dt, sl⟩, hl, hc, n, hd⟩ := hL
  cases (show c = .type "tuple" from hc)
  cases (show dt = .seq items n from hd)
  refine callType_new F.called_enumerate (by decide) (F.typeCall_enumerate_1 _) (F.newCall_enumerate_1 _) (fun obj => F.args_object_init_2 obj _) F.entry_enumerate_new (meets_enumT l items n dct sl) ⟨hl, ?_⟩
  have hz : (s.heap.push { cls := .type "tuple_iterator", data := .fields #[.ref l, .int 0 0] }).objs.size = s.heap.objs.size + 1 := Heap.size_push ..
  show _ ∧ _
  rw [hz]
  have he := Heap.get?_push_size (s.heap.push { cls := .type "tuple_iterator", data := .fields #[.ref l, .int 0 0] }) (o := { cls := .type "enumerate", data := .fields #[.none, .bool false, .ref s.heap.objs.size, rawInt 0, .none, .none] }) rfl
  rw [hz] at he
  exact ⟨⟨_, he, rfl⟩, h _ he ⟨_, Heap.get?_push_of_some _ (Heap.get?_push_size _ rfl), rfl, rfl⟩ fun b o x => Heap.get?_push_of_some _ (Heap.get?_push_of_some _ x)⟩
theorem enumT_end {prog : Program} {w : World} {A : Around} {E : Value → Shared → Prop} {s : Shared} {e it l : Addr} {i : Nat} {items : Array Value} {old : Value} {Q : Option Value → Shared → Prop} (hh : A.handled = none) (he : IsEnum s.heap e it i old) (hit : s.heap.IsTupleIter it l i) (hl : s.heap.IsTuple l items) (hx : items[i]? = none)
    (hQ : ∀ h', Heap.ExtBut it s.heap h' → Q none { s with heap := h' }) : wpAny (model prog w) A (pyNext (.ref e)) Q E s := by
  unfold pyNext
  refine wpAny_bind (wpAny_attempt (wpAny_callSpecial?_slot (name := Str.ofString "__next__") (T := "enumerate") ⟨_, he, rfl⟩ F.slot_enumerate_next (wpAny_call_entry F.slot_enumerate_next ⟨_, he, rfl⟩ F.entry_enumerate_next ?_ (F.args_enumerate_next_1 _))))
  show wpAny _ _ (field (.ref e) 2 >>= _) _ _ _
  refine wpAny_bind (wpAny_field he rfl (x := .ref it) rfl (wpAny_bind (wpAny_nextOf_tuple_end hh hit hl hx fun h' x k hx' => ?_)))
  obtain ⟨o, ho, hc⟩ := hx'
  exact wpAny_bind (wpAny_isInstance (T := "StopIteration") (b := true) ⟨o, ho, hc⟩ isSubtype_stop (wpAny_pure (hQ _ k)))
def IteT (K : PySem.W.Frag) (a : Addr) : It :=
  ⟨fun i H => ∃ (xs : List V) (x : V), SqT K H a xs ∧ xs[i]? = some x, fun i H v H' => ∃ T x, v = .ref T ∧ H T = none ∧ H' = L2.upd H T (.tup [.int (i : Nat), x]) ∧ ∀ xs, SqT K H a xs → xs[i]? = some x, fun i H => ∃ xs : List V, SqT K H a xs ∧ xs.length ≤ i⟩
theorem turn_enumT {P : Program} {w : World} {K : PySem.W.Frag} {elts : List Expr} {kk : Nat} {tpos : Pos} (a e it : Addr) :
    Turn P w K (.Tuple elts kk tpos) (IteT K a) [e, it] e (fun i h => (∃ old, IsEnum h e it ((i : Nat) : Int) old) ∧ h.IsTupleIter it a i ∧ e ≠ it ∧ a ≠ it ∧ a ≠ e) where
  mem := by simp
  obj := fun i h st b hb => by
    obtain ⟨⟨old, he⟩, ⟨o, ho, hc, hd⟩, _⟩ := st
    rcases (by simpa using hb : b = e ∨ b = it) with z | z
    · rw [z]; exact ⟨_, he, fun v q => nomatch q⟩
    · rw [z]; exact ⟨o, ho, fun v q => by rw [hd] at q; cases q⟩
  keep := fun i h h' st k => let ⟨⟨old, he⟩, hi, hne⟩ := st; ⟨⟨old, k e (by simp) _ he⟩, hi.at fun o q => k it (by simp) o q, hne⟩
  item := by
    intro X hP hw hK hc i pins s σ H E I hf st hg
    subst hP hw hK
    obtain ⟨⟨old, he⟩, hit, hne, hai, hae⟩ := st
    obtain ⟨xs, x, hq, hx⟩ := hg
    obtain ⟨its, rv, p, hz⟩ := I.tuple hq
    obtain ⟨u, hu, ru⟩ := rv.get hx
    have hel : e < s.heap.objs.size := Heap.lt_size he
    have hil : it < s.heap.objs.size := by obtain ⟨_, q, _⟩ := hit; exact Heap.lt_size q
    have hi : i < its.toArray.size := by
      have := (List.getElem?_eq_some_iff.mp hu).1
      simpa using this
    refine wpAny_pyNext_enum_itemD (Draws.tuple (A := X.A.in1) (I.ok.hd hc) it a hai its.toArray) he ⟨hit, p⟩ hi hne (by simp; exact ⟨hne, Ne.symm hae⟩) fun u' h' tk hu' ho st' hT hsz hk => ?_
    obtain ⟨hit', _⟩ := st'
    have eu : u' = u := by
      rw [show its.toArray[i]? = its[i]? by simp, hu] at hu'
      exact (Option.some.inj hu').symm
    subst eu
    refine ⟨_, rfl, wpAny_letOwnedTupleGo_enum (s := { s with heap := h', toks := tk + 1 }) ho fun h'' he' sb => ?_⟩
    have hT2 : h''.get? s.heap.objs.size = some { cls := .type "tuple", data := .seq #[.int i tk, u'] } := (sb.2 _ (Nat.ne_of_gt hel)).trans hT
    have new : ObjOk X.prog X.w (L2.upd H s.heap.objs.size (.tup [.int (i : Nat), x])) h'' s.heap.objs.size (.tup [.int (i : Nat), x]) :=
      ⟨by show 2 ≤ sizeLine; decide, [.int i tk, u'], .cons ⟨_, rfl⟩ (.cons ru .nil), ⟨_, hT2, rfl, _, rfl⟩⟩
    have I1 : Inv X pins σ (L2.upd H s.heap.objs.size (.tup [.int (i : Nat), x])) { s with heap := h'', toks := tk + 1 } :=
      I.turnedNew (ch := [e, it]) (fun b ob hb q => (sb.2 b (fun z => hb (by simp [z]))).trans (hk b ob (fun z => hb (by simp [z])) (fun z => hb (by simp [z])) q)) hf (Nat.le_refl _) new
    refine ⟨.ref s.heap.objs.size, _, I1, rfl, ⟨_, x, rfl, I.hok.fresh (Nat.le_refl _), rfl, fun ys hy => by rw [I.tuple_inj hy hq]; exact hx⟩, ⟨⟨u', ?_⟩, hit'.at fun o q => (sb.2 it (Ne.symm hne)).trans q, hne, hai, hae⟩, fun b hb => ?_⟩
    · have e1 : ((i + 1 : Nat) : Int) = (i : Int) + 1 := by omega
      rw [e1]; exact he'
    · have hb' : b < s.heap.objs.size := by
        rcases (by simpa using hb : b = e ∨ b = it) with z | z
        · rw [z]; exact hel
        · rw [z]; exact hil
      rw [L2.upd_ne (Nat.ne_of_lt hb')]
      exact (hf b hb).1
  done := by
    intro X hP hw hK hc i pins s σ H E I hf st hg
    subst hP hw hK
    obtain ⟨⟨old, he⟩, hit, hne, hai, hae⟩ := st
    obtain ⟨xs, hq, hx⟩ := hg
    obtain ⟨its, rv, p, hz⟩ := I.tuple hq
    obtain ⟨f0, f1, f2, f3, f4, f5⟩ := hf it (by simp)
    have hl := rv.length
    exact enumT_end (I.ok.hd hc) he hit p (by simp; omega) fun h' eb => ⟨rfl, I.turned (t' := s.toks) (fun b o hb q => eb b o hb q) f0 f1 f3 f4 f5⟩
  self := fun A i s Q E st h => let ⟨⟨_, he⟩, _⟩ := st; wpAny_pyIter_enum he h
def iEnumA (K : PySem.W.Frag) (ta : TA) : TI := fun σ H R => ta σ H fun vs H1 => ∃ a xs, vs = [.ref a] ∧ ((SqL K H1 a xs ∧ R (Ite K a) H1) ∨ (SqT K H1 a xs ∧ R (IteT K a) H1))
theorem pi_enumA {X : Cx} {e : Expr} {ta : TA} {p pos tpos : Pos} {elts : List Expr} {kk : Nat} (hg : Gl X "enumerate") (hm : X.mg "enumerate" = none) (ha : PA X [e] ta) (hs : starEach [e] X.env = [(false, eval e X.env)]) :
    PI X (.Tuple elts kk tpos) (.Call (.Name "enumerate" p) [e] [] pos) (iEnumA X.K ta) := by
  refine ⟨fun pins s σ H R I h => ?_⟩
  refine Call_ (ld_blt I hg hm boot_enumerate (PyProof.Rows.callWith_type1 (thn (ha.run pos pins s σ H _ I h) fun us s1 ⟨vs, H1, I1, r1, q1⟩ => ?_) hs rfl))
  obtain ⟨a, xs, ex, q1⟩ := q1
  subst ex
  cases r1 with
  | cons r rr =>
    cases rr
    cases r
    have fp : ∀ b, b ∈ [s1.heap.objs.size + 1, s1.heap.objs.size] → FpOk X pins H1 b := fun b hb => by
      have hle : s1.heap.objs.size ≤ b := by
        rcases (by simpa using hb : b = s1.heap.objs.size + 1 ∨ b = s1.heap.objs.size) with z | z
        · rw [z]; exact Nat.le_add_right _ _
        · rw [z]; exact Nat.le_refl _
      exact I1.fpOk hle (I1.hok.fresh hle)
    rcases q1 with ⟨hq, q⟩ | ⟨hq, q⟩
    · obtain ⟨its, rv, p', hz⟩ := I1.list hq
      refine call_enumerate_list p'.isList fun h' he hit hsz hk => wpAny_pyIter_enum he ?_
      have I2 : Inv X pins σ H1 { s1 with heap := h' } := I1.kept (t' := s1.toks) hk
      exact ⟨s1.heap.objs.size + 1, [s1.heap.objs.size + 1, s1.heap.objs.size], _, _, H1, rfl, I2, turn_enum a (s1.heap.objs.size + 1) s1.heap.objs.size, ⟨⟨.none, he⟩, hit, Nat.succ_ne_self _⟩, fp, q⟩
    · obtain ⟨its, rv, p', hz⟩ := I1.tuple hq
      have hal : a < s1.heap.objs.size := by obtain ⟨o, ho, _⟩ := id p'; exact Heap.lt_size ho
      refine call_enumT p' fun h' he hit hk => wpAny_pyIter_enum he ?_
      have I2 : Inv X pins σ H1 { s1 with heap := h' } := I1.kept (t' := s1.toks) hk
      exact ⟨s1.heap.objs.size + 1, [s1.heap.objs.size + 1, s1.heap.objs.size], _, _, H1, rfl, I2, turn_enumT a (s1.heap.objs.size + 1) s1.heap.objs.size, ⟨⟨.none, he⟩, hit, Nat.succ_ne_self _, Nat.ne_of_lt hal, Nat.ne_of_lt (Nat.lt_succ_of_lt hal)⟩, fp, q⟩
theorem ito_enumT {H0 : Hp} {a : Addr} {ds : List D} {still : DH → Prop} (hs : ∀ H h, TupLe H0 H → RH G H h → still h → ∃ vs, SqT G.K H a vs ∧ Reps G.K H ds vs) : ItOk G H0 (IteT G.K a) (enumD ds) still where
  go i H h d tl rh st e := by
    obtain ⟨vs, q, r⟩ := hs H h tl rh st
    unfold enumD at e
    rw [List.getElem?_map] at e
    obtain ⟨⟨j, c⟩, ec, rfl⟩ := Option.map_eq_some_iff.mp e
    rw [List.getElem?_zip_eq_some] at ec
    obtain ⟨e1, e2⟩ := ec
    obtain ⟨l, e1⟩ := List.getElem?_eq_some_iff.mp e1
    simp at e1
    subst e1
    obtain ⟨w, ew, rw_⟩ := r.get e2
    refine ⟨⟨vs, w, q, ew⟩, fun x H' y => ?_⟩
    obtain ⟨T, x', rfl, hT, rfl, all⟩ := y
    have := all vs q
    rw [ew] at this
    cases this
    exact ⟨TupLe.new hT, rh.more hT, rep_tup upd_same (reps_cons rep_int (reps_cons (Rep.keep (TupLe.new hT) _ _ rw_) reps_nil))⟩
  stop H h tl rh st := by
    obtain ⟨vs, q, r⟩ := hs H h tl rh st
    refine ⟨vs, q, ?_⟩
    rw [r.length]
    simp [enumD]
theorem si_enum {a : Expr} {t : DA} {p pos tpos : Pos} {elts : List Expr} {kk : Nat} (hK : X.K = G.K) (hg : Gl X "enumerate") (hm : X.mg "enumerate" = none) (hs : starEach [a] X.env = [(false, eval a X.env)]) (ha : PA X [a] (LA G W t)) : PI X (.Tuple elts kk tpos) (.Call (.Name "enumerate" p) [a] [] pos) (LI G W (iEnumD t)) := pi_imp (pi_enumA hg hm ha hs) (by
  rintro σ H R ⟨en, h, P, R', re, rh, t, fin, x⟩
  refine LA.mk re rh t x fun ds h1 vs H1 t1 tl1 rh1 r1 re1 x1 => ?_
  split at t1
  · rename_i x
    obtain ⟨v, rfl, r⟩ := r1.one
    rw [hK]
    rcases t1 with ⟨xs, e, p⟩ | ⟨xs, rfl, p⟩
    · obtain ⟨a, ws, ev, q, rs⟩ := lstOf_ok rh1 r e
      exact ⟨a, ws, by rw [ev], .inl ⟨q, fin _ _ h1 H1 _ p tl1 rh1 (ito_enum fun H' h' tl' rh' st => lst_still e rh1 r ev q rs tl' rh' st)⟩⟩
    · obtain ⟨a, ws, ev, q, rs⟩ := r.tup_
      exact ⟨a, ws, by rw [ev], .inr ⟨q, fin _ _ h1 H1 _ p tl1 rh1 (ito_enumT fun H' h' tl' rh' st => ⟨ws, SqT.keep tl' q, Reps.keep tl' _ _ rs⟩)⟩⟩
  · exact t1.elim)
theorem ito_zip {H0 : Hp} {J : It} {ds es : List D} {still : DH → Prop} {Sq : Hp → Addr → List V → Prop} {a b : Addr}
    (hJ : J = ⟨fun i H => ∃ (xs ys : List V) (x y : V), Sq H a xs ∧ Sq H b ys ∧ xs[i]? = some x ∧ ys[i]? = some y, fun i H v H' => ∃ T x y, v = .ref T ∧ H T = none ∧ H' = L2.upd H T (.tup [x, y]) ∧ (∀ xs, Sq H a xs → xs[i]? = some x) ∧ ∀ ys, Sq H b ys → ys[i]? = some y,
      fun i H => ∃ xs ys : List V, Sq H a xs ∧ Sq H b ys ∧ (xs.length ≤ i ∨ ys.length ≤ i)⟩)
    (h1 : ∀ H h, TupLe H0 H → RH G H h → still h → ∃ vs, Sq H a vs ∧ Reps G.K H ds vs) (h2 : ∀ H h, TupLe H0 H → RH G H h → still h → ∃ vs, Sq H b vs ∧ Reps G.K H es vs) : ItOk G H0 J (zipD ds es) still where
  go i H h d tl rh st e := by
    subst hJ
    obtain ⟨vs, q, r⟩ := h1 H h tl rh st
    obtain ⟨us, q', r'⟩ := h2 H h tl rh st
    unfold zipD at e
    rw [List.getElem?_map] at e
    obtain ⟨⟨j, c⟩, ec, rfl⟩ := Option.map_eq_some_iff.mp e
    rw [List.getElem?_zip_eq_some] at ec
    obtain ⟨e1, e2⟩ := ec
    obtain ⟨w, ew, rw_⟩ := r.get e1
    obtain ⟨z, ez, rz⟩ := r'.get e2
    refine ⟨⟨vs, us, w, z, q, q', ew, ez⟩, fun x H' y => ?_⟩
    obtain ⟨T, x', y', rfl, hT, rfl, all, all'⟩ := y
    have := all vs q
    rw [ew] at this
    cases this
    have := all' us q'
    rw [ez] at this
    cases this
    exact ⟨TupLe.new hT, rh.more hT, rep_tup upd_same (reps_cons (Rep.keep (TupLe.new hT) _ _ rw_) (reps_cons (Rep.keep (TupLe.new hT) _ _ rz) reps_nil))⟩
  stop H h tl rh st := by
    subst hJ
    obtain ⟨vs, q, r⟩ := h1 H h tl rh st
    obtain ⟨us, q', r'⟩ := h2 H h tl rh st
    refine ⟨vs, us, q, q', ?_⟩
    rw [r.length, r'.length]
    simp [zipD]
    omega
theorem si_zip {a b : Expr} {t : DA} {p pos tpos : Pos} {elts : List Expr} {kk : Nat} (hK : X.K = G.K) (hg : Gl X "zip") (hm : X.mg "zip" = none) (hs : starEach [a, b] X.env = (false, eval a X.env) :: starEach [b] X.env) (hpl : (backTo pos (starEach [b] X.env)).any (·.1) = false) (ha : PA X [a, b] (LA G W t)) :
    PI X (.Tuple elts kk tpos) (.Call (.Name "zip" p) [a, b] [] pos) (LI G W (iZipD t)) := pi_imp (RZ.pi_zipA hg hm ha hs hpl) (by
  rintro σ H R ⟨en, h, P, R', re, rh, t, fin, x⟩
  refine LA.mk re rh t x fun ds h1 vs H1 t1 tl1 rh1 r1 re1 x1 => ?_
  rw [hK]
  split at t1
  · rename_i x y
    obtain ⟨v, w, rfl, r, r'⟩ := r1.two
    rcases t1 with ⟨xs, ys, e, e', p⟩ | ⟨xs, ys, rfl, rfl, p⟩
    · obtain ⟨a, ws, ev, q, rs⟩ := lstOf_ok rh1 r e
      obtain ⟨b, us, ew, q', rs'⟩ := lstOf_ok rh1 r' e'
      exact ⟨a, b, ws, us, by rw [ev, ew], .inl ⟨q, q', fin _ _ h1 H1 _ p tl1 rh1 (ito_zip (Sq := SqL G.K) rfl (fun H' h' tl' rh' st => lst_still e rh1 r ev q rs tl' rh' st.1) (fun H' h' tl' rh' st => lst_still e' rh1 r' ew q' rs' tl' rh' st.2))⟩⟩
    · obtain ⟨a, ws, ev, q, rs⟩ := r.tup_
      obtain ⟨b, us, ew, q', rs'⟩ := r'.tup_
      exact ⟨a, b, ws, us, by rw [ev, ew], .inr ⟨q, q', fin _ _ h1 H1 _ p tl1 rh1 (ito_zip (Sq := SqT G.K) rfl (fun H' h' tl' rh' st => ⟨ws, SqT.keep tl' q, Reps.keep tl' _ _ rs⟩) (fun H' h' tl' rh' st => ⟨us, SqT.keep tl' q', Reps.keep tl' _ _ rs'⟩))⟩⟩
  · exact t1.elim)
theorem ito_rev {H0 : Hp} {J : It} {ds : List D} {n : Nat} {still : DH → Prop} {Sq : Hp → Addr → List V → Prop} {a : Addr} (hn : n = ds.length)
    (hJ : J = ⟨fun i H => i < n ∧ ∃ (xs : List V) (x : V), Sq H a xs ∧ xs[n - 1 - i]? = some x, fun i H x H' => H' = H ∧ ∀ xs, Sq H a xs → xs[n - 1 - i]? = some x, fun i _ => n ≤ i⟩)
    (h1 : ∀ H h, TupLe H0 H → RH G H h → still h → ∃ vs, Sq H a vs ∧ Reps G.K H ds vs) : ItOk G H0 J ds.reverse still where
  go i H h d tl rh st e := by
    subst hJ hn
    obtain ⟨vs, q, r⟩ := h1 H h tl rh st
    have l := (List.getElem?_eq_some_iff.mp e).1
    rw [List.length_reverse] at l
    rw [List.getElem?_reverse l] at e
    obtain ⟨w, ew, rw_⟩ := r.get e
    refine ⟨⟨l, vs, w, q, ew⟩, fun x H' y => ?_⟩
    obtain ⟨rfl, all⟩ := y
    have := all vs q
    rw [ew] at this
    cases this
    exact ⟨TupLe.refl _, rh, rw_⟩
  stop H h tl rh st := by
    subst hJ hn
    show ds.length ≤ ds.reverse.length
    rw [List.length_reverse]
    exact Nat.le_refl _
theorem si_rev {e : Expr} {de : DE} {p pos : Pos} (hK : X.K = G.K) (hg : Gl X "reversed") (hm : X.mg "reversed" = none) (hs : starEach [e] X.env = (false, eval e X.env) :: starEach [] X.env) (he : PE X e (LE G W de)) : PI X tg (.Call (.Name "reversed" p) [e] [] pos) (LI G W (iRevD de)) := pi_imp (RT.pi_revA hg hm he hs) (by
  rintro σ H R ⟨en, h, P, R', re, rh, t, fin, x⟩
  refine LE.mk re rh t x fun d h1 v H1 t1 tl1 rh1 r1 re1 x1 => ?_
  rw [hK]
  have lst : (∃ xs, lstOf h1 d = some xs ∧ P xs.reverse (stillL d xs) h1) → ∃ (a : Addr) (xs : List V), v = .ref a ∧ ((SqL G.K H1 a xs ∧ R (Itv G.K a xs.length) H1) ∨ (SqT G.K H1 a xs ∧ R (RT.ItvT G.K a xs.length) H1)) := fun ⟨xs, e, p⟩ => by
    obtain ⟨a, ws, ev, q, rs⟩ := lstOf_ok rh1 r1 e
    exact ⟨a, ws, ev, .inl ⟨q, fin _ _ h1 H1 _ p tl1 rh1 (ito_rev (Sq := SqL G.K) rs.length rfl fun H' h' tl' rh' st => lst_still e rh1 r1 ev q rs tl' rh' st)⟩⟩
  cases d with
  | tup ds =>
    obtain ⟨a, ws, ev, q, rs⟩ := r1.tup_
    exact ⟨a, ws, ev, .inr ⟨q, fin _ _ h1 H1 _ t1 tl1 rh1 (ito_rev (Sq := SqT G.K) rs.length rfl fun H' h' tl' rh' st => ⟨ws, SqT.keep tl' q, Reps.keep tl' _ _ rs⟩)⟩⟩
  | ktup ds =>
    obtain ⟨a, ws, ev, q, rs⟩ := r1.ktup_
    exact ⟨a, ws, ev, .inr ⟨q, fin _ _ h1 H1 _ t1 tl1 rh1 (ito_rev (Sq := SqT G.K) rs.length rfl fun H' h' tl' rh' st => ⟨ws, SqT.keep tl' q, Reps.keep tl' _ _ rs⟩)⟩⟩
  | non => exact lst t1
  | bl _ => exact lst t1
  | int _ => exact lst t1
  | str _ => exact lst t1
  | rol _ => exact lst t1
  | ref _ => exact lst t1)
theorem si_bad {it : Expr} : PI X tg it (LI G W iBad) := ⟨fun _ _ _ _ _ _ ⟨_, _, _, _, _, _, z, _⟩ => z.elim⟩
end

/-! ### comprehensions -/
def wipeD (e : DSt) : List Nat → DSt
  | [] => e
  | v :: vs => (wipeD e vs).set v none
/-- over the items ds: L the new list -/
def lcS (L : Addr) (still : DH → Prop) (g : DG) (tt : DT) (te : DE) (en : DSt) (vs : List Nat) : List D → List D → DH → KD → Prop
  | [], _, h, P => still h ∧ P (.ref L) h
  | d :: r, acc, h, P => still h ∧ g d en h fun e1 h1 => tt e1 h1 (fun b h2 => if b = true then te e1 h2 (fun y h3 => h3 L = some (.lst acc) ∧ acc.length < sizeLine ∧ lcS L still g tt te en vs r (acc ++ [y]) (up h3 L (.lst (acc ++ [y]))) P) (fun _ _ => False) else h2 L = some (.lst acc) ∧ lcS L still g tt te en vs r acc h2 P) (fun _ _ => False)
def cLc (i : DI) (g : DG) (tt : DT) (te : DE) (vs : List Nat) : DE := fun e h P R => i e h (fun ds still h1 => ∀ L, h1 L = none → lcS L still g tt te (wipeD e vs) vs ds [] (up h1 L (.lst [])) P) R
def tYesD : DT := fun _ h P _ => P true h
theorem wipe_re {K : PySem.W.Frag} {H : Hp} {e : DSt} {σ : L2.St} (r : RE K H e σ) : ∀ vs : List Nat, RE K H (wipeD e vs) (wipe σ vs)
  | [] => r
  | v :: vs => by
    unfold wipeD wipe
    exact (wipe_re r vs).unset
section
variable {X : Cx} {G : Pg} {W : WX} {tg iter elt : Expr} {ifs : List Expr} {scope : Scope} {own : List (Str × Nat)} {di : DI} {g : DG} {tt : DT} {te : DE} {pos : Pos} {S : List Nat}
theorem le_lc (hS : ∀ i ∈ S, i ∈ own.map (·.2)) : ∀ σ H Q, LE G W (cLc di g tt te (own.map (·.2))) σ H Q → tLc (LI G W di) (LG G S g) (LT G (fun _ _ _ _ => False) tt) (LE G (fun _ _ _ _ => False) te) (own.map (·.2)) σ H Q := by
  rintro σ H Q ⟨en, h, P, R, re, rh, t, fin, x⟩
  generalize own.map (·.2) = vs at *
  have xx : ∀ {σ : L2.St} {H : Hp}, LX G (fun _ _ _ _ => False) σ H (fun _ _ => False) := fun {σ H} _ _ _ _ _ z => z.elim
  refine ⟨en, h, _, R, re, rh, t, fun ds still h1 H1 J q tl1 rh1 ok L hL => ?_, x⟩
  have q0 := q L (rh1.fresh hL)
  have tlL : TupLe H1 (L2.upd H1 L (.lst [])) := TupLe.new hL
  refine ⟨fun i m H' => m = ds.length - i ∧ i ≤ ds.length ∧ ∃ acc h' va, TupLe H1 H' ∧ RH G H' h' ∧ H' L = some (.lst va) ∧ Reps G.K H' acc va ∧ h' L = some (.lst acc) ∧ lcS L still g tt te (wipeD en vs) vs (ds.drop i) acc h' P, ⟨_, rfl, Nat.zero_le _, [], _, [], tlL, rh1.upd (fun z e => by rw [hL] at e; cases e) (OR.lst hL reps_nil), upd_same, reps_nil, up_same, q0⟩, ?_⟩
  rintro i m H2 ⟨rfl, hi, acc, h2, va, tl2, rh2, e2, r2, d2, q2⟩
  by_cases hlt : i < ds.length
  · right
    have ed : ds.drop i = ds[i] :: ds.drop (i + 1) := List.drop_eq_getElem_cons hlt
    rw [ed] at q2
    obtain ⟨st, q2⟩ := q2
    obtain ⟨go, yl⟩ := ok.go i H2 h2 ds[i] tl2 rh2 st (List.getElem?_eq_getElem hlt)
    refine ⟨go, fun H' => ∃ acc h' va, TupLe H1 H' ∧ RH G H' h' ∧ H' L = some (.lst va) ∧ Reps G.K H' acc va ∧ h' L = some (.lst acc) ∧ lcS L still g tt te (wipeD en vs) vs (ds.drop (i + 1)) acc h' P, fun H' w => ⟨_, by omega, rfl, hlt, w⟩, fun x H3 y => ?_⟩
    obtain ⟨tl3, rh3, r3⟩ := yl x H3 y
    refine ⟨ds[i], wipeD en vs, h2, _, r3, wipe_re (re.keep (tl1.trans (tl2.trans tl3))) vs, rh3, q2, fun e4 h4 σ4 H4 q4 tl4 rh4 re4 w4 => ⟨?_, ?_⟩⟩
    · have := w4 vs hS
      rw [this]
      refine List.ext_getElem? fun j => ?_
      rw [wipe_get, wipe_get]
      by_cases m : j ∈ vs
      · rw [if_pos m, if_pos m]
        cases σ[j]? <;> rfl
      · rw [if_neg m]
    · refine LT.mk re4 rh4 q4 xx fun b h5 H5 q5 tl5 rh5 re5 x5 => ?_
      cases b with
      | true =>
        rw [if_pos rfl] at q5 ⊢
        refine LE.mk re5 rh5 q5 xx fun d h6 v H6 q6 tl6 rh6 r6 re6 x6 => ?_
        obtain ⟨e6, l6, q6⟩ := q6
        obtain ⟨va6, ea6, ra6⟩ := rh6.lst e6
        have hf : ∀ u, H6 L = some u → fixedO u = false := fun u z => by rw [ea6] at z; cases z; rfl
        have tl7 : TupLe H6 (L2.upd H6 L (.lst (va6 ++ [v]))) := TupLe.upd hf
        refine ⟨va6, ea6, by rw [ra6.length]; exact l6, _, _, va6 ++ [v], tl2.trans (tl3.trans (tl4.trans (tl5.trans (tl6.trans tl7)))), rh6.upd hf ?_, upd_same, ?_, up_same, q6⟩
        · exact ⟨_, upd_same, (Reps.keep tl7 _ _ ra6).append (reps_cons (Rep.keep tl7 _ _ r6) reps_nil)⟩
        · exact (Reps.keep tl7 _ _ ra6).append (reps_cons (Rep.keep tl7 _ _ r6) reps_nil)
      | false =>
        rw [if_neg Bool.false_ne_true] at q5 ⊢
        obtain ⟨e5, q5⟩ := q5
        obtain ⟨va5, ea5, ra5⟩ := rh5.lst e5
        exact ⟨acc, h5, va5, tl2.trans (tl3.trans (tl4.trans tl5)), rh5, ea5, ra5, e5, q5⟩
  · left
    have ei : i = ds.length := by omega
    subst ei
    rw [List.drop_length] at q2
    exact ⟨ok.stop H2 h2 tl2 rh2 q2.1, fin _ h2 _ H2 q2.2 (tl1.trans tl2) rh2 rep_ref⟩
theorem se_lc (hc : X.calm = true) (hN : X.N.Nodup) (hS : ∀ i ∈ S, i ∈ own.map (·.2)) (hi : PI X tg iter (LI G W di)) (ok : BlkOk X.N X.env.scope scope own)
    (hg : ∀ (s : Shared) (H : Hp) (C : Addr) (cl : List (Str × Addr)) (fp : List Addr), PG (X.blk s H scope (compEnvC scope cl C X.env) fp) tg (LG G S g)) (ht : ∀ (s : Shared) (H : Hp) (C : Addr) (cl : List (Str × Addr)) (fp : List Addr), PTs (X.blk s H scope (compEnvC scope cl C X.env) fp) ifs (LT G (fun _ _ _ _ => False) tt))
    (he : ∀ (s : Shared) (H : Hp) (C : Addr) (cl : List (Str × Addr)) (fp : List Addr), PE (X.blk s H scope (compEnvC scope cl C X.env) fp) elt (LE G (fun _ _ _ _ => False) te)) (hs : ∀ x, foldedSetIterable iter X.env x = pure x) :
    PE X (.ListComp elt [⟨tg, iter, ifs, 0⟩] scope pos) (LE G W (cLc di g tt te (own.map (·.2)))) := pe_imp (pe_lc hc hN hi ok hg ht he hs) (le_lc hS)
theorem ss_lc {i : Nat} {y : Str} {py spos : Pos} (hc : X.calm = true) (hN : X.N.Nodup) (hy : X.N[i]? = some y) (hyl : X.env.scope.names.lookup y = some .local) (hsw : swapsWith (.ListComp elt [⟨tg, iter, ifs, 0⟩] scope pos) (some (.Name y py)) spos.line X.env = pure true)
    (hS : ∀ i ∈ S, i ∈ own.map (·.2)) (hi : PI X tg iter (LI G W di)) (ok : BlkOk X.N X.env.scope scope own)
    (hg : ∀ (s : Shared) (H : Hp) (C : Addr) (cl : List (Str × Addr)) (fp : List Addr), PG (X.blk s H scope (compEnvC scope cl C X.env) fp) tg (LG G S g)) (ht : ∀ (s : Shared) (H : Hp) (C : Addr) (cl : List (Str × Addr)) (fp : List Addr), PTs (X.blk s H scope (compEnvC scope cl C X.env) fp) ifs (LT G (fun _ _ _ _ => False) tt))
    (he : ∀ (s : Shared) (H : Hp) (C : Addr) (cl : List (Str × Addr)) (fp : List Addr), PE (X.blk s H scope (compEnvC scope cl C X.env) fp) elt (LE G (fun _ _ _ _ => False) te)) (hs : ∀ x, foldedSetIterable iter X.env x = pure x) :
    PS X (.Assign [.Name y py] (.ListComp elt [⟨tg, iter, ifs, 0⟩] scope pos) spos) (LS G W (sAsg (cLc di g tt te (own.map (·.2))) (gN i))) := ps_imp (ps_setLc hc hN hy hyl hsw hi ok hg ht he hs) (by
  rintro D σ H ⟨e, h, D', re, rh, z, l⟩
  refine le_lc hS σ H _ (LE.mk re rh z (l.x re) fun d h1 v H1 t1 tl1 rh1 r1 re1 x1 => ?_)
  exact l.nx _ h1 _ H1 t1 tl1 rh1 (re1.set r1))
end
/-! ### comprehensions with two loops -/
/-- the inner loop of a comprehension with two: L the list -/
def lcI (L : Addr) (still : DH → Prop) (g : DG) (tt : DT) (te : DE) (en : DSt) : List D → List D → DH → (List D → DH → Prop) → Prop
  | [], acc, h, K => still h ∧ h L = some (.lst acc) ∧ K acc h
  | d :: r, acc, h, K => still h ∧ g d en h fun e1 h1 => tt e1 h1 (fun b h2 => if b = true then te e1 h2 (fun y h3 => h3 L = some (.lst acc) ∧ acc.length < sizeLine ∧ lcI L still g tt te en r (acc ++ [y]) (up h3 L (.lst (acc ++ [y]))) K) (fun _ _ => False) else h2 L = some (.lst acc) ∧ lcI L still g tt te en r acc h2 K) (fun _ _ => False)
def lcS2 (L : Addr) (still : DH → Prop) (g : DG) (tt : DT) (di1 : DI) (g1 : DG) (tt1 : DT) (te : DE) (en : DSt) (vs1 : List Nat) : List D → List D → DH → KD → Prop
  | [], _, h, P => still h ∧ P (.ref L) h
  | d :: r, acc, h, P => still h ∧ g d en h fun e1 h1 => tt e1 h1 (fun b h2 => if b = true then di1 e1 h2 (fun ds1 still1 h3 => h3 L = some (.lst acc) ∧ lcI L still1 g1 tt1 te (wipeD e1 vs1) ds1 acc h3 (fun acc' h' => lcS2 L still g tt di1 g1 tt1 te en vs1 r acc' h' P)) (fun _ _ => False)
      else h2 L = some (.lst acc) ∧ lcS2 L still g tt di1 g1 tt1 te en vs1 r acc h2 P) (fun _ _ => False)
def cLc2 (i : DI) (g : DG) (tt : DT) (di1 : DI) (g1 : DG) (tt1 : DT) (te : DE) (vs vs1 : List Nat) : DE := fun e h P R => i e h (fun ds still h1 => ∀ L, h1 L = none → lcS2 L still g tt di1 g1 tt1 te (wipeD e vs) vs1 ds [] (up h1 L (.lst [])) P) R
section
variable {X : Cx} {G : Pg} {W : WX} {tg iter tg1 iter1 elt : Expr} {ifs ifs1 : List Expr} {scope : Scope} {own : List (Str × Nat)} {vs1 : List Nat} {di di1 : DI} {g g1 : DG} {tt tt1 : DT} {te : DE} {pos : Pos} {S S1 : List Nat}
theorem le_lc2 (hS : ∀ i ∈ S, i ∈ own.map (·.2)) (hS1 : ∀ i ∈ S1, i ∈ vs1) : ∀ σ H Q, LE G W (cLc2 di g tt di1 g1 tt1 te (own.map (·.2)) vs1) σ H Q →
    tLc2 (LI G W di) (LG G S g) (LT G (fun _ _ _ _ => False) tt) (LI G (fun _ _ _ _ => False) di1) (LG G S1 g1) (LT G (fun _ _ _ _ => False) tt1) (LE G (fun _ _ _ _ => False) te) (own.map (·.2)) vs1 σ H Q := by
  rintro σ H Q ⟨en, h, P, R, re, rh, t, fin, x⟩
  generalize own.map (·.2) = vs at *
  have xx : ∀ {σ : L2.St} {H : Hp}, LX G (fun _ _ _ _ => False) σ H (fun _ _ => False) := fun {σ H} _ _ _ _ _ z => z.elim
  have wp : ∀ {vs S : List Nat} {σ σ4 : L2.St}, (∀ i ∈ S, i ∈ vs) → (∀ vs : List Nat, (∀ i ∈ S, i ∈ vs) → wipe σ4 vs = wipe (wipe σ vs) vs) → wipe σ4 vs = wipe σ vs := fun {vs S σ σ4} hS w4 => by
    have := w4 vs hS
    rw [this]
    refine List.ext_getElem? fun j => ?_
    rw [wipe_get, wipe_get]
    by_cases m : j ∈ vs
    · rw [if_pos m, if_pos m]
      cases σ[j]? <;> rfl
    · rw [if_neg m]
  refine ⟨en, h, _, R, re, rh, t, fun ds still h1 H1 J q tl1 rh1 ok L hL => ?_, x⟩
  have q0 := q L (rh1.fresh hL)
  have tlL : TupLe H1 (L2.upd H1 L (.lst [])) := TupLe.new hL
  refine ⟨fun i m H' => m = ds.length - i ∧ i ≤ ds.length ∧ ∃ acc h' va, TupLe H1 H' ∧ RH G H' h' ∧ H' L = some (.lst va) ∧ Reps G.K H' acc va ∧ h' L = some (.lst acc) ∧ lcS2 L still g tt di1 g1 tt1 te (wipeD en vs) vs1 (ds.drop i) acc h' P, ⟨_, rfl, Nat.zero_le _, [], _, [], tlL, rh1.upd (fun z e => by rw [hL] at e; cases e) (OR.lst hL reps_nil), upd_same, reps_nil, up_same, q0⟩, ?_⟩
  rintro i m H2 ⟨rfl, hi, acc, h2, va, tl2, rh2, e2, r2, d2, q2⟩
  by_cases hlt : i < ds.length
  · right
    have ed : ds.drop i = ds[i] :: ds.drop (i + 1) := List.drop_eq_getElem_cons hlt
    rw [ed] at q2
    obtain ⟨st, q2⟩ := q2
    obtain ⟨go, yl⟩ := ok.go i H2 h2 ds[i] tl2 rh2 st (List.getElem?_eq_getElem hlt)
    refine ⟨go, fun H' => ∃ acc h' va, TupLe H1 H' ∧ RH G H' h' ∧ H' L = some (.lst va) ∧ Reps G.K H' acc va ∧ h' L = some (.lst acc) ∧ lcS2 L still g tt di1 g1 tt1 te (wipeD en vs) vs1 (ds.drop (i + 1)) acc h' P, fun H' w => ⟨_, by omega, rfl, hlt, w⟩, fun x H3 y => ?_⟩
    obtain ⟨tl3, rh3, r3⟩ := yl x H3 y
    refine ⟨ds[i], wipeD en vs, h2, _, r3, wipe_re (re.keep (tl1.trans (tl2.trans tl3))) vs, rh3, q2, fun e4 h4 σ4 H4 q4 tl4 rh4 re4 w4 => ⟨?_, ?_⟩⟩
    · have := w4 vs hS
      rw [this]
      refine List.ext_getElem? fun j => ?_
      rw [wipe_get, wipe_get]
      by_cases m : j ∈ vs
      · rw [if_pos m, if_pos m]
        cases σ[j]? <;> rfl
      · rw [if_neg m]
    · refine LT.mk re4 rh4 q4 xx fun b h5 H5 q5 tl5 rh5 re5 x5 => ?_
      cases b with
      | false =>
        rw [if_neg Bool.false_ne_true] at q5 ⊢
        obtain ⟨e5, q5⟩ := q5
        obtain ⟨va5, ea5, ra5⟩ := rh5.lst e5
        exact ⟨acc, h5, va5, tl2.trans (tl3.trans (tl4.trans tl5)), rh5, ea5, ra5, e5, q5⟩
      | true =>
        rw [if_pos rfl] at q5 ⊢
        have tl25 : TupLe H1 H5 := tl2.trans (tl3.trans (tl4.trans tl5))
        refine ⟨e4, h5, _, _, re5, rh5, q5, fun ds1 still1 h6 H6 J1 q6 tl6 rh6 ok1 => ?_, xx⟩
        obtain ⟨e6, q6⟩ := q6
        obtain ⟨va6, ea6, ra6⟩ := rh6.lst e6
        have re6 := re5.keep tl6
        refine ⟨fun j k H' => k = ds1.length - j ∧ j ≤ ds1.length ∧ ∃ acc h' va, TupLe H6 H' ∧ RH G H' h' ∧ H' L = some (.lst va) ∧ Reps G.K H' acc va ∧ h' L = some (.lst acc) ∧ lcI L still1 g1 tt1 te (wipeD e4 vs1) (ds1.drop j) acc h' (fun acc' h' => lcS2 L still g tt di1 g1 tt1 te (wipeD en vs) vs1 (ds.drop (i + 1)) acc' h' P),
          ⟨_, rfl, Nat.zero_le _, acc, h6, va6, TupLe.refl _, rh6, ea6, ra6, e6, q6⟩, ?_⟩
        rintro j k H7 ⟨rfl, hj, acc7, h7, va7, tl7, rh7, ea7, ra7, d7, q7⟩
        by_cases hlt1 : j < ds1.length
        · right
          have ed1 : ds1.drop j = ds1[j] :: ds1.drop (j + 1) := List.drop_eq_getElem_cons hlt1
          rw [ed1] at q7
          obtain ⟨st1, q7⟩ := q7
          obtain ⟨go1, yl1⟩ := ok1.go j H7 h7 ds1[j] tl7 rh7 st1 (List.getElem?_eq_getElem hlt1)
          refine ⟨go1, fun H' => ∃ acc h' va, TupLe H6 H' ∧ RH G H' h' ∧ H' L = some (.lst va) ∧ Reps G.K H' acc va ∧ h' L = some (.lst acc) ∧ lcI L still1 g1 tt1 te (wipeD e4 vs1) (ds1.drop (j + 1)) acc h' (fun acc' h' => lcS2 L still g tt di1 g1 tt1 te (wipeD en vs) vs1 (ds.drop (i + 1)) acc' h' P),
            fun H' w => ⟨_, by omega, rfl, hlt1, w⟩, fun x1 H8 y1 => ?_⟩
          obtain ⟨tl8, rh8, r8⟩ := yl1 x1 H8 y1
          refine ⟨ds1[j], wipeD e4 vs1, h7, _, r8, wipe_re (re6.keep (tl7.trans tl8)) vs1, rh8, q7, fun e9 h9 σ9 H9 q9 tl9 rh9 re9 w9 => ⟨?_, ?_⟩⟩
          · have := w9 vs1 hS1
            rw [this]
            refine List.ext_getElem? fun j => ?_
            rw [wipe_get, wipe_get]
            by_cases m : j ∈ vs1
            · rw [if_pos m, if_pos m]
              cases σ4[j]? <;> rfl
            · rw [if_neg m]
          · refine LT.mk re9 rh9 q9 xx fun b hA HA qA tlA rhA reA xA => ?_
            cases b with
            | true =>
              rw [if_pos rfl] at qA ⊢
              refine LE.mk reA rhA qA xx fun d hB v HB qB tlB rhB rB reB xB => ?_
              obtain ⟨eB, lB, qB⟩ := qB
              obtain ⟨vaB, eaB, raB⟩ := rhB.lst eB
              have hf : ∀ u, HB L = some u → fixedO u = false := fun u z => by rw [eaB] at z; cases z; rfl
              have tlC : TupLe HB (L2.upd HB L (.lst (vaB ++ [v]))) := TupLe.upd hf
              refine ⟨vaB, eaB, by rw [raB.length]; exact lB, _, _, vaB ++ [v], tl7.trans (tl8.trans (tl9.trans (tlA.trans (tlB.trans tlC)))), rhB.upd hf ?_, upd_same, ?_, up_same, qB⟩
              · exact ⟨_, upd_same, (Reps.keep tlC _ _ raB).append (reps_cons (Rep.keep tlC _ _ rB) reps_nil)⟩
              · exact (Reps.keep tlC _ _ raB).append (reps_cons (Rep.keep tlC _ _ rB) reps_nil)
            | false =>
              rw [if_neg Bool.false_ne_true] at qA ⊢
              obtain ⟨eA, qA⟩ := qA
              obtain ⟨vaA, eaA, raA⟩ := rhA.lst eA
              exact ⟨acc7, hA, vaA, tl7.trans (tl8.trans (tl9.trans tlA)), rhA, eaA, raA, eA, qA⟩
        · left
          have ei : j = ds1.length := by omega
          subst ei
          rw [List.drop_length] at q7
          obtain ⟨st1, eL, q7⟩ := q7
          exact ⟨ok1.stop H7 h7 tl7 rh7 st1, acc7, h7, va7, tl25.trans (tl6.trans tl7), rh7, ea7, ra7, eL, q7⟩
  · left
    have ei : i = ds.length := by omega
    subst ei
    rw [List.drop_length] at q2
    exact ⟨ok.stop H2 h2 tl2 rh2 q2.1, fin _ h2 _ H2 q2.2 (tl1.trans tl2) rh2 rep_ref⟩
theorem se_lc2 (hc : X.calm = true) (hN : X.N.Nodup) (hS : ∀ i ∈ S, i ∈ own.map (·.2)) (hS1 : ∀ i ∈ S1, i ∈ vs1) (hv : ∀ i ∈ vs1, i ∈ own.map (·.2)) (hi : PI X tg iter (LI G W di)) (ok : BlkOk X.N X.env.scope scope own)
    (hg : ∀ (s : Shared) (H : Hp) (C : Addr) (cl : List (Str × Addr)) (fp : List Addr), PG (X.blk s H scope (compEnvC scope cl C X.env) fp) tg (LG G S g)) (ht : ∀ (s : Shared) (H : Hp) (C : Addr) (cl : List (Str × Addr)) (fp : List Addr), PTs (X.blk s H scope (compEnvC scope cl C X.env) fp) ifs (LT G (fun _ _ _ _ => False) tt))
    (hi1 : ∀ (s : Shared) (H : Hp) (C : Addr) (cl : List (Str × Addr)) (fp : List Addr), PI (X.blk s H scope (compEnvC scope cl C X.env) fp) tg1 iter1 (LI G (fun _ _ _ _ => False) di1))
    (hg1 : ∀ (s : Shared) (H : Hp) (C : Addr) (cl : List (Str × Addr)) (fp : List Addr), PG (X.blk s H scope (compEnvC scope cl C X.env) fp) tg1 (LG G S1 g1)) (ht1 : ∀ (s : Shared) (H : Hp) (C : Addr) (cl : List (Str × Addr)) (fp : List Addr), PTs (X.blk s H scope (compEnvC scope cl C X.env) fp) ifs1 (LT G (fun _ _ _ _ => False) tt1))
    (he : ∀ (s : Shared) (H : Hp) (C : Addr) (cl : List (Str × Addr)) (fp : List Addr), PE (X.blk s H scope (compEnvC scope cl C X.env) fp) elt (LE G (fun _ _ _ _ => False) te)) (hs : ∀ x, foldedSetIterable iter X.env x = pure x) (hs1 : ∀ env x, foldedSetIterable iter1 env x = pure x) :
    PE X (.ListComp elt [⟨tg, iter, ifs, 0⟩, ⟨tg1, iter1, ifs1, 0⟩] scope pos) (LE G W (cLc2 di g tt di1 g1 tt1 te (own.map (·.2)) vs1)) := pe_imp (pe_lc2 hc hN hi ok hv hg ht hi1 hg1 ht1 he hs hs1) (le_lc2 hS hS1)
theorem ss_lc2 {i : Nat} {y : Str} {py spos : Pos} (hc : X.calm = true) (hN : X.N.Nodup) (hy : X.N[i]? = some y) (hyl : X.env.scope.names.lookup y = some .local) (hsw : swapsWith (.ListComp elt [⟨tg, iter, ifs, 0⟩, ⟨tg1, iter1, ifs1, 0⟩] scope pos) (some (.Name y py)) spos.line X.env = pure true)
    (hS : ∀ i ∈ S, i ∈ own.map (·.2)) (hS1 : ∀ i ∈ S1, i ∈ vs1) (hv : ∀ i ∈ vs1, i ∈ own.map (·.2)) (hi : PI X tg iter (LI G W di)) (ok : BlkOk X.N X.env.scope scope own)
    (hg : ∀ (s : Shared) (H : Hp) (C : Addr) (cl : List (Str × Addr)) (fp : List Addr), PG (X.blk s H scope (compEnvC scope cl C X.env) fp) tg (LG G S g)) (ht : ∀ (s : Shared) (H : Hp) (C : Addr) (cl : List (Str × Addr)) (fp : List Addr), PTs (X.blk s H scope (compEnvC scope cl C X.env) fp) ifs (LT G (fun _ _ _ _ => False) tt))
    (hi1 : ∀ (s : Shared) (H : Hp) (C : Addr) (cl : List (Str × Addr)) (fp : List Addr), PI (X.blk s H scope (compEnvC scope cl C X.env) fp) tg1 iter1 (LI G (fun _ _ _ _ => False) di1))
    (hg1 : ∀ (s : Shared) (H : Hp) (C : Addr) (cl : List (Str × Addr)) (fp : List Addr), PG (X.blk s H scope (compEnvC scope cl C X.env) fp) tg1 (LG G S1 g1)) (ht1 : ∀ (s : Shared) (H : Hp) (C : Addr) (cl : List (Str × Addr)) (fp : List Addr), PTs (X.blk s H scope (compEnvC scope cl C X.env) fp) ifs1 (LT G (fun _ _ _ _ => False) tt1))
    (he : ∀ (s : Shared) (H : Hp) (C : Addr) (cl : List (Str × Addr)) (fp : List Addr), PE (X.blk s H scope (compEnvC scope cl C X.env) fp) elt (LE G (fun _ _ _ _ => False) te)) (hs : ∀ x, foldedSetIterable iter X.env x = pure x) (hs1 : ∀ env x, foldedSetIterable iter1 env x = pure x) :
    PS X (.Assign [.Name y py] (.ListComp elt [⟨tg, iter, ifs, 0⟩, ⟨tg1, iter1, ifs1, 0⟩] scope pos) spos) (LS G W (sAsg (cLc2 di g tt di1 g1 tt1 te (own.map (·.2)) vs1) (gN i))) := ps_imp (ps_setLc2 hc hN hy hyl hsw hi ok hv hg ht hi1 hg1 ht1 he hs hs1) (by
  rintro D σ H ⟨e, h, D', re, rh, z, l⟩
  refine le_lc2 hS hS1 σ H _ (LE.mk re rh z (l.x re) fun d h1 v H1 t1 tl1 rh1 r1 re1 x1 => ?_)
  exact l.nx _ h1 _ H1 t1 tl1 rh1 (re1.set r1))
end
end DW

/-! DW, part 8: built-in functions, isinstance, lists' methods. -/
namespace DW
open PySem L2 PySem.Spec

abbrev DB := List D → DH → KD → Prop
def OpB (G : Pg) (f : DB) (r : List V → Hp → VK → Prop) : Prop := ∀ H h ds vs P Q, RH G H h → Reps G.K H ds vs → f ds h P → Fin2 G P H Q → r vs H Q
def cB (f : DB) (t : DA) : DE := fun e h P R => t e h (fun ds h1 => f ds h1 P) R
section
variable {X : Cx} {G : Pg} {W : WX} {x : Str} {id T : String} {f : DB} {r : List V → Hp → VK → Prop} {t : DA} {p pos : Pos} {e : Expr} {es : List Expr}
theorem le_B (o : OpB G f r) : ∀ σ H Q, LE G W (cB f t) σ H Q → tCB r (LA G W t) σ H Q := by
  rintro σ H Q ⟨en, h, P, R, re, rh, t, fin, x⟩
  refine LA.mk re rh t x fun ds h1 vs H1 t1 tl1 rh1 r1 re1 x1 => ?_
  exact o H1 h1 ds vs P Q rh1 r1 t1 fun d' h' v' H' p tl => fin d' h' v' H' p (tl1.trans tl)
theorem se_B (hc : CallR X (.builtin id) r) (o : OpB G f r) (hg : Gl X x) (hm : X.mg x = none) (hv : bootBuiltins x = some (.builtin id)) (hn : x ≠ "__name__") (hdb : (x == ("__debug__" : Str)) = false)
    (he : starEach (e :: es) X.env = (false, eval e X.env) :: starEach es X.env) (hpl : (backTo pos (starEach es X.env)).any (·.1) = false) (ha : PA X (e :: es) (LA G W t)) : PE X (.Call (.Name x p) (e :: es) [] pos) (LE G W (cB f t)) :=
  pe_imp (pe_callB hc hg hm hv ha hn hdb he hpl) (le_B o)
theorem se_Ty (hc : CallR X (.type T) r) (o : OpB G f r) (hg : Gl X x) (hm : X.mg x = none) (hv : bootBuiltins x = some (.type T)) (hn : x ≠ "__name__") (hdb : (x == ("__debug__" : Str)) = false)
    (he : starEach (e :: es) X.env = (false, eval e X.env) :: starEach es X.env) (hpl : (backTo pos (starEach es X.env)).any (·.1) = false) (ha : PA X (e :: es) (LA G W t)) : PE X (.Call (.Name x p) (e :: es) [] pos) (LE G W (cB f t)) :=
  pe_imp (pe_callTy hc hg hm hv ha hn hdb he hpl) (le_B o)
end

/-! ### int, len, list, tuple -/
def bInt : DB := fun ds h P => match ds with
  | [.int i] => P (.int i) h
  | [.bl k] => P (.int (if k then 1 else 0)) h
  | _ => False
theorem ob_int {G : Pg} : OpB G bInt (fun xs H Q => (∃ i, xs = [.int i] ∧ Q (.int i) H) ∨ ∃ k, xs = [.bl k] ∧ Q (.int (if k then 1 else 0)) H) := fun H h ds vs P Q rh r q f => by
  unfold bInt at q
  split at q
  · obtain ⟨v, rfl, p⟩ := r.one
    exact .inl ⟨_, by rw [p.int_], f.val rh q rep_int⟩
  · obtain ⟨v, rfl, p⟩ := r.one
    exact .inr ⟨_, by rw [p.bl_], f.val rh q rep_int⟩
  · exact q.elim
def lenD (h : DH) : D → Option Nat
  | .tup ds => some ds.length
  | .ktup ds => some ds.length
  | .rol ds => some ds.length
  | .str z => if z.length ≤ sizeLine then some z.length else none
  | .ref a => match h a with
    | some (.lst xs) => some xs.length
    | some (.dK kvs) => some kvs.length
    | some (.dT kvs) => some kvs.length
    | _ => none
  | _ => none
def bLen : DB := fun ds h P => match ds with
  | [x] => ∃ n, lenD h x = some n ∧ P (.int (n : Nat)) h
  | _ => False
def rLenA (K : PySem.W.Frag) : List V → Hp → VK → Prop := fun xs H Q => (∃ x n, xs = [x] ∧ LenV K x H n ∧ Q (.int n) H) ∨ (∃ a kvs, xs = [.ref a] ∧ H a = some (.dK kvs) ∧ Q (.int kvs.length) H) ∨ rLenT xs H Q
theorem cr_lenA {X : Cx} : CallR X (.builtin "len") (rLenA X.K) := call_len.or (CallR.or (r := fun xs H Q => ∃ a kvs, xs = [.ref a] ∧ H a = some (.dK kvs) ∧ Q (.int kvs.length) H) (by
  rintro pins s σ H xs us Q I r ⟨a, kvs, rfl, e, q⟩
  rw [Vals.ref1 r]
  exact d_len I (.inl e) fun t s' I' => ⟨.int kvs.length, H, I', ⟨t, rfl⟩, q⟩) call_len_dT)
theorem ob_len {G : Pg} : OpB G bLen (rLenA G.K) := fun H h ds vs P Q rh r q f => by
  unfold bLen at q
  split at q
  · rename_i x
    obtain ⟨n, e, q⟩ := q
    obtain ⟨v, rfl, p⟩ := r.one
    cases x with
    | tup ds =>
      obtain ⟨a, us, rfl, s, rs⟩ := p.tup_
      cases e
      exact .inl ⟨_, _, rfl, .inr ⟨us, s, rs.length.symm⟩, f.val rh q rep_int⟩
    | ktup ds =>
      obtain ⟨a, us, rfl, s, rs⟩ := p.ktup_
      cases e
      exact .inl ⟨_, _, rfl, .inr ⟨us, s, rs.length.symm⟩, f.val rh q rep_int⟩
    | rol ds =>
      obtain ⟨a, us, rfl, s, rs⟩ := p.rol_
      cases e
      exact .inl ⟨_, _, rfl, .inl ⟨us, s.sq, rs.length.symm⟩, f.val rh q rep_int⟩
    | str z =>
      have e' : (if z.length ≤ sizeLine then some z.length else none) = some n := e
      split at e'
      · rename_i l
        cases e'
        exact .inl ⟨_, z.length, rfl, by rw [p.str_]; exact ⟨l, rfl⟩, f.val rh q rep_int⟩
      · cases e'
    | ref a =>
      unfold lenD at e
      simp only at e
      split at e
      · rename_i xs ea
        cases e
        obtain ⟨us, s, rs⟩ := rh.lst ea
        exact .inl ⟨_, _, rfl, by rw [p.ref_]; exact .inl ⟨us, .inl (.inl s), rs.length.symm⟩, f.val rh q rep_int⟩
      · rename_i kvs ea
        cases e
        obtain ⟨ws, s, rs⟩ := rh _ _ ea
        refine .inr (.inl ⟨a, ws, by rw [p.ref_], s, ?_⟩)
        rw [rs.length]
        exact f.val rh q rep_int
      · rename_i kvs ea
        cases e
        obtain ⟨ws, s, rs⟩ := rh _ _ ea
        refine .inr (.inr ⟨a, ws, by rw [p.ref_], s, ?_⟩)
        rw [rs.length]
        exact f.val rh q rep_int
      · cases e
    | _ => cases e
  · exact q.elim
/-- what list(x) holds -/
def allOf (h : DH) (x : D) : Option (List D) := match x with
  | .ref a => match h a with
    | some (.lst xs) => some xs
    | some (.dK kvs) => some (kvs.map fun kv => kD kv.1)
    | some (.dT kvs) => some (kvs.map fun kv => .tup (kv.1.map kD))
    | some (.dX kvs) => some (kvs.map fun q => if q.2.1 = true then .ktup (q.1.map kD) else .tup (q.1.map kD))
    | _ => none
  | x => seqOf h x
def bList : DB := fun ds h P => match ds with
  | [] => ∀ p, h p = none → P (.ref p) (up h p (.lst []))
  | [x] => ∃ xs, allOf h x = some xs ∧ ∀ p, h p = none → P (.ref p) (up h p (.lst xs))
  | _ => False
def rListA (P : Program) (w : World) (K : PySem.W.Frag) : List V → Hp → VK → Prop := fun xs H Q => ( (∃ p ys, xs = [.ref p] ∧ (SqL K H p ys ∨ SqT K H p ys) ∧ ∀ l, H l = none → Q (.ref l) (upd H l (.lst ys))) ∨ rListD xs H Q ∨
  (∃ d kvs, xs = [V.ref d] ∧ Rd H d (.dT kvs) ∧ ∀ p bs, H p = none → IsKeys H kvs bs → Q (.ref p) (upd H p (.lst (bs.map V.ref))))) ∨ rListX P w K xs H Q
theorem cr_listA {X : Cx} (hc : X.calm = true) : CallR X (.type "list") (rListA X.prog X.w X.K) := (call_list_of.or (CallR.or (call_list_dK hc) (call_list_dT hc))).or (call_listX hc)
theorem reps_keys {K : PySem.W.Frag} {H : Hp} : ∀ {kvs : List (Key × D)} {ws : List (Key × V)}, RepF K H kvs ws → Reps K H (kvs.map fun kv => kD kv.1) (ws.map fun kv => kV kv.1)
  | [], ws, r => by rw [show ws = [] from r]; exact reps_nil
  | (k, d) :: kvs, ws, r => by
    obtain ⟨v, us, rfl, p, q⟩ := r
    exact reps_cons (rep_key k) (reps_keys q)
theorem reps_tkeys {K : PySem.W.Frag} {H : Hp} : ∀ {kvs : List (List Key × D)} {ws : List (List Key × V)} {bs : List Addr}, RepF K H kvs ws → IsKeys H ws bs → Reps K H (kvs.map fun kv => .tup (kv.1.map kD)) (bs.map V.ref)
  | [], ws, bs, r, i => by
    rw [show ws = [] from r] at i
    cases i
    exact reps_nil
  | (k, d) :: kvs, ws, bs, r, i => by
    obtain ⟨v, us, rfl, p, q⟩ := r
    cases i with
    | cons e i => exact reps_cons (rep_tup e (reps_kVs k)) (reps_tkeys q i)
def bList1 : DB := fun ds h P => match ds with
  | [x] => ∃ xs, allOf h x = some xs ∧ ∀ p, h p = none → P (.ref p) (up h p (.lst xs))
  | _ => False
theorem reps_keyX {K : PySem.W.Frag} {H : Hp} : ∀ {kvs : List (List Key × Bool × D)} {xs : List XE}, RepX K H kvs xs → Reps K H (kvs.map fun q => if q.2.1 = true then .ktup (q.1.map kD) else .tup (q.1.map kD)) (xs.map fun x => V.ref x.2.1)
  | [], _, h => by rw [show _ = [] from h]; exact reps_nil
  | (k, m, d) :: kvs, _, ⟨c, u, r, v, e, h1, h2, h3, h4⟩ => by
    rw [e, List.map_cons, List.map_cons]
    refine reps_cons ?_ (reps_keyX h4)
    unfold KeyX at h1
    cases m with
    | true => exact rep_ktup h1 (reps_kVs k)
    | false => exact rep_tup h1 (reps_kVs k)
theorem ob_list {G : Pg} : OpB G bList1 (rListA G.P G.w G.K) := fun H h ds vs P Q rh r q f => by
  unfold bList1 at q
  split at q
  · rename_i x
    obtain ⟨xs, e, q⟩ := q
    obtain ⟨v, rfl, p⟩ := r.one
    have sq : ∀ xs, seqOf h x = some xs → (∀ p, h p = none → P (.ref p) (up h p (.lst xs))) → rListA G.P G.w G.K [v] H Q := fun xs e q => by
      obtain ⟨a, us, rfl, s, rs⟩ := seqOf_ok rh p e
      exact .inl <| .inl ⟨a, us, rfl, s, f.new rh q fun c hc => OR.lst hc rs⟩
    cases x with
    | ref a =>
      unfold allOf at e
      simp only at e
      split at e
      · rename_i ys ea
        cases e
        exact sq _ (by unfold seqOf; simp only [ea]) q
      · rename_i kvs ea
        cases e
        obtain ⟨ws, s, rs⟩ := rh _ _ ea
        exact .inl <| .inr (.inl ⟨a, ws, by rw [p.ref_], s, f.new rh q fun c hc => OR.lst hc (reps_keys rs)⟩)
      · rename_i kvs ea
        cases e
        obtain ⟨ws, s, rs⟩ := rh _ _ ea
        exact .inl <| .inr (.inr ⟨a, ws, by rw [p.ref_], .inl s, fun l bs hl ik => f.new rh q (fun c hc => OR.lst hc (reps_tkeys rs ik)) l hl⟩)
      · rename_i kvs ea
        cases e
        obtain ⟨ws, s, rs, l2⟩ := rh _ _ ea
        exact .inr ⟨a, ws, by rw [p.ref_], s, rs.ksq, by rw [rs.length]; exact l2, f.new rh q fun c hc => OR.lst hc (reps_keyX rs)⟩
      · cases e
    | non => cases e
    | bl _ => cases e
    | int _ => cases e
    | str _ => cases e
    | tup ds => exact sq xs e q
    | ktup ds => exact sq xs e q
    | rol ds => exact sq xs e q
  · exact q.elim
def bTuple : DB := fun ds h P => match ds with
  | [x] => ∃ xs, seqOf h x = some xs ∧ P (match x with
    | .ktup _ => x
    | _ => .tup xs) h
  | _ => False
theorem ob_tuple {G : Pg} : OpB G bTuple (fun xs H Q => ∃ p ys, xs = [.ref p] ∧ ((SqL G.K H p ys ∧ ∀ l, H l = none → Q (.ref l) (upd H l (.tup ys))) ∨ (SqT G.K H p ys ∧ Q (.ref p) H))) := fun H h ds vs P Q rh r q f => by
  unfold bTuple at q
  split at q
  · rename_i x
    obtain ⟨xs, e, q⟩ := q
    obtain ⟨v, rfl, p⟩ := r.one
    cases x with
    | tup ds =>
      cases e
      obtain ⟨a, us, rfl, s, rs⟩ := p.tup_
      exact ⟨a, us, rfl, .inr ⟨s, f.val rh q p⟩⟩
    | ktup ds =>
      obtain ⟨a, us, rfl, s, rs⟩ := p.ktup_
      exact ⟨a, us, rfl, .inr ⟨s, f.val rh q p⟩⟩
    | rol ds =>
      cases e
      obtain ⟨a, us, rfl, s, rs⟩ := p.rol_
      exact ⟨a, us, rfl, .inl ⟨s.sq, f.newT rh q rs⟩⟩
    | ref a =>
      obtain ⟨b, us, e1, s, rs⟩ := lstOf_ok (xs := xs) rh p e
      exact ⟨b, us, by rw [e1], .inl ⟨s, f.newT rh q rs⟩⟩
    | _ => cases e
  · exact q.elim
/-! ### max, min, sum, all, any, sorted -/
def bMax2 : DB := fun ds h P => match ds with
  | [.int i, .int j] => P (.int (if j > i then j else i)) h
  | _ => False
def bMin2 : DB := fun ds h P => match ds with
  | [.int i, .int j] => P (.int (if j < i then j else i)) h
  | _ => False
/-- a list's ints -/
def intsD : List D → Option (List Int)
  | [] => some []
  | .int i :: ds => (intsD ds).map (i :: ·)
  | _ => none
theorem intsD_eq : ∀ {ds : List D} {ns : List Int}, intsD ds = some ns → ds = ns.map D.int
  | [], ns, e => by cases e; rfl
  | .int i :: ds, ns, e => by
    obtain ⟨ms, e1, rfl⟩ := Option.map_eq_some_iff.mp e
    rw [intsD_eq e1]; rfl
  | .non :: _, _, e => by cases e
  | .bl _ :: _, _, e => by cases e
  | .str _ :: _, _, e => by cases e
  | .tup _ :: _, _, e => by cases e
  | .rol _ :: _, _, e => by cases e
  | .ktup _ :: _, _, e => by cases e
  | .ref _ :: _, _, e => by cases e
def blsD : List D → Option (List Bool)
  | [] => some []
  | .bl i :: ds => (blsD ds).map (i :: ·)
  | _ => none
theorem blsD_eq : ∀ {ds : List D} {ns : List Bool}, blsD ds = some ns → ds = ns.map D.bl
  | [], ns, e => by cases e; rfl
  | .bl i :: ds, ns, e => by
    obtain ⟨ms, e1, rfl⟩ := Option.map_eq_some_iff.mp e
    rw [blsD_eq e1]; rfl
  | .non :: _, _, e => by cases e
  | .int _ :: _, _, e => by cases e
  | .str _ :: _, _, e => by cases e
  | .tup _ :: _, _, e => by cases e
  | .rol _ :: _, _, e => by cases e
  | .ktup _ :: _, _, e => by cases e
  | .ref _ :: _, _, e => by cases e
theorem Reps.bls_ {K : PySem.W.Frag} {H : Hp} : ∀ {ns : List Bool} {vs : List V}, Reps K H (ns.map D.bl) vs → vs = ns.map V.bl
  | [], vs, h => h.nil_
  | n :: ns, vs, h => by
    obtain ⟨v, r, rfl, p, q⟩ := h.cons_
    rw [p.bl_, q.bls_]; rfl
def onInts (x : D) (h : DH) (k : List Int → Prop) : Prop := ∃ xs ns, lstOf h x = some xs ∧ intsD xs = some ns ∧ k ns
def onBls (x : D) (h : DH) (k : List Bool → Prop) : Prop := ∃ xs ns, lstOf h x = some xs ∧ blsD xs = some ns ∧ k ns
theorem onInts_ok {G : Pg} {H : Hp} {h : DH} {x : D} {v : V} {k : List Int → Prop} (rh : RH G H h) (p : Rep G.K H x v) (q : onInts x h k) : ∃ a ns, v = .ref a ∧ SqL G.K H a (ns.map V.int) ∧ k ns := by
  obtain ⟨xs, ns, e1, e2, q⟩ := q
  obtain ⟨a, us, rfl, s, rs⟩ := lstOf_ok rh p e1
  rw [intsD_eq e2] at rs
  rw [rs.ints_] at s
  exact ⟨a, ns, rfl, s, q⟩
theorem onBls_ok {G : Pg} {H : Hp} {h : DH} {x : D} {v : V} {k : List Bool → Prop} (rh : RH G H h) (p : Rep G.K H x v) (q : onBls x h k) : ∃ a ns, v = .ref a ∧ SqL G.K H a (ns.map V.bl) ∧ k ns := by
  obtain ⟨xs, ns, e1, e2, q⟩ := q
  obtain ⟨a, us, rfl, s, rs⟩ := lstOf_ok rh p e1
  rw [blsD_eq e2] at rs
  rw [rs.bls_] at s
  exact ⟨a, ns, rfl, s, q⟩
def bSum : DB := fun ds h P => match ds with
  | [x] => onInts x h fun ns => P (.int ns.sum) h
  | _ => False
def bMaxL : DB := fun ds h P => match ds with
  | [x] => onInts x h fun ns => 0 < ns.length ∧ ∀ m, m ∈ ns → (∀ y, y ∈ ns → y ≤ m) → P (.int m) h
  | _ => False
def bMinL : DB := fun ds h P => match ds with
  | [x] => onInts x h fun ns => 0 < ns.length ∧ ∀ m, m ∈ ns → (∀ y, y ∈ ns → m ≤ y) → P (.int m) h
  | _ => False
def bAll : DB := fun ds h P => match ds with
  | [x] => onBls x h fun bs => P (.bl (bs.all id)) h
  | _ => False
def bAny : DB := fun ds h P => match ds with
  | [x] => onBls x h fun bs => P (.bl (bs.any id)) h
  | _ => False
def bSorted : DB := fun ds h P => match ds with
  | [x] => onInts x h fun ns => ∀ ns' : List Int, ns'.Perm ns → ns'.Pairwise (· ≤ ·) → ∀ p, h p = none → P (.ref p) (up h p (.lst (ns'.map D.int)))
  | _ => False
/-- max: of two, or of a list -/
def bMax : DB := fun ds h P => match ds with
  | [_] => bMaxL ds h P
  | _ => bMax2 ds h P
def bMin : DB := fun ds h P => match ds with
  | [_] => bMinL ds h P
  | _ => bMin2 ds h P
section
variable {G : Pg}
theorem ob_max2 : OpB G bMax2 (fun xs H Q => ∃ i j, xs = [.int i, .int j] ∧ Q (.int (if j > i then j else i)) H) := fun H h ds vs P Q rh r q f => by
  unfold bMax2 at q
  split at q
  · obtain ⟨v, w, rfl, p, p'⟩ := r.two
    exact ⟨_, _, by rw [p.int_, p'.int_], f.val rh q rep_int⟩
  · exact q.elim
theorem ob_min2 : OpB G bMin2 (fun xs H Q => ∃ i j, xs = [.int i, .int j] ∧ Q (.int (if j < i then j else i)) H) := fun H h ds vs P Q rh r q f => by
  unfold bMin2 at q
  split at q
  · obtain ⟨v, w, rfl, p, p'⟩ := r.two
    exact ⟨_, _, by rw [p.int_, p'.int_], f.val rh q rep_int⟩
  · exact q.elim
theorem ob_maxL : OpB G bMaxL (rMax G.K) := fun H h ds vs P Q rh r q f => by
  unfold bMaxL at q
  split at q
  · obtain ⟨v, rfl, p⟩ := r.one
    obtain ⟨a, ns, rfl, s, l, k⟩ := onInts_ok rh p q
    exact ⟨a, ns, rfl, s, l, fun m h1 h2 => f.val rh (k m h1 h2) rep_int⟩
  · exact q.elim
theorem ob_minL : OpB G bMinL (rMin G.K) := fun H h ds vs P Q rh r q f => by
  unfold bMinL at q
  split at q
  · obtain ⟨v, rfl, p⟩ := r.one
    obtain ⟨a, ns, rfl, s, l, k⟩ := onInts_ok rh p q
    exact ⟨a, ns, rfl, s, l, fun m h1 h2 => f.val rh (k m h1 h2) rep_int⟩
  · exact q.elim
theorem ob_max : OpB G bMax (fun vs H Q => rMax G.K vs H Q ∨ ∃ i j, vs = [.int i, .int j] ∧ Q (.int (if j > i then j else i)) H) := fun H h ds vs P Q rh r q f => by
  unfold bMax at q
  split at q
  · exact .inl (ob_maxL H h _ vs P Q rh r q f)
  · exact .inr (ob_max2 H h _ vs P Q rh r q f)
theorem ob_min : OpB G bMin (fun vs H Q => rMin G.K vs H Q ∨ ∃ i j, vs = [.int i, .int j] ∧ Q (.int (if j < i then j else i)) H) := fun H h ds vs P Q rh r q f => by
  unfold bMin at q
  split at q
  · exact .inl (ob_minL H h _ vs P Q rh r q f)
  · exact .inr (ob_min2 H h _ vs P Q rh r q f)
theorem ob_sum : OpB G bSum (rSum G.K) := fun H h ds vs P Q rh r q f => by
  unfold bSum at q
  split at q
  · obtain ⟨v, rfl, p⟩ := r.one
    obtain ⟨a, ns, rfl, s, k⟩ := onInts_ok rh p q
    exact ⟨a, ns, rfl, s, f.val rh k rep_int⟩
  · exact q.elim
theorem ob_all : OpB G bAll (rAll G.K) := fun H h ds vs P Q rh r q f => by
  unfold bAll at q
  split at q
  · obtain ⟨v, rfl, p⟩ := r.one
    obtain ⟨a, ns, rfl, s, k⟩ := onBls_ok rh p q
    exact ⟨a, ns, rfl, s, f.val rh k rep_bl⟩
  · exact q.elim
theorem ob_any : OpB G bAny (rAny G.K) := fun H h ds vs P Q rh r q f => by
  unfold bAny at q
  split at q
  · obtain ⟨v, rfl, p⟩ := r.one
    obtain ⟨a, ns, rfl, s, k⟩ := onBls_ok rh p q
    exact ⟨a, ns, rfl, s, f.val rh k rep_bl⟩
  · exact q.elim
theorem ob_sorted : OpB G bSorted (rSortedI G.K) := fun H h ds vs P Q rh r q f => by
  unfold bSorted at q
  split at q
  · obtain ⟨v, rfl, p⟩ := r.one
    obtain ⟨a, ns, rfl, s, k⟩ := onInts_ok rh p q
    exact ⟨a, ns, rfl, s, fun ns' l h1 h2 hl => f.new rh (k ns' h1 h2) (fun c hc => OR.lst hc (reps_ints ns')) l hl⟩
  · exact q.elim
end

/-! ### isinstance -/
/-- a class: a built-in one, or the own one with this number -/
inductive Tag where
  | ty (n : String) | own (c : Nat)
  deriving DecidableEq
def Tag.v (G : Pg) : Tag → Value
  | .ty n => .type n
  | .own c => .ref (G.ca c)
def tagOf (h : DH) : D → Option Tag
  | .non => some (.ty "NoneType")
  | .bl _ => some (.ty "bool")
  | .int _ => some (.ty "int")
  | .str _ => some (.ty "str")
  | .tup _ => some (.ty "tuple")
  | .ktup _ => some (.ty "tuple")
  | .rol _ => some (.ty "list")
  | .ref a => match h a with
    | some (.lst _) => some (.ty "list")
    | some (.dK _) => some (.ty "dict")
    | some (.dT _) => some (.ty "dict")
    | some (.ins c _) => some (.own c)
    | some (.fK _ _ _) => none
    | some (.fT _ _ _) => none
    | some .tab => none
    | some (.sK _ _) => none
    | some (.sT _) => none
    | some (.dX _) => none
    | none => none
/-- is one of this class an instance of that one -/
abbrev Kit := Tag → Option Bool
def KitOk (G : Pg) (k : Kit) (u : Value) : Prop := ∀ t b, k t = some b → PySem.W.kitOne G.K (t.v G) u = some b
/-- what an own class must say so that isinstance asks its instances rightly -/
structure InsOk (K : PySem.W.Frag) (C : Addr) : Prop where
  cl : Cls K C
  ha : PySem.W.findIn K (.ref C) "__class__" = some (some (.builtin "object.__class__"))
  hn : PySem.W.specialIn K (.builtin "object.__class__") "__get__" = some (some (.builtin "getset_descriptor.__get__"))
  ht : PySem.W.takesIn K (.builtin "object.__class__") = some true
  hm : PySem.W.mroIn K C (.type "object") = some true
theorem tag_ok {G : Pg} {H : Hp} {h : DH} {x : D} {v : V} {t : Tag} (hi : ∀ c, t = .own c → InsOk G.K (G.ca c)) (rh : RH G H h) (r : Rep G.K H x v) (e : tagOf h x = some t) : TyX G.K H v (t.v G) := by
  cases x with
  | non => cases e; rw [r.non_]; exact .base .non
  | bl b => cases e; rw [r.bl_]; exact .base (.bl b)
  | int b => cases e; rw [r.int_]; exact .base (.int b)
  | str b => cases e; rw [r.str_]; exact .base (.str b)
  | tup ds => cases e; obtain ⟨a, vs, rfl, q, _⟩ := r.tupH; exact .base (.tup q)
  | ktup ds =>
    cases e
    unfold Rep at r
    obtain ⟨a, vs, rfl, ⟨o, its, n, q1, q2, _⟩, _⟩ := r
    exact .kTuple q1 q2
  | rol ds =>
    cases e
    obtain ⟨a, vs, rfl, q, _⟩ := r.rol_
    rcases q with ⟨o, q⟩ | ⟨o, its, n, q1, q2, _⟩
    · exact .base (.frz q)
    · exact .kList q1 q2
  | ref a =>
    rw [r.ref_]
    unfold tagOf at e
    cases ea : h a with
    | none => simp [ea] at e
    | some o =>
      simp only [ea] at e
      cases o with
      | lst xs => cases e; obtain ⟨vs, q, _⟩ := rh.lst ea; exact .base (.lst q)
      | dK xs => cases e; obtain ⟨vs, q, _⟩ := rh _ _ ea; exact .base (.dK q)
      | dT xs => cases e; obtain ⟨vs, q, _⟩ := rh _ _ ea; exact .base (.dT q)
      | ins c fs =>
        cases e
        obtain ⟨dx, vs, q, _⟩ := rh _ _ ea
        have i := hi c rfl
        exact .base (.ins q i.cl i.ha i.hn i.ht i.hm)
      | fK _ _ _ => cases e
      | fT _ _ _ => cases e
      | tab => cases e
      | sK _ _ => cases e
      | sT _ => cases e
      | dX _ => cases e
def cIsi (a : DE) (k : Kit) : DE := fun e h P R => a e h (fun x h1 => ∃ t b, tagOf h1 x = some t ∧ k t = some b ∧ P (.bl b) h1) R
/-- of several classes -/
def kitL : List Kit → Kit
  | [] => fun _ => some false
  | k :: r => fun t => match k t with
    | some true => some true
    | some false => kitL r t
    | none => none
theorem kitL_ok {G : Pg} : ∀ {ks : List Kit} {us : List Value}, Paired (fun k u => KitOk G k u) ks us → ∀ t b, kitL ks t = some b → PySem.W.kitAny G.K (t.v G) us = some b
  | [], _, .nil, t, b, e => by cases e; rfl
  | k :: ks, _, .cons (b := u) h r, t, b, e => by
    unfold kitL at e
    unfold PySem.W.kitAny
    cases z : k t with
    | none => simp [z] at e
    | some c =>
      rw [h t c z]
      cases c with
      | true => simp [z] at e; subst e; rfl
      | false => simp only [z] at e; exact kitL_ok r t b e
section
variable {X : Cx} {G : Pg} {W : WX} {a : Expr} {da : DE} {p pos : Pos}
theorem se_isi {ce : Expr} {cv : V} {u : Value} {k : Kit} (hK : X.K = G.K) (hi : ∀ c b, k (.own c) = some b → InsOk G.K (G.ca c)) (hk : KitOk G k u) (hcv : ClsV cv u) (hce : PE X ce (tC cv)) (ha : PE X a (LE G W da))
    (hg : Gl X "isinstance") (hm : X.mg "isinstance" = none) (hs1 : starEach [a, ce] X.env = (false, eval a X.env) :: starEach [ce] X.env) (hs2 : starEach [ce] X.env = (false, eval ce X.env) :: starEach [] X.env) (hpl : (backTo pos (starEach [ce] X.env)).any (·.1) = false) :
    PE X (.Call (.Name "isinstance" p) [a, ce] [] pos) (LE G W (cIsi da k)) := by
  refine pe_imp (pe_callB call_isi hg hm PyProof.Rows.boot_isinstance (pa_cons ha (pa_cons hce pa_nil hs2) hs1) (by decide) (by decide) hs1 hpl) ?_
  rintro σ H Q ⟨en, h, P, R, re, rh, t, fin, x⟩
  refine LE.mk re rh t x fun d h1 v H1 t1 tl1 rh1 r1 re1 x1 => ?_
  obtain ⟨t, b, e1, e2, q⟩ := t1
  refine ⟨v, cv, t.v G, u, b, rfl, hcv, by rw [hK]; exact tag_ok (fun c ec => hi c b (by rw [← ec]; exact e2)) rh1 r1 e1, by rw [hK]; exact hk t b e2, fin _ h1 _ H1 q tl1 rh1 rep_bl⟩
end

end DW

/-! DW, part 9: lists' methods, raise, try. -/
namespace DW
open PySem L2 PySem.Spec

/-! ### methods of built-in types -/
abbrev DM := D → List D → DH → KD → Prop
def tyD (T : String) (h : DH) : D → Prop
  | .str _ => T = "str"
  | .rol _ => T = "list"
  | .ref a => match h a with
    | some (.lst _) => T = "list"
    | some (.dK _) => T = "dict"
    | some (.dT _) => T = "dict"
    | _ => False
  | _ => False
def cM (T : String) (f : DM) (o : DE) (t : DA) : DE := fun e h P R => o e h (fun x h1 => tyD T h1 x ∧ t e h1 (fun ds h2 => f x ds h2 P) R) R
def OpM (G : Pg) (f : DM) (r : V → List V → Hp → VK → Prop) : Prop := ∀ H h x ds v vs P Q, RH G H h → Rep G.K H x v → Reps G.K H ds vs → f x ds h P → Fin2 G P H Q → r v vs H Q
theorem tyD_ok {G : Pg} {T : String} {H : Hp} {h : DH} {x : D} {v : V} (rh : RH G H h) (r : Rep G.K H x v) (t : tyD T h x) : tyV G.K T v H := by
  cases x with
  | str z => rw [r.str_]; exact t
  | rol ds =>
    obtain ⟨a, vs, rfl, q, _⟩ := r.rol_
    exact .inl ⟨t, vs, q.sq⟩
  | ref a =>
    rw [r.ref_]
    unfold tyD at t
    simp only at t
    split at t
    · rename_i xs e
      obtain ⟨vs, q, _⟩ := rh.lst e
      exact .inl ⟨t, vs, .inl (.inl q)⟩
    · rename_i xs e
      obtain ⟨vs, q, _⟩ := rh _ _ e
      exact .inr (.inr (.inl ⟨t, .inl ⟨vs, q⟩⟩))
    · rename_i xs e
      obtain ⟨vs, q, _⟩ := rh _ _ e
      exact .inr (.inr (.inl ⟨t, .inr ⟨vs, q⟩⟩))
    · exact t.elim
  | _ => exact t.elim
section
variable {X : Cx} {G : Pg} {W : WX} {o e : Expr} {es : List Expr} {T id : String} {name : Str} {r : V → List V → Hp → VK → Prop} {f : DM} {to : DE} {t : DA} {apos cpos : Pos}
theorem se_m (hK : X.K = G.K) (of : OpM G f r) (pa : PlainAttrs T) (slot : Slot T name id) (hty : typeOf (.builtin id) = pure (.type "method_descriptor")) (hm : MtR X id r) (ho : PE X o (LE G W to)) (ha : PA X (e :: es) (LA G W t))
    (hbase : attributeBase o name X.env (eval o X.env) = eval o X.env)
    (hfew : ((backTo cpos (starEach (e :: es) X.env)).all (fun x => !x.1) && (backToKw cpos (keywordEach [] X.env)).all (fun x => x.1.isSome)
      && decide ((e :: es).length + ([] : List Keyword).length + (if ([] : List Keyword).isEmpty then 0 else 1) < 30)) = true)
    (hline : (apos.endLine == cpos.line) = true) (hs : starEach (e :: es) X.env = (false, eval e X.env) :: starEach es X.env) (hplain : (backTo cpos (starEach es X.env)).any (·.1) = false) :
    PE X (.Call (.Attribute o name apos) (e :: es) [] cpos) (LE G W (cM T f to t)) := by
  refine pe_imp (pe_bm pa slot hty hm ho ha hbase hfew hline hs hplain) ?_
  rintro σ H Q ⟨en, h, P, R, re, rh, tt, fin, x⟩
  refine LE.mk re rh tt x fun d h1 v H1 t1 tl1 rh1 r1 re1 x1 => ?_
  refine ⟨by rw [hK]; exact tyD_ok rh1 r1 t1.1, ?_⟩
  refine LA.mk re1 rh1 t1.2 x1 fun ds h2 vs H2 t2 tl2 rh2 r2 re2 x2 => ?_
  exact of H2 h2 d ds v vs P Q rh2 (Rep.keep tl2 _ _ r1) r2 t2 fun d' h' v' H' p tl => fin d' h' v' H' p (tl1.trans (tl2.trans tl))
theorem se_m0 (hK : X.K = G.K) (of : OpM G f r) (pa : PlainAttrs T) (slot : Slot T name id) (hty : typeOf (.builtin id) = pure (.type "method_descriptor")) (hm : MtR X id r) (ho : PE X o (LE G W to))
    (hbase : attributeBase o name X.env (eval o X.env) = eval o X.env) (hline : (apos.endLine == cpos.line) = true) :
    PE X (.Call (.Attribute o name apos) [] [] cpos) (LE G W (cM T f to cNil)) := by
  refine pe_imp (pe_bm0 pa slot hty hm ho hbase hline) ?_
  rintro σ H Q ⟨en, h, P, R, re, rh, tt, fin, x⟩
  refine LE.mk re rh tt x fun d h1 v H1 t1 tl1 rh1 r1 re1 x1 => ?_
  refine ⟨by rw [hK]; exact tyD_ok rh1 r1 t1.1, ?_⟩
  exact of H1 h1 d [] v [] P Q rh1 r1 reps_nil t1.2 fun d' h' v' H' p tl => fin d' h' v' H' p (tl1.trans tl)
end
def mAppend : DM := fun x ds h P => match x, ds with
  | .ref a, [d] => match h a with
    | some (.lst xs) => xs.length < sizeLine ∧ P .non (up h a (.lst (xs ++ [d])))
    | _ => False
  | _, _ => False
theorem om_append {G : Pg} : OpM G mAppend rAppend := fun H h x ds v vs P Q rh rx rs q f => by
  unfold mAppend at q
  split at q
  · rename_i a d
    split at q
    · rename_i xs e
      obtain ⟨us, s, r⟩ := rh.lst e
      obtain ⟨w, rfl, rw_⟩ := rs.one
      have hf : ∀ u, H a = some u → fixedO u = false := fun u z => by rw [s] at z; cases z; rfl
      refine ⟨a, us, w, rx.ref_, rfl, s, by rw [r.length]; exact q.1, f _ _ _ _ q.2 (TupLe.upd hf) (rh.upd hf ?_) rep_non⟩
      exact ⟨_, upd_same, (Reps.keep (TupLe.upd hf) _ _ r).append (reps_cons (Rep.keep (TupLe.upd hf) _ _ rw_) reps_nil)⟩
    · exact q.elim
  · exact q.elim

/-! ### raise -/
/-- raise C(..), C the own class with this number, without __init__ of its own -/
def sRaise (c : Nat) (t : DA) : DS := fun D e h => t e h (fun ds h1 => ds.length ≤ sizeLine ∧ D.ex ⟨c, none⟩ e h1) fun x h1 => D.ex x e h1
structure RaiseOk (G : Pg) (c : Nat) : Prop where
  ex : ∃ (bmB : List Value) (B newId initId : String), ExcBaseFacts B newId initId bmB ∧ PySem.W.excIn G.K (G.ca c) bmB newId = true
  kp : PySem.W.keepIn G.K (.ref (G.ca c)) = true
  r1 : PySem.W.subIn G.K (.ref (G.ca c)) (.type "BaseException") = some true
  r2 : PySem.W.typeIn G.K (.ref (G.ca c)) = some (.type "type")
theorem pmk_own0 {X : Cx} {C : Addr} {bmB : List Value} {B newId initId : String} {x : Str} {p pos : Pos} (F : ExcBaseFacts B newId initId bmB) (q : PySem.W.excIn X.K C bmB newId = true) (gC : X.mg x = some (.ref C))
    (kC : PySem.W.keepIn X.K (.ref C) = true) (r : Raises X (.ref C)) (hg : Gl X x) (hdb : (x == ("__debug__" : Str)) = false) : L2N.PMk X (.Call (.Name x p) [] [] pos) (fun _ H Q => Q (.ref C) none H) := by
  intro pins s σ H Q I h
  refine wpAny_Call_Name_kw (ld_glob I hg gC ?_ hdb)
  refine PySem.W.callWith_K0 I.kIn kC ?_
  obtain ⟨bm, N, nm, qn, bs, hdct, sn, sub, ab, col, dd, k0, k1, k2, k3, k5, mN, hC, hN, hni, T⟩ := exc_obj I.kIn q
  refine wpAny_call_exc_subT F T hC hN hni (fun h' e hm => ?_) (Nat.zero_le _)
  exact L2N.mk_of I hm r h (I.hok.gone hm.new)
theorem pmk_ownN {X : Cx} {C : Addr} {bmB : List Value} {B newId initId : String} {x : Str} {p pos : Pos} {e : Expr} {es : List Expr} {t : TA} (F : ExcBaseFacts B newId initId bmB) (q : PySem.W.excIn X.K C bmB newId = true) (gC : X.mg x = some (.ref C))
    (kC : PySem.W.keepIn X.K (.ref C) = true) (r : Raises X (.ref C)) (hg : Gl X x) (ha : PA X (e :: es) t) (hdb : (x == ("__debug__" : Str)) = false)
    (he : starEach (e :: es) X.env = (false, eval e X.env) :: starEach es X.env) (hpl : (backTo pos (starEach es X.env)).any (·.1) = false) :
    L2N.PMk X (.Call (.Name x p) (e :: es) [] pos) (fun σ H Q => t σ H fun vs H1 => vs.length ≤ sizeLine ∧ Q (.ref C) none H1) := by
  intro pins s σ H Q I h
  refine wpAny_Call_Name_kw (ld_glob I hg gC ?_ hdb)
  refine PySem.W.callWith_K (h₀ := X.base) I.ok.mod.kin kC (thn (ha.run pos pins s σ H _ I h) fun us s1 ⟨vs, H1, I1, rv, hz, q1⟩ => ⟨I1.kIn, ?_⟩) he hpl
  obtain ⟨bm, N, nm, qn, bs, hdct, sn, sub, ab, col, dd, k0, k1, k2, k3, k5, mN, hC, hN, hni, T⟩ := exc_obj I1.kIn q
  exact wpAny_call_exc_subT F T hC hN hni (fun h' e hm => L2N.mk_of I1 hm r q1 (I1.hok.gone hm.new)) (by rw [List.nil_append, ← rv.length]; exact hz)
section
variable {X : Cx} {G : Pg} {W : WX} {x : Str} {c : Nat} {t : DA} {p pos pos' : Pos} {e : Expr} {es : List Expr}
theorem ss_raise (hc : X.calm = true) (tk : L2N.Takes X W) (hK : X.K = G.K) (ro : RaiseOk G c) (hm : X.mg x = some (.ref (G.ca c))) (hg : Gl X x) (ha : PA X (e :: es) (LA G W t)) (hdb : (x == ("__debug__" : Str)) = false)
    (he : starEach (e :: es) X.env = (false, eval e X.env) :: starEach es X.env) (hpl : (backTo pos (starEach es X.env)).any (·.1) = false) :
    PS X (.Raise (some (.Call (.Name x p) (e :: es) [] pos)) none pos') (LS G W (sRaise c t)) := by
  obtain ⟨bmB, B, newId, initId, F, q⟩ := ro.ex
  refine ps_imp (L2N.ps_raise hc tk (pmk_ownN F (by rw [hK]; exact q) hm (by rw [hK]; exact ro.kp) (raises_own (by rw [hK]; exact ro.r1) (by rw [hK]; exact ro.r2)) hg ha hdb he hpl)) ?_
  rintro D σ H ⟨en, h, D', re, rh, z, l⟩
  refine LA.mk re rh z (l.x re) fun ds h1 vs H1 t1 tl1 rh1 r1 re1 x1 => ?_
  exact ⟨by rw [r1.length]; exact t1.1, l.ex _ _ _ _ _ _ H1 t1.2 tl1 rh1 re1 ⟨rfl, rfl⟩⟩
theorem ss_raise0 (hc : X.calm = true) (tk : L2N.Takes X W) (hK : X.K = G.K) (ro : RaiseOk G c) (hm : X.mg x = some (.ref (G.ca c))) (hg : Gl X x) (hdb : (x == ("__debug__" : Str)) = false) :
    PS X (.Raise (some (.Call (.Name x p) [] [] pos)) none pos') (LS G W (sRaise c cNil)) := by
  obtain ⟨bmB, B, newId, initId, F, q⟩ := ro.ex
  refine ps_imp (L2N.ps_raise hc tk (pmk_own0 F (by rw [hK]; exact q) hm (by rw [hK]; exact ro.kp) (raises_own (by rw [hK]; exact ro.r1) (by rw [hK]; exact ro.r2)) hg hdb)) ?_
  rintro D σ H ⟨en, h, D', re, rh, z, l⟩
  exact l.ex _ _ _ _ _ _ H z.2 (TupLe.refl H) rh re ⟨rfl, rfl⟩
end

/-! ### try -/
/-- a clause: the class, the slot of its name, the suite -/
abbrev Cl := Value × Option Nat × (Addr → Value → Option Addr → TS)
def endsAt (i : Nat) (D : Ends) : Ends := { nx := fun σ' H' => D.nx (σ'.set i none) H', rt := D.rt, bk := fun σ' H' => D.bk (σ'.set i none) H', ct := fun σ' H' => D.ct (σ'.set i none) H' }
def wCl (K : PySem.W.Frag) (Wout : WX) (D : Ends) : List Cl → WX
  | [] => Wout
  | (c, none, ts) :: r => fun cls d σ H => ∃ b, PySem.W.exmOne K cls c = some b ∧ (b = true → ∀ a, H a = none → ts a cls d D σ H) ∧ (b = false → wCl K Wout D r cls d σ H)
  | (c, some i, ts) :: r => fun cls d σ H => ∃ b, PySem.W.exmOne K cls c = some b ∧ (b = true → ∀ a, H a = none → ts a cls d (endsAt i D) (σ.set i (some (.ref a))) H) ∧ (b = false → wCl K Wout D r cls d σ H)
inductive ClsOk (X : Cx) : List ExceptHandler → List Cl → Prop
  | nil : ClsOk X [] []
  | one {x : Str} {c : Value} {ts : Addr → Value → Option Addr → TS} {b₀ : Stmt} {suite : List Stmt} {np pos' : Pos} {hds : List ExceptHandler} {l : List Cl} (hc : Names X x c)
      (hsu : ∀ (a : Addr) (oe : Obj) (cls : Value) (d : Option Addr) (pn : List (Addr × Obj)), L2N.Zn cls d oe → (∃ vs, oe.data = .fields vs) → PSs (X.suite a ((a, oe) :: pn)) (b₀ :: suite) (ts a cls d)) (r : ClsOk X hds l) :
      ClsOk X (.ExceptHandler (some (.Name x np)) none (b₀ :: suite) pos' :: hds) ((c, none, ts) :: l)
  | as {x n : Str} {i : Nat} {c : Value} {ts : Addr → Value → Option Addr → TS} {b₀ : Stmt} {suite : List Stmt} {np pos' : Pos} {hds : List ExceptHandler} {l : List Cl} (hc : Names X x c)
      (hi : X.N[i]? = some n) (hln : X.env.kindOf n = some .local)
      (hsu : ∀ (a : Addr) (oe : Obj) (cls : Value) (d : Option Addr) (pn : List (Addr × Obj)), L2N.Zn cls d oe → (∃ vs, oe.data = .fields vs) → PSs (X.suite a ((a, oe) :: pn)) (b₀ :: suite) (ts a cls d)) (r : ClsOk X hds l) :
      ClsOk X (.ExceptHandler (some (.Name x np)) (some n) (b₀ :: suite) pos' :: hds) ((c, some i, ts) :: l)
/-- an exception of the body, caught: where its object stands, the context beside it -/
structure Lnd (X : Cx) (pins : List (Addr × Obj)) (gr : Heap) (ad : Addr) (cv : Value) (dd : Option Addr) (st : L2.St) (Hh : Hp) (sh : Shared) (hp : Heap) : Prop where
  fly : HandSPX.FlyingZ gr (X.env :: X.outer) ad (L2N.Zn cv dd) hp
  inv : Inv X pins st Hh { sh with heap := hp }
  nl : ad ≠ X.env.locals
  nf : ad ∉ X.fs
  nh : Hh ad = none
section
variable {X : Cx} {pins : List (Addr × Obj)} {gr : Heap} {ad : Addr} {cv : Value} {dd : Option Addr} {st : L2.St} {Hh : Hp} {sh : Shared} {hp : Heap}
theorem Lnd.obj (z : Lnd X pins gr ad cv dd st Hh sh hp) : ∃ ob vs, hp.get? ad = some ob ∧ L2N.Zn cv dd ob ∧ ob.data = .fields vs := by
  obtain ⟨ob, vs, e1, e2, e3⟩ := z.fly.there
  exact ⟨ob, vs, e1, e2, e3⟩
/-- the suite's context at that moment -/
theorem Lnd.within (z : Lnd X pins gr ad cv dd st Hh sh hp) {ob : Obj} {vs : Array Value} (e1 : hp.get? ad = some ob) (e3 : ob.data = .fields vs) : Inv (X.suite ad ((ad, ob) :: (X.pn ++ pins))) [] st Hh { sh with heap := hp } :=
  Inv.suite z.inv e1 e3 z.nh z.nl z.nf
end
section
variable {X : Cx} {body : List Stmt} {h₀ : ExceptHandler} {hds : List ExceptHandler} {l : List Cl} {pos : Pos} {tb : WX → TS} {Wout : WX}
theorem ps_try_cl (hs : X.stack = X.env :: X.outer) (hf : X.env.frame = some X.env.locals) (hN : X.N.Nodup) (tk : L2N.Takes X Wout)
    (hb : ∀ (W : WX) (pn : List (Addr × Obj)) (xe : Value → Shared → Prop), L2N.Takes (X.tr pn xe) W → PassesOwn (model X.prog X.w) X.A X.env xe → PSs (X.tr pn xe) body (tb W))
    (hh : ClsOk X (h₀ :: hds) l) : PS X (.Try body (h₀ :: hds) [] [] pos) (fun D σ H => tb (wCl X.K Wout D l) D σ H) := by
  refine ⟨fun pins s0 st0 Hh0 Dd I0 wish => ?_⟩
  have okx := I0.ok
  have afr : X.A.frames = some (X.env :: X.outer) := okx.frames.trans (by rw [hs])
  refine wpAny_Try_except ?_
  have caught : L2N.Takes (X.tr (X.pn ++ pins) fun ev z1 => wpAny (model X.prog X.w) X.A (noteFrame ev X.env) (fun _ z2 => wpAny (model X.prog X.w) X.A (setFlight ev none) (fun _ z3 =>
      wpAny (model X.prog X.w) X.A (handleBy ev X.env (h₀ :: hds)) (SP X pins Dd) X.xe z3) X.xe z2) X.xe z1) (wCl X.K Wout Dd l) := by
    intro ev z1 thrown
    obtain ⟨ad, gr, sh, ps', st, Hh, cv, dd, rfl, J0, notb, upt, skyz, nh, osz, gens, ww⟩ := thrown
    have Jx := J0.ofTry okx
    rw [show (X.tr _ _).stack = X.env :: X.outer from hs] at skyz
    show wpAny (model X.prog X.w) X.A (noteFrame (.ref ad) X.env) _ _ _
    refine L2N.Sky.land L2N.Zn.steady afr hf skyz fun hp flz upz => ?_
    have at_ : ∀ {hq : Heap}, HandSPX.FlyingZ gr (X.env :: X.outer) ad (L2N.Zn cv dd) hq → z1.heap.UpToSlots hq → Lnd X pins gr ad cv dd st Hh z1 hq := by
      intro hq fq uq
      obtain ⟨ob, vs, e1, e2, e3⟩ := fq.there
      have nofr : ad ∉ frs (X.env :: X.outer) := by
        intro hm
        obtain ⟨_, ob', e', hno⟩ := fq.2.2.1.mem hm
        cases e1.symm.trans e'
        exact hno _ e3
      refine ⟨fq, Jx.landed notb fq.1 (upt.trans uq) osz gens, ?_, ?_, nh⟩
      · rintro rfl
        exact nofr (List.mem_filterMap.mpr ⟨X.env, List.mem_cons_self, hf⟩)
      · intro hm
        obtain ⟨en, h1, h2⟩ := List.mem_filterMap.mp hm
        exact nofr (List.mem_filterMap.mpr ⟨en, List.mem_cons_of_mem _ h1, h2⟩)
    have Lz := at_ flz upz
    obtain ⟨ob, vs, g1, g2, g3⟩ := Lz.obj
    have Sz := Lz.within g1 g3
    have typ : PySem.W.Looks (model X.prog X.w) hp (typeOf (.ref ad)) cv := fun _ _ _ _ kk qq => wpAny_typeOf_ref (kk _ _ g1) (by rw [g2.1]; exact qq)
    have named : ∀ {x : Str} {cl : Value} {np : Pos} {Q : Value → Shared → Prop} {E : Value → Shared → Prop}, Names X x cl → Q cl { z1 with heap := hp } → wpAny (model X.prog X.w) (X.A.mark (some (.ref ad))) (eval (.Name x np) X.env) Q E { z1 with heap := hp } := by
      intro x cl np Q E nm qq
      rcases nm with ⟨n1, n2, n3 | ⟨n3, n4, n5⟩⟩
      · exact ld_glob (X := X.suite ad ((ad, ob) :: (X.pn ++ pins))) Sz n1 n3 qq n2
      · exact ld_blt (X := X.suite ad ((ad, ob) :: (X.pn ++ pins))) Sz n1 n3 n4 qq n5 n2
    have each : ∀ {hs' : List ExceptHandler} {cs : List Cl}, ClsOk X hs' cs → wCl X.K Wout Dd cs cv dd st Hh → wpAny (model X.prog X.w) X.A (handleBy (.ref ad) X.env hs') (SP X pins Dd) X.xe { z1 with heap := hp } := by
      intro hs' cs good
      induction good with
      | nil =>
        intro left
        refine wpAny_handleBy_nil ?_
        obtain ⟨_, _, _, o9, v9, T9, _, _, e9, _, d9, f9, _⟩ := id flz
        unfold PySem.passOn
        refine wpAny_bind (wpAny_field e9 d9 f9 ?_)
        have notNone : ¬ ((Value.ref T9 == Value.none) = true) := by simp
        rw [if_neg notNone]
        have onward : wpAny (model X.prog X.w) X.A (setFlight (.ref ad) X.env.frame) (fun _ z4 => wpAny (model X.prog X.w) X.A (throw (.ref ad) : Sem Flow) (SP X pins Dd) X.xe z4) X.xe { z1 with heap := hp } := by
          rw [hf]
          refine HandSPX.setFlight_upZ flz fun hq held uq => wpAny_throw (tk _ _ ⟨ad, gr, sh, pins, st, Hh, cv, dd, rfl, Jx, notb, (upt.trans upz).trans uq, .inr (.inr ?_), nh, osz, gens, left⟩)
          rw [hs]; exact held
        first
          | exact wpAny_bind (wpAny_pure (wpAny_bind onward))
          | exact wpAny_bind onward
      | @one x cl ts bb rest np pp hs2 cs2 nm run _ ih =>
        intro ⟨hit, e0, yes, no⟩
        refine wpAny_handleBy_cons (codeAny_handlers_test ?_) (by intro zz; cases zz)
        refine named nm ((PySem.W.exm_one (M := model X.prog X.w) Lz.inv.kIn typ e0).here ?_)
        cases hit with
        | false => exact ih (no rfl)
        | true =>
          refine codeAny_handlers_suite (HandSPX.lands_againZ flz fun hq fq uq => ?_)
          have Lq := at_ fq (upz.trans uq)
          obtain ⟨oq, vq, q1, q2, q3⟩ := Lq.obj
          refine wpAny_mono ((run ad oq cv dd (X.pn ++ pins) q2 ⟨_, q3⟩).run [] _ _ Hh _ (Lq.within q1 q3) (yes rfl ad nh)) (fun fl z6 done => ?_) (fun _ _ zz => zz.elim)
          cases fl with
          | next => exact let ⟨_, _, W1, w2⟩ := done; ⟨_, _, W1.unsuite okx, w2⟩
          | brk => exact let ⟨_, _, W1, w2⟩ := done; ⟨_, _, W1.unsuite okx, w2⟩
          | cont => exact let ⟨_, _, W1, w2⟩ := done; ⟨_, _, W1.unsuite okx, w2⟩
          | ret u => exact let ⟨_, _, _, W1, w2, w3⟩ := done; ⟨_, _, _, W1.unsuite okx, w2, w3⟩
      | @as x nn i cl ts bb rest np pp hs2 cs2 nm hi hl run _ ih =>
        intro ⟨hit, e0, yes, no⟩
        refine wpAny_handleBy_cons (codeAny_handlers_test ?_) (by intro zz; cases zz)
        refine named nm ((PySem.W.exm_one (M := model X.prog X.w) Lz.inv.kIn typ e0).here ?_)
        cases hit with
        | false => exact ih (no rfl)
        | true =>
          refine codeAny_handlers_suite_as (HandSPX.lands_againZ flz fun hq fq uq => ?_)
          have Lq := at_ fq (upz.trans uq)
          obtain ⟨oq, vq, q1, q2, q3⟩ := Lq.obj
          refine store_ok (X := X.suite ad ((ad, oq) :: (X.pn ++ pins))) (v := .ref ad) (Lq.within q1 q3) hN hi (.inl hl) rfl (fun z5 W5 => ?_) (.inr hl)
          refine wpAny_mono ((run ad oq cv dd (X.pn ++ pins) q2 ⟨_, q3⟩).run [] z5 _ Hh _ W5 (yes rfl ad nh)) (fun fl z6 done => ?_) (fun _ _ zz => zz.elim)
          -- the name goes
          have after : ∀ {st6 : L2.St} {H6 : Hp} {Q : Shared → Prop}, Inv (X.suite ad ((ad, oq) :: (X.pn ++ pins))) [] st6 H6 z6 → (∀ z7, Inv X pins (st6.set i none) H6 z7 → Q z7) →
              wpAny (model X.prog X.w) X.A (do bindName X.env nn .none; unbindBehindTheSuite X.env nn pp) (fun _ z7 => Q z7) X.xe z6 := fun W6 qq => gone_ok (W6.unsuite okx) hN hi hl qq
          cases fl with
          | next => exact let ⟨_, _, W1, w2⟩ := done; after W1 fun _ W7 => ⟨_, _, W7, w2⟩
          | brk => exact let ⟨_, _, W1, w2⟩ := done; after W1 fun _ W7 => ⟨_, _, W7, w2⟩
          | cont => exact let ⟨_, _, W1, w2⟩ := done; after W1 fun _ W7 => ⟨_, _, W7, w2⟩
          | ret u => exact let ⟨_, _, _, W1, w2, w3⟩ := done; after W1 fun _ W7 => ⟨_, _, _, W7, w2, w3⟩
    exact each hh ww
  have bodyrun := (hb _ _ _ caught PassesOwn.looking).run [] s0 st0 Hh0 Dd (I0.toTry _) wish
  refine wpAny_mono bodyrun (fun fl z1 done => ?_) (fun _ _ zz => zz)
  cases fl with
  | next => exact let ⟨_, _, W1, w2⟩ := done; wpAny_execs_nil ⟨_, _, W1.ofTry okx, w2⟩
  | brk => exact let ⟨_, _, W1, w2⟩ := done; ⟨_, _, W1.ofTry okx, w2⟩
  | cont => exact let ⟨_, _, W1, w2⟩ := done; ⟨_, _, W1.ofTry okx, w2⟩
  | ret u => exact let ⟨_, _, _, W1, w2, w3⟩ := done; ⟨_, _, _, W1.ofTry okx, w2, w3⟩
end
/-- at D: the class as a test of own classes' numbers, the slot of the name, the suite -/
abbrev DCl := (Nat → Option Bool) × Option Nat × (Addr → DX → DS)
def dEndsAt (i : Nat) (D : DEnds) : DEnds := { nx := fun e h => D.nx (e.set i none) h, rt := D.rt, bk := fun e h => D.bk (e.set i none) h, ct := fun e h => D.ct (e.set i none) h }
def noEx (D : DEnds) : DEnds := { nx := D.nx, rt := D.rt, bk := D.bk, ct := D.ct }
def exCl (D : DEnds) : List DCl → DX → DSt → DH → Prop
  | [] => D.ex
  | (k, none, s) :: r => fun x e h => ∃ b, k x.c = some b ∧ (b = true → ∀ a, h a = none → s a x (noEx D) e h) ∧ (b = false → exCl D r x e h)
  | (k, some i, s) :: r => fun x e h => ∃ b, k x.c = some b ∧ (b = true → ∀ a, h a = none → s a x (dEndsAt i D) (e.set i (some (.ref a))) h) ∧ (b = false → exCl D r x e h)
def sTry (b : DS) (l : List DCl) : DS := fun D e h => b { D with ex := exCl D l } e h
/-- a clause's reading, its class c -/
structure ClD (G : Pg) (X : Cx) (hd : ExceptHandler) (q : DCl) : Prop where
  go : ∃ (x : Str) (c : Value) (b₀ : Stmt) (suite : List Stmt) (np pos' : Pos) (n : Option Str), hd = .ExceptHandler (some (.Name x np)) n (b₀ :: suite) pos' ∧ Names X x c ∧ (∀ m b, q.1 m = some b → PySem.W.exmOne G.K (.ref (G.ca m)) c = some b) ∧
    (match n, q.2.1 with
      | none, none => True
      | some n, some i => X.N[i]? = some n ∧ X.env.kindOf n = some .local
      | _, _ => False) ∧
    ∀ (a : Addr) (oe : Obj) (xx : DX) (d : Option Addr) (pn : List (Addr × Obj)), L2N.Zn (.ref (G.ca xx.c)) d oe → (xx.fs = none → d = none) → (∃ vs, oe.data = .fields vs) → PSs (X.suite a ((a, oe) :: pn)) (b₀ :: suite) (LS G (fun _ _ _ _ => False) (q.2.2 a xx))
theorem ss_try {X : Cx} {G : Pg} {W : WX} {body : List Stmt} {h₀ : ExceptHandler} {hds : List ExceptHandler} {pos : Pos} {tb : DS} {q₀ : DCl} {qs : List DCl} (hK : X.K = G.K) (hs : X.stack = X.env :: X.outer) (hf : X.env.frame = some X.env.locals) (hN : X.N.Nodup) (tk : L2N.Takes X W)
    (hb : ∀ (W : WX) (pn : List (Addr × Obj)) (xe : Value → Shared → Prop), L2N.Takes (X.tr pn xe) W → PassesOwn (model X.prog X.w) X.A X.env xe → PSs (X.tr pn xe) body (LS G W tb))
    (hh : Paired (ClD G X) (h₀ :: hds) (q₀ :: qs)) : PS X (.Try body (h₀ :: hds) [] [] pos) (LS G W (sTry tb (q₀ :: qs))) := by
  -- the readings of the clauses
  have mk : ∀ {hd : List ExceptHandler} {qs : List DCl}, Paired (ClD G X) hd qs → ∃ l : List Cl, ClsOk X hd l ∧ ∀ (D : Ends) (D' : DEnds) (H0 H : Hp) (xx : DX) (e : DSt) (h : DH) (cls : Value) (d : Option Addr) (σ : L2.St), LEnds G W D D' H0 → TupLe H0 H → RH G H h → RE G.K H e σ → RX G H xx cls d →
      exCl D' qs xx e h → wCl X.K W D l cls d σ H := by
    intro hd qs hp
    induction hp with
    | nil => exact ⟨[], .nil, fun D D' H0 H xx e h cls d σ l tl rh re rx q => l.ex xx e h cls d σ H q tl rh re rx⟩
    | @cons hd q hds qs hq r ih =>
      obtain ⟨l, ok, ih⟩ := ih
      obtain ⟨x, c, b₀, suite, np, pos', n, rfl, hn, hk, hsl, hsu⟩ := hq.go
      obtain ⟨k, o, s⟩ := q
      have suite_ok : ∀ (a : Addr) (oe : Obj) (cls : Value) (d : Option Addr) (pn : List (Addr × Obj)), L2N.Zn cls d oe → (∃ vs, oe.data = .fields vs) → PSs (X.suite a ((a, oe) :: pn)) (b₀ :: suite)
          (fun D σ H => ∃ xx : DX, cls = .ref (G.ca xx.c) ∧ (xx.fs = none → d = none) ∧ LS G (fun _ _ _ _ => False) (s a xx) D σ H) := by
        intro a oe cls d pn hz hf
        refine ⟨fun pins st σ H D I ⟨xx, e1, e2, z⟩ => ?_⟩
        subst e1
        exact (hsu a oe xx d pn hz e2 hf).run pins st σ H D I z
      have rxn : ∀ {H : Hp} {xx : DX} {cls : Value} {d : Option Addr}, RX G H xx cls d → cls = .ref (G.ca xx.c) ∧ (xx.fs = none → d = none) := fun {H xx cls d} rx => ⟨rx.1, fun z => by
        have := rx.2
        rw [z] at this
        exact this⟩
      cases n with
      | none =>
        cases o with
        | some i => exact hsl.elim
        | none =>
          refine ⟨_, .one hn suite_ok ok, fun D D' H0 H xx e h cls d σ l tl rh re rx q => ?_⟩
          obtain ⟨b, eb, yes, no⟩ := q
          refine ⟨b, by rw [rx.1, hK]; exact hk _ _ eb, fun y a ha => ?_, fun y => ih D D' H0 H xx e h cls d σ l tl rh re rx (no y)⟩
          refine ⟨xx, (rxn rx).1, (rxn rx).2, e, h, noEx D', re, rh, yes y a (rh.fresh ha), ?_⟩
          exact ⟨fun e' h' σ' H' z t' => l.nx e' h' σ' H' z (tl.trans t'), fun d h' v H' z t' => l.rt d h' v H' z (tl.trans t'), fun e' h' σ' H' z t' => l.bk e' h' σ' H' z (tl.trans t'), fun e' h' σ' H' z t' => l.ct e' h' σ' H' z (tl.trans t'), fun _ _ _ _ _ _ _ z => z.elim⟩
      | some n =>
        cases o with
        | none => exact hsl.elim
        | some i =>
          refine ⟨_, .as hn hsl.1 hsl.2 suite_ok ok, fun D D' H0 H xx e h cls d σ l tl rh re rx q => ?_⟩
          obtain ⟨b, eb, yes, no⟩ := q
          refine ⟨b, by rw [rx.1, hK]; exact hk _ _ eb, fun y a ha => ?_, fun y => ih D D' H0 H xx e h cls d σ l tl rh re rx (no y)⟩
          refine ⟨xx, (rxn rx).1, (rxn rx).2, _, h, dEndsAt i D', re.set rep_ref, rh, yes y a (rh.fresh ha), ?_⟩
          exact ⟨fun e' h' σ' H' z t' rh' re' => l.nx _ h' _ H' z (tl.trans t') rh' re'.unset, fun d h' v H' z t' => l.rt d h' v H' z (tl.trans t'), fun e' h' σ' H' z t' rh' re' => l.bk _ h' _ H' z (tl.trans t') rh' re'.unset, fun e' h' σ' H' z t' rh' re' => l.ct _ h' _ H' z (tl.trans t') rh' re'.unset, fun _ _ _ _ _ _ _ z => z.elim⟩
  obtain ⟨l, ok, hl⟩ := mk hh
  refine ps_imp (ps_try_cl hs hf hN tk hb ok) ?_
  rintro D σ H ⟨e, h, D', re, rh, z, le⟩
  refine ⟨e, h, _, re, rh, z, ⟨le.nx, le.rt, le.bk, le.ct, fun xx e' h' cls dd σ' H' q tl rh' re' rx => ?_⟩⟩
  exact hl D D' H H' xx e' h' cls dd σ' le tl rh' re' rx q
/-! isinstance(e, C) in a suite -/
def cIsiX (da : DE) (a : Addr) (o : Option Bool) : DE := fun e h P R => da e h (fun x h1 => (match x with
  | .ref b => b = a
  | _ => False) ∧ ∃ b, o = some b ∧ P (.bl b) h1) R
theorem se_isiX {X : Cx} {G : Pg} {W : WX} {ae ce : Expr} {da : DE} {p pos : Pos} {a DC : Addr} {cv : V} {u : Value} {o : Option Bool} (hcall : CallR X (.builtin "isinstance") (rIsE X.K DC a)) (hk : ∀ b, o = some b → PySem.W.kitOne X.K (.ref DC) u = some b) (hcv : ∀ z, RelV cv z → z = u) (hce : PE X ce (tC cv)) (ha : PE X ae (LE G W da))
    (hg : Gl X "isinstance") (hm : X.mg "isinstance" = none) (hs1 : starEach [ae, ce] X.env = (false, eval ae X.env) :: starEach [ce] X.env) (hs2 : starEach [ce] X.env = (false, eval ce X.env) :: starEach [] X.env) (hpl : (backTo pos (starEach [ce] X.env)).any (·.1) = false) :
    PE X (.Call (.Name "isinstance" p) [ae, ce] [] pos) (LE G W (cIsiX da a o)) := by
  refine pe_imp (pe_callB hcall hg hm PyProof.Rows.boot_isinstance (pa_cons ha (pa_cons hce pa_nil hs2) hs1) (by decide) (by decide) hs1 hpl) ?_
  rintro σ H Q ⟨en, h, P, R, re, rh, t, fin, x⟩
  refine LE.mk re rh t x fun d h1 v H1 t1 tl1 rh1 r1 re1 x1 => ?_
  obtain ⟨e1, b, e2, q⟩ := t1
  cases d with
  | ref a' =>
    have e1' : a' = a := e1
    subst e1'
    exact ⟨cv, u, b, by rw [r1.ref_], hcv, hk b e2, fin _ h1 _ H1 q tl1 rh1 rep_bl⟩
  | _ => exact e1.elim
/-! ### dicts: displays, copies, get; len(set(xs)) -/
def cDict0 : DE := fun _ h P _ => (∀ p, h p = none → P (.ref p) (up h p (.dK []))) ∨ ∀ p, h p = none → P (.ref p) (up h p (.dT []))
theorem se_dict0 {X : Cx} {G : Pg} {W : WX} {pos : Pos} : PE X (.Dict [] [] pos) (LE G W cDict0) := ⟨fun pins s σ H Q I q => by
  obtain ⟨e, h, P, R, re, rh, t, fin, x⟩ := q
  rcases t with t | t
  · exact pe_dnewK.run pins s σ H Q I fun p hp => fin _ _ _ _ (t p (rh.fresh hp)) (TupLe.new hp) (rh.upd (fun z e => by rw [hp] at e; cases e) ⟨[], upd_same, rfl⟩) rep_ref
  · exact pe_dnewT.run pins s σ H Q I fun p hp => fin _ _ _ _ (t p (rh.fresh hp)) (TupLe.new hp) (rh.upd (fun z e => by rw [hp] at e; cases e) ⟨[], upd_same, rfl⟩) rep_ref⟩
def bDict1 : DB := fun ds h P => match ds with
  | [.ref a] => match h a with
    | some (.dK kvs) => ∀ p, h p = none → P (.ref p) (up h p (.dK kvs))
    | _ => False
  | _ => False
theorem ob_dict {G : Pg} : OpB G bDict1 (fun xs H Q => ∃ (a : Addr) (kvs : List (Key × V)), xs = [.ref a] ∧ Rd H a (.dK kvs) ∧ ∀ p, H p = none → Q (.ref p) (upd H p (.dK kvs))) := fun H h ds vs P Q rh r q f => by
  unfold bDict1 at q
  split at q
  · rename_i a
    obtain ⟨v, rfl, p⟩ := r.one
    split at q
    · rename_i kvs ea
      obtain ⟨ws, e1, r1⟩ := rh _ _ ea
      exact ⟨a, ws, by rw [p.ref_], .inl e1, fun b hb => f _ _ _ _ (q b (rh.fresh hb)) (TupLe.new hb) (rh.upd (fun z e => by rw [hb] at e; cases e) ⟨ws, upd_same, r1.keep (TupLe.new hb)⟩) rep_ref⟩
    · exact q.elim
  · exact q.elim
def rGet (P : Program) (w : World) (K : PySem.W.Frag) : V → List V → Hp → VK → Prop := fun x xs H Q => (∃ a y o, x = .ref a ∧ xs = [y] ∧ DGetW P w K H a y o ∧ Q (o.getD .non) H) ∨ ∃ a y z o, x = .ref a ∧ xs = [y, z] ∧ DGetW P w K H a y o ∧ Q (o.getD z) H
theorem mt_get {X : Cx} (hu : X.A.units + 1 < cLine) : MtR X "dict.get" (rGet X.prog X.w X.K) := by
  intro pins s σ H x xs v us Q I rx rs q
  rcases q with ⟨a, y, o, rfl, rfl, g, q⟩ | ⟨a, y, z, o, rfl, rfl, g, q⟩
  · cases rx
    cases rs with
    | cons ry rt =>
      cases rt
      exact dw_get1 hu I g ry fun w' s' I' r' => ⟨_, H, I', r', q⟩
  · cases rx
    cases rs with
    | cons ry rt =>
      cases rt with
      | cons rz rt =>
        cases rt
        exact dw_get2 hu I g ry rz fun w' s' I' r' => ⟨_, H, I', r', q⟩
def mGet : DM := fun x ds h P => match x, ds with
  | .ref a, [k] => dGet h a k fun o => P (o.getD .non) h
  | .ref a, [k, d] => dGet h a k fun o => P (o.getD d) h
  | _, _ => False
theorem om_get {G : Pg} : OpM G mGet (rGet G.P G.w G.K) := fun H h x ds v vs P Q rh rx rs q f => by
  unfold mGet at q
  split at q
  · rename_i a k
    obtain ⟨w, rfl, rw_⟩ := rs.one
    obtain ⟨o, ov, g, z, e1, e2⟩ := dGet_ok rh rw_ q
    refine .inl ⟨a, w, ov, rx.ref_, rfl, g, f.val rh z ?_⟩
    cases o with
    | none => rw [e2 rfl]; exact rep_non
    | some d =>
      obtain ⟨u, e3, r⟩ := e1 d rfl
      rw [e3]; exact r
  · rename_i a k d0
    obtain ⟨w, us, rfl, rw_, rs'⟩ := rs.cons_
    obtain ⟨u0, rfl, ru⟩ := rs'.one
    obtain ⟨o, ov, g, z, e1, e2⟩ := dGet_ok rh rw_ q
    refine .inr ⟨a, w, u0, ov, rx.ref_, rfl, g, f.val rh z ?_⟩
    cases o with
    | none => rw [e2 rfl]; exact ru
    | some d =>
      obtain ⟨u, e3, r⟩ := e1 d rfl
      rw [e3]; exact r
  · exact q.elim
/-- how many different ones -/
def ddN (ns : List Int) : Nat := (PyProof.Rows.firstMet (fun i => ns.getD i 0) ns.length).length
def cLenSet (a : DE) : DE := fun e h P R => a e h (fun x h1 => (∃ xs ns, lstOf h1 x = some xs ∧ intsD xs = some ns ∧ ns.length < 63 ∧ P (.int (ddN ns : Nat)) h1) ∨
  ∃ kss : List (List Int), lstOf h1 x = some (kss.map fun k => D.tup (k.map D.int)) ∧ kss.Nodup ∧ kss.length < 63 ∧ P (.int (kss.length : Nat)) h1) R
def tLenS (K : PySem.W.Frag) (ta : TE) : TE := fun σ H Q => ta σ H fun x H1 => (∃ (l : Addr) (ns : List Int), x = V.ref l ∧ SqL K H1 l (ns.map V.int) ∧ ns.length < 63 ∧ Q (.int (ddN ns : Nat)) H1) ∨
  ∃ (l : Addr) (ks : List (Addr × List Int)), x = V.ref l ∧ SqL K H1 l (ks.map fun p => V.ref p.1) ∧ (∀ p ∈ ks, SqT K H1 p.1 (p.2.map V.int)) ∧ (ks.map (·.2)).Nodup ∧ ks.length < 63 ∧ Q (.int (ks.length : Nat)) H1
theorem got_len {ks L : List (Addr × List Int)} (n : (L.map (·.2)).Nodup) (nk : (ks.map (·.2)).Nodup) (s : ∀ p ∈ L, p ∈ ks) (a : ∀ p ∈ ks, p.2 ∈ L.map (·.2)) : L.length = ks.length := by
  have h1 := List.Nodup.length_le_of_subset n fun x hx => by
    obtain ⟨p, hp, e⟩ := List.mem_map.mp hx
    exact List.mem_map.mpr ⟨p, s p hp, e⟩
  have h2 := List.Nodup.length_le_of_subset nk fun x hx => by
    obtain ⟨p, hp, e⟩ := List.mem_map.mp hx
    exact e ▸ a p hp
  rw [List.length_map, List.length_map] at h1 h2
  omega
theorem pe_lenS {X : Cx} {a : Expr} {ta : TE} {p p2 q pos : Pos} (hc : X.calm = true) (hu : X.A.units + 8 < cLine) (hg : Gl X "len") (hm : X.mg "len" = none) (hg2 : Gl X "set") (hm2 : X.mg "set" = none) (ha : PE X a ta)
    (na : starEach [a] X.env = (false, eval a X.env) :: starEach [] X.env) : PE X (.Call (.Name "len" p) [.Call (.Name "set" p2) [a] [] q] [] pos) (tLenS X.K ta) := ⟨fun pins s σ H Q I w => by
  refine PyProof.Rows.Call_ (ld_blt I hg hm PySem.boot_len (PyProof.Rows.callWith_builtin1 (PyProof.Rows.args_cons ?_ rfl) rfl rfl))
  refine PyProof.Rows.Call_ (ld_blt I hg2 hm2 PyProof.Rows.boot_set (PyProof.Rows.callWith_type1 (PyProof.Rows.args_cons (thn (ha.run pins s σ H _ I w) fun v s1 z => PyProof.Rows.args_nil ?_) na) na rfl))
  obtain ⟨x, H1, I1, r1, ⟨l, ns, rfl, hq, h1, q1⟩ | ⟨l, ks, rfl, hq, hk, nk, h1, q1⟩⟩ := z
  case inr =>
    cases r1
    obtain ⟨its, rv, pl, hz⟩ := I1.list hq
    refine call_set_tups (P := X.prog) (w := X.w) ks (I1.ok.hd hc) pl.isList (by simpa using refs_of_vals rv) (fun p hp => I1.isT (hk p hp)) (by omega) (by show X.A.units + 3 < cLine; omega) fun h' tk L es ep t R g k => PyProof.Rows.args_nil ?_
    obtain ⟨o, ho, hex, hd⟩ := R.ob
    have el := got_len R.nd nk (fun p hp => List.mem_of_mem_take (g.sub p hp)) (fun p hp => g.all p (by rw [List.take_length]; exact hp))
    have I2 : Inv X pins σ H1 { s1 with heap := h', toks := tk } := I1.kept fun b o e => k b o e
    have hsz := SetTR.size (s := { s1 with heap := h', toks := tk }) R
    exact call_len_set ho hex hd (SetTR.fits (s := { s1 with heap := h', toks := tk }) R) (by rw [hsz, el]; omega) ⟨.int (ks.length : Nat), H1, I2.tok _, ⟨_, by rw [hsz, el]⟩, q1⟩
  cases r1
  obtain ⟨its, r, pl, hz⟩ := I1.list hq
  have hl : its.toArray.size = ns.length := by rw [List.size_toArray, ← r.length, List.length_map]
  refine PySem.call_set_list (I1.ok.hd hc) pl.isList (ns := ns) (by simpa using r.ints) (by unfold scanBound; omega) fun h' tk hS hk => PyProof.Rows.args_nil ?_
  rw [hl] at hS
  obtain ⟨o, es, ep, t, ho, hex, hd, _, _, _, hf, hn⟩ := hS
  have le : ddN ns ≤ ns.length := PyProof.Rows.firstMet_length_le _ _
  have I2 : Inv X pins σ H1 { s1 with heap := h', toks := tk } := I1.kept fun b o e => hk b o (Heap.lt_size e) e
  exact call_len_set ho hex hd hf (by rw [hn]; show ((ddN ns : Nat) : Int) < 2 ^ 63; omega) ⟨.int (ddN ns : Nat), H1, I2.tok _, ⟨_, by rw [hn]; rfl⟩, q1⟩⟩
/-! ### x == {}, x != {} -/
def doEq0 (v : Bool) : DO := fun x y h P => match x, y with
  | .ref a, .ref b => (h a = some (.dK []) ∧ h b = some (.dK [])) ∧ P (.bl v) h
  | _, _ => False
theorem od_eq0 {G : Pg} : OpD G (doEq0 true) rEqDA := fun H h x y v u P Q rh rx ry p f => by
  cases x <;> cases y <;> first | exact p.elim | skip
  rename_i a b
  obtain ⟨⟨ea, eb⟩, q⟩ := p
  obtain ⟨ws, e1, r1⟩ := rh _ _ ea
  obtain ⟨ws', e2, r2⟩ := rh _ _ eb
  rw [show ws = [] from r1] at e1
  rw [show ws' = [] from r2] at e2
  exact ⟨a, b, [], [], rx.ref_, ry.ref_, e1, e2, rfl, (fun _ z => by cases z), f.val rh q rep_bl⟩
theorem od_ne0 {G : Pg} : OpD G (doEq0 false) rNeDA := fun H h x y v u P Q rh rx ry p f => by
  cases x <;> cases y <;> first | exact p.elim | skip
  rename_i a b
  obtain ⟨⟨ea, eb⟩, q⟩ := p
  obtain ⟨ws, e1, r1⟩ := rh _ _ ea
  obtain ⟨ws', e2, r2⟩ := rh _ _ eb
  rw [show ws = [] from r1] at e1
  rw [show ws' = [] from r2] at e2
  exact ⟨a, b, [], [], rx.ref_, ry.ref_, e1, e2, rfl, (fun _ z => by cases z), f.val rh q rep_bl⟩
/-! ### a dict that a loop walks -/
def unE (d : Addr) (f u : MO) (E : DEnds) : DEnds where
  nx := fun e h => h d = some f ∧ E.nx e (up h d u)
  rt := fun x h => h d = some f ∧ E.rt x (up h d u)
  bk := fun e h => h d = some f ∧ E.bk e (up h d u)
  ct := fun e h => h d = some f ∧ E.ct e (up h d u)
  ex := E.ex
/-- the statement as it is, or with a dict locked -/
def sLk (t : DS) : DS := fun E e h => t E e h ∨ (∃ d kvs, h d = some (.dK kvs) ∧ ∀ o ws, t (unE d (.fK kvs o ws) (.dK kvs) E) e (up h d (.fK kvs o ws))) ∨
  ∃ d kvs, h d = some (.dT kvs) ∧ ∀ o ws, t (unE d (.fT kvs o ws) (.dT kvs) E) e (up h d (.fT kvs o ws))
section
variable {X : Cx} {G : Pg} {W : WX} {st : Stmt} {t : DS}
theorem lk_ends {D : Ends} {D' : DEnds} {H : Hp} {d : Addr} {od : Obj} {u : HO} {f m : MO} (hd : H d = some u) (hu : fixedO u = false) (hf : fixedO (.frz od u) = false)
    (go : ∀ H' h', RH G H' h' → h' d = some f → H' d = some (.frz od u) ∧ RH G (L2.upd H' d u) (up h' d m)) (le : LEnds G W D D' H) :
    LEnds G W ⟨fun σ' H' => H' d = some (.frz od u) ∧ D.nx σ' (L2.upd H' d u), fun v H' => H' d = some (.frz od u) ∧ D.rt v (L2.upd H' d u), fun σ' H' => H' d = some (.frz od u) ∧ D.bk σ' (L2.upd H' d u), fun σ' H' => H' d = some (.frz od u) ∧ D.ct σ' (L2.upd H' d u)⟩ (unE d f m D') (L2.upd H d (.frz od u)) := by
  have t0 : TupLe H (L2.upd H d (.frz od u)) := TupLe.upd fun z e => by rw [hd] at e; cases e; exact hu
  have t1 : ∀ {H'}, H' d = some (.frz od u) → TupLe H' (L2.upd H' d u) := fun {H'} e => TupLe.upd fun z e' => by rw [e] at e'; cases e'; exact hf
  refine ⟨fun e' h' σ' H' z tl rh re => ?_, fun x h' v H' z tl rh r => ?_, fun e' h' σ' H' z tl rh re => ?_, fun e' h' σ' H' z tl rh re => ?_, fun x e' h' cls dd σ' H' z tl => le.ex x e' h' cls dd σ' H' z (t0.trans tl)⟩
  · obtain ⟨e1, r1⟩ := go H' h' rh z.1
    exact ⟨e1, le.nx _ _ _ _ z.2 (t0.trans (tl.trans (t1 e1))) r1 (re.keep (t1 e1))⟩
  · obtain ⟨e1, r1⟩ := go H' h' rh z.1
    exact ⟨e1, le.rt _ _ _ _ z.2 (t0.trans (tl.trans (t1 e1))) r1 (Rep.keep (t1 e1) _ _ r)⟩
  · obtain ⟨e1, r1⟩ := go H' h' rh z.1
    exact ⟨e1, le.bk _ _ _ _ z.2 (t0.trans (tl.trans (t1 e1))) r1 (re.keep (t1 e1))⟩
  · obtain ⟨e1, r1⟩ := go H' h' rh z.1
    exact ⟨e1, le.ct _ _ _ _ z.2 (t0.trans (tl.trans (t1 e1))) r1 (re.keep (t1 e1))⟩
theorem ss_lk (h : PS X st (LS G W t)) : PS X st (LS G W (sLk t)) := by
  refine ⟨fun pins s σ H D I q => ?_⟩
  obtain ⟨e, dh, D', re, rh, z, le⟩ := q
  rcases z with z | ⟨d, kvs, hd, z⟩ | ⟨d, kvs, hd, z⟩
  · exact h.run pins s σ H D I ⟨e, dh, D', re, rh, z, le⟩
  · obtain ⟨ws, e1, r1⟩ := rh _ _ hd
    refine (ps_lock h).run pins s σ H D I ⟨d, .dK ws, e1, trivial, fun od => ?_⟩
    have t0 : TupLe H (L2.upd H d (.frz od (.dK ws))) := TupLe.upd fun z e => by rw [e1] at e; cases e; rfl
    refine ⟨e, up dh d (.fK kvs od ws), _, re.keep t0, rh.upd (fun z e => by rw [e1] at e; cases e; rfl) ⟨upd_same, r1.keep t0⟩, z od ws, lk_ends e1 rfl rfl (fun H' h' rh' e2 => ?_) le⟩
    obtain ⟨e3, r3⟩ := rh' _ _ e2
    have hf : ∀ z, H' d = some z → fixedO z = false := fun z e => by rw [e3] at e; cases e; rfl
    exact ⟨e3, rh'.upd hf ⟨ws, upd_same, r3.keep (TupLe.upd hf)⟩⟩
  · obtain ⟨ws, e1, r1⟩ := rh _ _ hd
    refine (ps_lock h).run pins s σ H D I ⟨d, .dT ws, e1, trivial, fun od => ?_⟩
    have t0 : TupLe H (L2.upd H d (.frz od (.dT ws))) := TupLe.upd fun z e => by rw [e1] at e; cases e; rfl
    refine ⟨e, up dh d (.fT kvs od ws), _, re.keep t0, rh.upd (fun z e => by rw [e1] at e; cases e; rfl) ⟨upd_same, r1.keep t0⟩, z od ws, lk_ends e1 rfl rfl (fun H' h' rh' e2 => ?_) le⟩
    obtain ⟨e3, r3⟩ := rh' _ _ e2
    have hf : ∀ z, H' d = some z → fixedO z = false := fun z e => by rw [e3] at e; cases e; rfl
    exact ⟨e3, rh'.upd hf ⟨ws, upd_same, r3.keep (TupLe.upd hf)⟩⟩
end
/-! ### o.f += a, o.f -= a (ints) -/
def sAugF (g : Int → Int → Int) (o a : DE) (ix : List (Nat × Nat)) : DS := fun D e h => o e h (fun x h1 => match x with
  | .ref p => ∃ c fs i m, h1 p = some (.ins c fs) ∧ ix.lookup c = some i ∧ fs[i]? = some (.int m) ∧ a e h1 (fun y h2 => ∃ n fs', y = .int n ∧ h2 p = some (.ins c fs') ∧ i < fs'.length ∧ D.nx e (up h2 p (.ins c (fs'.set i (.int (g m n)))))) fun x h2 => D.ex x e h2
  | _ => False) fun x h1 => D.ex x e h1
/-- del o[i] of a list -/
def sDelL (o i : DE) : DS := fun D e h => o e h (fun x h1 => i e h1 (fun y h2 => match x, y with
  | .ref p, .int j => ∃ xs k, h2 p = some (.lst xs) ∧ -(2 ^ 63) ≤ j ∧ j < 2 ^ 63 ∧ seqIndex? j xs.length = some k ∧ D.nx e (up h2 p (.lst (xs.eraseIdx k)))
  | _, _ => False) fun x h2 => D.ex x e h2) fun x h1 => D.ex x e h1
theorem Reps.erase {K : PySem.W.Frag} {H : Hp} : ∀ {ds : List D} {vs : List V}, Reps K H ds vs → ∀ k : Nat, Reps K H (ds.eraseIdx k) (vs.eraseIdx k)
  | [], vs, r, k => by rw [r.nil_]; exact reps_nil
  | d :: ds, vs, r, k => by
    obtain ⟨v, us, rfl, p, q⟩ := r.cons_
    cases k with
    | zero => exact q
    | succ k => exact reps_cons p (q.erase k)
section
variable {X : Cx} {G : Pg} {W : WX} {a o i : Expr} {da db : DE} {pos tpos : Pos}
theorem ss_augF {op : Operator} {g : Int → Int → Int} {rd : V → V → Hp → VK → Prop} {f : Str} {ix : List (Nat × Nat)} (hop : InOp X op rd) (hrd : ∀ i j H Q, Q (.int (g i j)) H → rd (.int i) (.int j) H Q) (hK : X.K = G.K) (hf : FldOk G f ix) (hz : ∀ c, (G.fn c).length < 1000)
    (ho : PE X o (LE G W db)) (ha : PE X a (LE G W da)) : PS X (.AugAssign (.Attribute o f tpos) op a pos) (LS G W (sAugF g db da ix)) := ps_imp (ps_fldaug ho ha hop) (by
  rintro D σ H ⟨e, h, D', re, rh, z, l⟩
  refine LE.mk re rh z (l.x re) fun x h1 v H1 t1 tl1 rh1 r1 re1 x1 => ?_
  cases x with
  | ref p =>
    obtain ⟨c, fs, i, m, e1, e2, e3, t1⟩ := t1
    obtain ⟨dx, vs, k1, k2, k3⟩ := rh1 _ _ e1
    obtain ⟨hc, hn, hi, nd⟩ := hf c i e2
    obtain ⟨w, k4, k5⟩ := k2.get e3
    refine ⟨p, G.ca c, dx, _, w, r1.ref_, k1, by rw [hK]; exact hc, by rw [hK]; exact hn, zip_look nd hi k4, ?_⟩
    rw [k5.int_]
    refine LE.mk re1 rh1 t1 ((l.later tl1).x re1) fun y h2 u H2 t2 tl2 rh2 r2 re2 x2 => ?_
    obtain ⟨n, fs', rfl, e4, hlt, q⟩ := t2
    obtain ⟨dx', vs', j1, j2, j3⟩ := rh2 _ _ e4
    rw [r2.int_]
    have lv := j2.length
    refine hrd m n H2 _ ⟨dx', _, j1, by rw [List.length_zip]; have := hz c; omega, ?_⟩
    have tl3 : TupLe H2 (upd H2 p (.ins (G.ca c) dx' (putF f (.int (g m n)) ((G.fn c).zip vs')))) := TupLe.upd fun u q => by rw [j1] at q; cases q; rfl
    refine l.nx e _ σ _ q (tl1.trans (tl2.trans tl3)) (rh2.upd (fun u q => by rw [j1] at q; cases q; rfl) ?_) (re2.keep tl3)
    refine ⟨dx', vs'.set i (.int (g m n)), ?_, (Reps.keep tl3 _ _ j2).set i rep_int, by rw [List.length_set]; exact j3⟩
    rw [upd_same, zip_put nd hi (by rw [lv]; exact hlt)]
  | _ => exact t1.elim)
theorem ss_delL (ho : PE X o (LE G W db)) (hi : PE X i (LE G W da)) : PS X (.Delete [.Subscript o i tpos] pos) (LS G W (sDelL db da)) := ps_imp (ps_delL ho hi) (by
  rintro D σ H ⟨e, h, D', re, rh, z, l⟩
  refine LE.mk re rh z (l.x re) fun x h1 v H1 t1 tl1 rh1 r1 re1 x1 => ?_
  refine LE.mk re1 rh1 t1 ((l.later tl1).x re1) fun y h2 u H2 t2 tl2 rh2 r2 re2 x2 => ?_
  cases x with
  | ref p =>
    cases y with
    | int j =>
      obtain ⟨xs, k, e1, b1, b2, hk, q⟩ := t2
      obtain ⟨vs, s, r⟩ := rh2.lst e1
      have hf : ∀ z, H2 p = some z → fixedO z = false := fun z q => by rw [s] at q; cases q; rfl
      refine ⟨p, vs, j, k, (Rep.keep tl2 _ _ r1).ref_, r2.int_, s, b1, b2, by rw [r.length]; exact hk, ?_⟩
      exact l.nx e _ σ _ q (tl1.trans (tl2.trans (TupLe.upd hf))) (rh2.upd hf ⟨_, upd_same, (Reps.keep (TupLe.upd hf) _ _ r).erase k⟩) (re2.keep (TupLe.upd hf))
    | _ => exact t2.elim
  | _ => exact t2.elim)
end
/-! ### extend, pop -/
def mExtend : DM := fun x ds h P => match x, ds with
  | .ref a, [.ref b] => ∃ xs ys, h a = some (.lst xs) ∧ h b = some (.lst ys) ∧ xs.length + ys.length ≤ sizeLine ∧ P .non (up h a (.lst (xs ++ ys)))
  | _, _ => False
theorem om_extend {G : Pg} : OpM G mExtend rExtend := fun H h x ds v vs P Q rh rx rs q f => by
  unfold mExtend at q
  split at q
  · rename_i a b
    obtain ⟨xs, ys, ea, eb, hl, q⟩ := q
    obtain ⟨us, s, r⟩ := rh.lst ea
    obtain ⟨ws, s2, r2⟩ := rh.lst eb
    obtain ⟨w, rfl, rw_⟩ := rs.one
    have hf : ∀ u, H a = some u → fixedO u = false := fun u z => by rw [s] at z; cases z; rfl
    refine ⟨a, b, us, ws, rx.ref_, by rw [rw_.ref_], s, s2, by rw [r.length, r2.length]; exact hl, f _ _ _ _ q (TupLe.upd hf) (rh.upd hf ?_) rep_non⟩
    exact ⟨_, upd_same, (Reps.keep (TupLe.upd hf) _ _ r).append (Reps.keep (TupLe.upd hf) _ _ r2)⟩
  · exact q.elim
/-- xs.pop(), xs.pop(i) -/
def mPopL : DM := fun x ds h P => match x, ds with
  | .ref a, [] => ∃ xs y, h a = some (.lst xs) ∧ xs[xs.length - 1]? = some y ∧ P y (up h a (.lst xs.dropLast))
  | .ref a, [.int i] => ∃ xs k y, h a = some (.lst xs) ∧ -(2 ^ 63) ≤ i ∧ i < 2 ^ 63 ∧ seqIndex? i xs.length = some k ∧ xs[k]? = some y ∧ P y (up h a (.lst (xs.eraseIdx k)))
  | _, _ => False
def rPopLA : V → List V → Hp → VK → Prop := fun x vs H Q => rPop x vs H Q ∨ rPopAt x vs H Q
theorem mt_popLA {X : Cx} : MtR X "list.pop" rPopLA := fun pins s σ H x xs v us Q I rx rs q => q.elim (mt_pop pins s σ H x xs v us Q I rx rs) (mt_popAt pins s σ H x xs v us Q I rx rs)
theorem om_popL {G : Pg} : OpM G mPopL rPopLA := fun H h x ds v vs P Q rh rx rs q f => by
  unfold mPopL at q
  split at q
  · rename_i a
    obtain ⟨xs, y, ea, ey, q⟩ := q
    obtain ⟨us, s, r⟩ := rh.lst ea
    have hf : ∀ u, H a = some u → fixedO u = false := fun u z => by rw [s] at z; cases z; rfl
    obtain ⟨w, e1, r1⟩ := r.get ey
    refine .inl ⟨a, us, w, rx.ref_, rs.nil_, s, by rw [r.length]; exact e1, f _ _ _ _ q (TupLe.upd hf) (rh.upd hf ⟨_, upd_same, (Reps.keep (TupLe.upd hf) _ _ r).dropLast⟩) (Rep.keep (TupLe.upd hf) _ _ r1)⟩
  · rename_i a i
    obtain ⟨xs, k, y, ea, b1, b2, hk, ey, q⟩ := q
    obtain ⟨us, s, r⟩ := rh.lst ea
    obtain ⟨w0, rfl, rw_⟩ := rs.one
    have hf : ∀ u, H a = some u → fixedO u = false := fun u z => by rw [s] at z; cases z; rfl
    obtain ⟨w, e1, r1⟩ := r.get ey
    refine .inr ⟨a, us, i, k, w, rx.ref_, by rw [rw_.int_], s, b1, b2, by rw [r.length]; exact hk, e1, f _ _ _ _ q (TupLe.upd hf) (rh.upd hf ⟨_, upd_same, (Reps.keep (TupLe.upd hf) _ _ r).erase k⟩) (Rep.keep (TupLe.upd hf) _ _ r1)⟩
  · exact q.elim
/-- xs.index(i), ints -/
def mIndexI : DM := fun x ds h P => match x, ds with
  | .ref a, [.int i] => ∃ (ns : List Int) (j : Nat), h a = some (.lst (ns.map D.int)) ∧ ns[j]? = some i ∧ (∀ m : Nat, m < j → ns[m]? ≠ some i) ∧ P (.int (j : Nat)) h
  | _, _ => False
theorem om_indexI {G : Pg} : OpM G mIndexI (rIndex G.K) := fun H h x ds v vs P Q rh rx rs q f => by
  unfold mIndexI at q
  split at q
  · rename_i a i
    obtain ⟨ns, j, ea, ej, hn, q⟩ := q
    obtain ⟨us, s, r⟩ := rh.lst ea
    obtain ⟨w0, rfl, rw_⟩ := rs.one
    have eu := r.ints_
    subst eu
    have at_ : ∀ m : Nat, (ns.map V.int)[m]? = (ns[m]?).map V.int := fun m => List.getElem?_map ..
    refine ⟨a, ns.map V.int, .int i, j, .int i, rx.ref_, by rw [rw_.int_], .inl (.inl s), rfl, ?_, by rw [at_, ej]; rfl, ?_, fun m z hm hz => ?_, f.val rh q rep_int⟩
    · rw [List.all_map, List.all_eq_true]
      intro x _; rfl
    · show (i == i) = true
      simp
    · rw [at_] at hz
      obtain ⟨k, e1, rfl⟩ := Option.map_eq_some_iff.mp hz
      show (k == i) = false
      rw [beq_eq_false_iff_ne]
      intro e
      exact hn m hm (by rw [e1, e])
  · exact q.elim
/-! ### max, min of a tuple of ints -/
section
variable {prog : Program} {w : World} {A : Around} {E : Value → Shared → Prop} {s : Shared} {t : Addr} {its : List Value} {ns : List Int} {Q : Value → Shared → Prop}
theorem tup_kept {h' : Heap} (hk : ∀ b o, b ∉ [s.heap.objs.size] → (s.heap.push { cls := .type "tuple_iterator", data := .fields #[.ref t, .int 0 0] }).get? b = some o → h'.get? b = some o) : ∀ b o, s.heap.get? b = some o → h'.get? b = some o := fun b o e =>
  hk b o (fun z => absurd (List.mem_singleton.mp z ▸ Heap.lt_size e) (Nat.lt_irrefl _)) (Heap.get?_push_of_some _ e)
theorem max_tupI (hh : A.handled = none) (hl : s.heap.IsTuple t its.toArray) (hi : PyProof.Rows.IntsAre its ns) (hne : 0 < ns.length)
    (h : ∀ h' tk M t', (∀ b o, s.heap.get? b = some o → h'.get? b = some o) → M ∈ ns → (∀ y, y ∈ ns → y ≤ M) → Q (.int M t') { s with heap := h', toks := tk }) : wpAny (model prog w) A (call (.builtin "max") [.ref t]) Q E s := by
  obtain ⟨xs, ex⟩ := hi.allInts.items
  have en : numsOf (intItems xs).toList = ns := by rw [← ex]; exact hi.numsOf
  rw [nums_intItems] at en
  subst en
  rw [ex] at hl
  have pos : 0 < xs.size := by simpa using hne
  have lt : t < s.heap.objs.size := by obtain ⟨_, e0, _⟩ := hl; exact Heap.lt_size e0
  refine call_max_walk (wpAny_pyIter_tuple hl ⟨_, _, _, _, _, _, _, rfl, Walks.tuple (A := A.in1) hh _ t (Nat.ne_of_lt lt) (intItems xs), ⟨⟨_, Heap.get?_push_size _ rfl, rfl, rfl⟩, ?_⟩, fun b hb => ?_, by simpa [intItems] using pos, CmpOf.ints_gt (numAt xs) (fun _ _ => intItems_at), fun v h' tk hP hk => ?_⟩)
  · obtain ⟨o, e0, r⟩ := hl
    exact ⟨o, Heap.get?_push_of_some _ e0, r⟩
  · show b < (s.heap.push _).objs.size
    rw [Heap.size_push]
    simp only [List.mem_cons, List.not_mem_nil, or_false] at hb
    rcases hb with hb | hb
    · rw [hb]; exact Nat.lt_succ_self _
    · rw [hb]; exact Nat.lt_succ_of_lt lt
  · obtain ⟨tt, rfl⟩ := intItems_at (by simpa [intItems] using hP)
    obtain ⟨g1, g2⟩ := argBest_gt (numAt xs) (xs.size - 1)
    refine h h' tk _ tt (tup_kept hk) ?_ fun y hy => ?_
    · rw [numAt_eq]; exact PySem.getD_mem (Nat.lt_of_le_of_lt g1 (by rw [List.length_map, Array.length_toList]; omega))
    · obtain ⟨j, hj, rfl⟩ := mem_getD hy
      rw [List.length_map, Array.length_toList] at hj
      rw [← numAt_eq]; exact g2 j (by omega)
end
def rMaxT (K : PySem.W.Frag) : List V → Hp → VK → Prop := fun vs H Q => ∃ (a : Addr) (ns : List Int), vs = [V.ref a] ∧ SqT K H a (ns.map V.int) ∧ 0 < ns.length ∧ ∀ m, m ∈ ns → (∀ y, y ∈ ns → y ≤ m) → Q (.int m) H
theorem cr_maxT {X : Cx} (hc : X.calm = true) : CallR X (.builtin "max") (rMaxT X.K) := by
  intro pins s σ H vs us Q I r z
  obtain ⟨a, ns, rfl, hs, hne, q⟩ := z
  obtain ⟨its, rv, p, _⟩ := I.tuple hs
  rw [Vals.ref1 r]
  exact max_tupI (I.ok.hd hc) (show s.heap.IsTuple a its.toArray from p) rv.ints hne fun h' tk m t' hk m1 m2 => ⟨.int _, H, I.kept hk, ⟨_, rfl⟩, q m m1 m2⟩
/-- max of a tuple too -/
def bMaxA : DB := fun ds h P => match ds with
  | [.tup xs] => ∃ ns, intsD xs = some ns ∧ 0 < ns.length ∧ ∀ m, m ∈ ns → (∀ y, y ∈ ns → y ≤ m) → P (.int m) h
  | _ => bMax ds h P
theorem ob_maxA {G : Pg} : OpB G bMaxA (fun vs H Q => rMaxT G.K vs H Q ∨ (rMax G.K vs H Q ∨ ∃ i j, vs = [.int i, .int j] ∧ Q (.int (if j > i then j else i)) H)) := fun H h ds vs P Q rh r q f => by
  unfold bMaxA at q
  split at q
  · rename_i xs
    obtain ⟨ns, e1, hl, k⟩ := q
    obtain ⟨v, rfl, p⟩ := r.one
    obtain ⟨a, us, rfl, s, rs⟩ := p.tup_
    rw [intsD_eq e1] at rs
    rw [rs.ints_] at s
    exact .inl ⟨a, ns, rfl, s, hl, fun m m1 m2 => f.val rh (k m m1 m2) rep_int⟩
  · exact .inr (ob_max H h _ vs P Q rh r q f)
/-! ### sorted(d), dict(d) -/
def bSortedA : DB := fun ds h P => match ds with
  | [.ref a] => match h a with
    | some (.dT kvs) => ∃ (ks : List (List Int)) (d : Nat) (B : Int), kvs.map (·.1) = ks.map (List.map Sum.inl) ∧ ks.length < 64 ∧ 1 ≤ d ∧ (∀ k ∈ ks, k.length = d ∧ TS.Bd B k) ∧
      ∀ ys : List (List Int), ys.Perm ks → ys.Pairwise (fun x y => TS.code B x ≤ TS.code B y) → ∀ p, h p = none → P (.ref p) (up h p (.lst (ys.map fun k => .tup (k.map D.int))))
    | some (.dK kvs) => ∃ ks : List Int, kvs.map (·.1) = ks.map Sum.inl ∧ ks.length < 64 ∧ ∀ ys : List Int, ys.Perm ks → ys.Pairwise (· ≤ ·) → ∀ p, h p = none → P (.ref p) (up h p (.lst (ys.map D.int)))
    | _ => bSorted ds h P
  | _ => bSorted ds h P
def rSortedA (K : PySem.W.Frag) : List V → Hp → VK → Prop := fun vs H Q => rSortedI K vs H Q ∨ (∃ (d : Nat) (B : Int), 1 ≤ d ∧ rSortDT d B vs H Q) ∨ (∃ (a : Addr) (kvs : List (Key × V)) (ks : List Int), vs = [.ref a] ∧ Rd H a (.dK kvs) ∧ kvs.map (·.1) = ks.map Sum.inl ∧ ks.length < 64 ∧
    ∀ (ys : List Int) (p : Addr), ys.Perm ks → ys.Pairwise (· ≤ ·) → H p = none → Q (.ref p) (upd H p (.lst (ys.map V.int))))
theorem cr_sortedA {X : Cx} (hc : X.calm = true) : CallR X (.builtin "sorted") (rSortedA X.K) := by
  intro pins s σ H xs us Q I r q
  rcases q with q | ⟨d, B, hd, q⟩ | q
  · exact cr_sortedI pins s σ H xs us Q I r q
  · exact call_sortedDT hd hc pins s σ H xs us Q I r q
  · exact call_sortedDI hc pins s σ H xs us Q I r q
theorem reps_pairs {K : PySem.W.Frag} {H : Hp} {ys : List (List Int)} {bs : List Addr} (r : Paired (fun k b => H b = some (.tup (k.map V.int))) ys bs) : Reps K H (ys.map fun k => .tup (k.map D.int)) (bs.map V.ref) := by
  induction r with
  | nil => exact reps_nil
  | cons h t ih => exact reps_cons (rep_tup h (reps_ints _)) ih
theorem ob_sortedA {G : Pg} : OpB G bSortedA (rSortedA G.K) := fun H h ds vs P Q rh r q f => by
  unfold bSortedA at q
  split at q
  · rename_i a
    split at q
    · rename_i kvs ea
      obtain ⟨ks, d, B, e1, e2, e3, e4, q⟩ := q
      obtain ⟨v, rfl, p⟩ := r.one
      obtain ⟨ws, e5, r1⟩ := rh _ _ ea
      refine .inr (.inl ⟨d, B, e3, a, ws, ks, by rw [p.ref_], .inl e5, by rw [r1.keys]; exact e1, e2, e4, fun ys bs l h1 h2 h3 hl => ?_⟩)
      refine f.new rh (fun c hc => q ys h1 h2 c hc) (fun c hc => OR.lst hc (Reps.keep (TupLe.refl H) _ _ (reps_pairs h3))) l hl
    · rename_i kvs ea
      obtain ⟨ks, e1, e2, q⟩ := q
      obtain ⟨v, rfl, p⟩ := r.one
      obtain ⟨ws, e5, r1⟩ := rh _ _ ea
      exact .inr (.inr ⟨a, ws, ks, by rw [p.ref_], .inl e5, by rw [r1.keys]; exact e1, e2, fun ys l h1 h2 hl => f.new rh (fun c hc => q ys h1 h2 c hc) (fun c hc => OR.lst hc (reps_ints ys)) l hl⟩)
    · exact .inl (ob_sorted H h _ vs P Q rh r q f)
  · exact .inl (ob_sorted H h _ vs P Q rh r q f)
def bDictA : DB := fun ds h P => match ds with
  | [.ref a] => match h a with
    | some (.dT kvs) => ∃ ks : List (List Int), kvs.map (·.1) = ks.map (List.map Sum.inl) ∧ (ks.map ihash).Nodup ∧ ∀ p, h p = none → P (.ref p) (up h p (.dT kvs))
    | _ => bDict1 ds h P
  | _ => bDict1 ds h P
theorem call_dictA {X : Cx} : CallR X (.type "dict") (fun xs H Q => (∃ (a : Addr) (kvs : List (Key × V)), xs = [.ref a] ∧ Rd H a (.dK kvs) ∧ ∀ p, H p = none → Q (.ref p) (upd H p (.dK kvs))) ∨ rDictT xs H Q) := call_dictD.or call_dictT
theorem ob_dictA {G : Pg} : OpB G bDictA (fun xs H Q => (∃ (a : Addr) (kvs : List (Key × V)), xs = [.ref a] ∧ Rd H a (.dK kvs) ∧ ∀ p, H p = none → Q (.ref p) (upd H p (.dK kvs))) ∨ rDictT xs H Q) := fun H h ds vs P Q rh r q f => by
  unfold bDictA at q
  split at q
  · rename_i a
    split at q
    · rename_i kvs ea
      obtain ⟨ks, e1, e2, q⟩ := q
      obtain ⟨v, rfl, p⟩ := r.one
      obtain ⟨ws, e5, r1⟩ := rh _ _ ea
      exact .inr ⟨a, ws, ks, by rw [p.ref_], .inl e5, by rw [r1.keys]; exact e1, e2, fun b hb => f _ _ _ _ (q b (rh.fresh hb)) (TupLe.new hb) (rh.upd (fun z e => by rw [hb] at e; cases e) ⟨ws, upd_same, r1.keep (TupLe.new hb)⟩) rep_ref⟩
    · exact .inl (ob_dict H h _ vs P Q rh r q f)
  · exact .inl (ob_dict H h _ vs P Q rh r q f)
theorem wpAny_Dict_one {prog : Program} {w : World} {A : Around} {E : Value → Shared → Prop} {s : Shared} {env : Env} {k v : Expr} {pos : Pos} {Q : Value → Shared → Prop}
    (h : wpAny (model prog w) A (evalPairs (pairTrees [some k] [v] env pos)) (fun vs s1 => wpAny (model prog w) A (forIn vs PUnit.unit fun (x : Value × Value) (_ : PUnit) => (do dictSet s.heap.objs.size x.1 x.2; pure (ForInStep.yield PUnit.unit) : Sem (ForInStep PUnit))) (fun _ s2 => Q (.ref s.heap.objs.size) s2) E s1) E
      { s with heap := s.heap.push { cls := .type "dict", data := .dict #[] } }) : wpAny (model prog w) A (eval (.Dict [some k] [v] pos) env) Q E s := by
  rw [arm_eval_Dict, zip_pairTrees [some k] [v] env pos rfl rfl, dictDisplay_pairs _ (by simp [pairTrees]) (by simp [pairTrees])]
  refine wpAny_bind (wpAny_standAt (wpAny_bind ?_))
  unfold subDict
  refine wpAny_bind (wpAny_alloc ?_)
  refine wpAny_bind (wpAny_holding ?_)
  rw [if_pos (by simp [pairTrees])]
  refine wpAny_bind (wpAny_mono h (fun vs s₁ h₁ => ?_) fun _ _ e => e)
  refine wpAny_holding ?_
  exact wpAny_bind (wpAny_mono h₁ (fun _ s2 h2 => wpAny_pure (wpAny_pure (wpAny_pure h2))) fun _ _ e => e)
theorem pe_dispT1 {X : Cx} {a b : Expr} {pos : Pos} {ta tb : TE} (hu : X.A.units + 1 < cLine) (ha : PE X a ta) (hb : PE X b tb) : PE X (.Dict [some a] [b] pos) (fun σ H Q => ∀ p, H p = none → ta σ (upd H p (.dT [])) fun x H1 => tb σ H1 fun y H2 =>
    H2 p = some (.dT []) ∧ ∃ c k, x = .ref c ∧ H2 c = some (.tup (k.map kV)) ∧ Q (.ref p) (upd H2 p (.dT [(k, y)]))) := by
  refine ⟨fun pins s σ H Q I q => ?_⟩
  have hn := I.hok.fresh (Nat.le_refl s.heap.objs.size)
  have I1 := I.laid (a := s.heap.objs.size) (o := .dT []) (h' := s.heap.push { cls := .type "dict", data := .dict #[] }) (t' := s.toks) (fun _ _ q => Heap.get?_push_of_some _ q) (Nat.le_refl _) (dt_empty s.heap I.big)
  refine wpAny_Dict_one (pairTrees_cons_walk (thn (ha.run pins _ σ _ _ I1 (q _ hn)) fun v s1 ⟨x, H1, I1, rx, q1⟩ => thn (hb.run pins s1 σ H1 _ I1 q1) fun u s2 ⟨y, H2, I2, ry, e, c, k, ex, ec, q2⟩ => pairTrees_nil_walk ?_))
  subst ex
  cases (show v = Value.ref c from rx)
  obtain ⟨z, hd, xs, rel, dd⟩ := dt_of I2.hok e
  cases rel
  rw [List.forIn_cons]
  refine wpAny_bind (wpAny_bind (wpAny_dictSet_heap (hsz := Nat.zero_le _) (show (tupleKind (mixKind X.prog X.w)).room X.A from Nat.lt_of_succ_lt hu) (key_of I2.hok ec) dd fun h' dd' hs => wpAny_pure ?_))
  show wpAny (model X.prog X.w) X.A (pure PUnit.unit) _ _ _
  refine wpAny_pure ⟨.ref s.heap.objs.size, _, ?_, rfl, q2⟩
  obtain ⟨qo, es, ep, hq, h2, h3, h4, _, h5⟩ := dd'
  refine d_write I2 (by rw [e]; exact True.intro) hs ⟨qo, hq⟩ ⟨Nat.le_trans (by simp) (show 1 ≤ sizeLine by rw [sizeLine_eq]; omega), hd, _, ?_, qo, es, ep, hq, h2, h3, h4, h5⟩
  exact .cons ⟨rfl, by rw [upd_ne (fun z => by have z' : c = s.heap.objs.size := z; rw [z', e] at ec; cases ec)]; exact ec, ry⟩ .nil
theorem pe_dispX1 {X : Cx} {a b : Expr} {pos : Pos} {ta tb : TE} (hu : X.A.units + 1 < cLine) (ha : PE X a ta) (hb : PE X b tb) : PE X (.Dict [some a] [b] pos) (fun σ H Q => ∀ p, H p = none → ta σ (upd H p (DXO X.prog X.w p [])) fun x H1 => tb σ H1 fun y H2 =>
    H2 p = some (DXO X.prog X.w p []) ∧ ∃ c k, x = .ref c ∧ SqT X.K H2 c (k.map kV) ∧ ∀ u, L2.RelV y u → Q (.ref p) (upd H2 p (DXO X.prog X.w p [(k, c, u)]))) := by
  refine ⟨fun pins s σ H Q I q => ?_⟩
  have hn := I.hok.fresh (Nat.le_refl s.heap.objs.size)
  have I1 := I.laid (a := s.heap.objs.size) (o := DXO X.prog X.w s.heap.objs.size []) (h' := s.heap.push { cls := .type "dict", data := .dict #[] }) (t' := s.toks) (fun _ _ q => Heap.get?_push_of_some _ q) (Nat.le_refl _) (rawX_ok (rawX_empty s.heap I.big))
  refine wpAny_Dict_one (pairTrees_cons_walk (thn (ha.run pins _ σ _ _ I1 (q _ hn)) fun v s1 ⟨x, H1, I1, rx, q1⟩ => thn (hb.run pins s1 σ H1 _ I1 q1) fun u s2 ⟨y, H2, I2, ry, e, c, k, ex, ec, q2⟩ => pairTrees_nil_walk ?_))
  subst ex
  cases (show v = Value.ref c from rx)
  obtain ⟨hd, dd⟩ := dx_of I2 e (fun q hq => by cases hq)
  rw [List.forIn_cons]
  refine wpAny_bind (wpAny_bind (wpAny_dictSet_heap (hsz := Nat.zero_le _) (show (tupleKind (mixKind X.prog X.w)).room X.A from Nat.lt_of_succ_lt hu) (key_sq I2 ec) dd fun h' dd' hs => wpAny_pure ?_))
  show wpAny (model X.prog X.w) X.A (pure PUnit.unit) _ _ _
  obtain ⟨qo, es, ep, hq, h2, h3, h4, _, h5⟩ := dd'
  refine wpAny_pure ⟨.ref s.heap.objs.size, _, ?_, rfl, q2 u ry⟩
  exact d_write I2 (by rw [e]; exact True.intro) hs ⟨qo, hq⟩ (rawX_ok ⟨hd, qo, es, ep, hq, h2, h3, h4, h5⟩)
/-- {a: b} -/
def cDict1 (a b : DE) : DE := fun e h P R => (∀ p, h p = none → a e (up h p (.dK [])) (fun x h1 => b e h1 (fun y h2 => h2 p = some (.dK []) ∧ ∃ k, x.key? = some k ∧ P (.ref p) (up h2 p (.dK [(k, y)]))) R) R) ∨
  (∀ p, h p = none → a e (up h p (.dT [])) (fun x h1 => b e h1 (fun y h2 => h2 p = some (.dT []) ∧ ∃ k, x.tkey? = some k ∧ P (.ref p) (up h2 p (.dT [(k, y)]))) R) R) ∨
  ∀ p, h p = none → a e (up h p (.dX [])) (fun x h1 => b e h1 (fun y h2 => h2 p = some (.dX []) ∧ ∃ m k, x.xkey? = some (m, k) ∧ P (.ref p) (up h2 p (.dX [(k, m, y)]))) R) R
theorem pe_or2 {X : Cx} {e : Expr} {t1 t2 : TE} (h1 : PE X e t1) (h2 : PE X e t2) : PE X e (fun σ H Q => t1 σ H Q ∨ t2 σ H Q) := ⟨fun pins s σ H Q I q => q.elim (h1.run pins s σ H Q I) (h2.run pins s σ H Q I)⟩
theorem se_dict1 {X : Cx} {G : Pg} {W : WX} {pos : Pos} {a b : Expr} {da db : DE} (hP : X.prog = G.P) (hw : X.w = G.w) (hK : X.K = G.K) (hu : X.A.units + 1 < cLine) (ha : PE X a (LE G W da)) (hb : PE X b (LE G W db)) : PE X (.Dict [some a] [b] pos) (LE G W (cDict1 da db)) :=
  pe_imp (pe_or2 (pe_disp (pps_cons ha hb pps_nil) rfl rfl (by simp) (by simp)) (pe_or2 (pe_dispT1 hu ha hb) (pe_dispX1 hu ha hb))) (by
  rintro σ H Q ⟨e, h, P, R, re, rh, t, fin, x⟩
  rcases t with t | t | t
  · refine .inl ?_
    intro p hp
    have tl0 : TupLe H (L2.upd H p (.dK [])) := TupLe.new hp
    have rh0 : RH G (L2.upd H p (.dK [])) (up h p (.dK [])) := rh.upd (fun z e => by rw [hp] at e; cases e) ⟨[], upd_same, rfl⟩
    refine LE.mk (re.keep tl0) rh0 (t p (rh.fresh hp)) (x.later tl0) fun d1 h1 v1 H1 t1 tl1 rh1 r1 re1 x1 => ?_
    refine LE.mk re1 rh1 t1 x1 fun d2 h2 v2 H2 t2 tl2 rh2 r2 re2 x2 => ?_
    obtain ⟨e2, k, ek, q⟩ := t2
    obtain ⟨ws, w1, w2⟩ := rh2 _ _ e2
    rw [show ws = [] from w2] at w1
    have tl3 : TupLe H2 (L2.upd H2 p (.dK [(k, v2)])) := TupLe.upd fun u z => by rw [w1] at z; cases z; rfl
    refine ⟨w1, [(k, v2)], ?_, by simp, ?_⟩
    · rw [key_ok (Rep.keep tl2 _ _ r1) ek]; rfl
    · refine fin _ _ _ _ q (tl0.trans (tl1.trans (tl2.trans tl3))) (rh2.upd (fun z e => by rw [w1] at e; cases e; rfl) ?_) rep_ref
      exact ⟨[(k, v2)], upd_same, v2, [], rfl, Rep.keep tl3 _ _ r2, rfl⟩
  · refine .inr (.inl ?_)
    intro p hp
    have tl0 : TupLe H (L2.upd H p (.dT [])) := TupLe.new hp
    have rh0 : RH G (L2.upd H p (.dT [])) (up h p (.dT [])) := rh.upd (fun z e => by rw [hp] at e; cases e) ⟨[], upd_same, rfl⟩
    refine LE.mk (re.keep tl0) rh0 (t p (rh.fresh hp)) (x.later tl0) fun d1 h1 v1 H1 t1 tl1 rh1 r1 re1 x1 => ?_
    refine LE.mk re1 rh1 t1 x1 fun d2 h2 v2 H2 t2 tl2 rh2 r2 re2 x2 => ?_
    obtain ⟨e2, k, ek, q⟩ := t2
    obtain ⟨ws, w1, w2⟩ := rh2 _ _ e2
    rw [show ws = [] from w2] at w1
    have tl3 : TupLe H2 (L2.upd H2 p (.dT [(k, v2)])) := TupLe.upd fun u z => by rw [w1] at z; cases z; rfl
    obtain ⟨c, ec, hc⟩ := tkey_ok (Rep.keep tl2 _ _ r1) ek
    refine ⟨w1, c, k, ec, hc, ?_⟩
    refine fin _ _ _ _ q (tl0.trans (tl1.trans (tl2.trans tl3))) (rh2.upd (fun z e => by rw [w1] at e; cases e; rfl) ?_) rep_ref
    exact ⟨[(k, v2)], upd_same, v2, [], rfl, Rep.keep tl3 _ _ r2, rfl⟩
  · refine .inr (.inr ?_)
    rw [hP, hw, hK]
    intro p hp
    have tl0 : TupLe H (L2.upd H p (DXO G.P G.w p [])) := TupLe.new hp
    have rh0 : RH G (L2.upd H p (DXO G.P G.w p [])) (up h p (.dX [])) := rh.upd (fun z e => by rw [hp] at e; cases e) ⟨[], upd_same, rfl, Nat.zero_le _⟩
    refine LE.mk (re.keep tl0) rh0 (t p (rh.fresh hp)) (x.later tl0) fun d1 h1 v1 H1 t1 tl1 rh1 r1 re1 x1 => ?_
    refine LE.mk re1 rh1 t1 x1 fun d2 h2 v2 H2 t2 tl2 rh2 r2 re2 x2 => ?_
    obtain ⟨e2, m, k, ek, q⟩ := t2
    obtain ⟨ws, w1, w2, _⟩ := rh2 _ _ e2
    rw [show ws = [] from w2] at w1
    obtain ⟨c, ec, hc⟩ := xkey_ok (Rep.keep tl2 _ _ r1) ek
    refine ⟨w1, c, k, ec, hc.sq, fun u ru => ?_⟩
    have tl3 : TupLe H2 (L2.upd H2 p (DXO G.P G.w p [(k, c, u)])) := TupLe.upd fun u z => by rw [w1] at z; cases z; rfl
    refine fin _ _ _ _ q (tl0.trans (tl1.trans (tl2.trans tl3))) (rh2.upd (fun z e => by rw [w1] at e; cases e; rfl) ?_) rep_ref
    exact ⟨[(k, c, u)], upd_same, ⟨c, u, [], v2, rfl, hc.keep tl3, Rep.keep tl3 _ _ r2, ru, rfl⟩, by show 1 ≤ sizeLine; rw [sizeLine_eq]; omega⟩)
/-- x += a of a local name that is an int -/
def sAugN (g : Int → Int → Int) (i : Nat) (a : DE) : DS := fun D e h => match lk e i with
  | some (.int m) => a e h (fun y h1 => match y with
    | .int n => D.nx (e.set i (some (.int (g m n)))) h1
    | _ => False) fun x h1 => D.ex x e h1
  | _ => False
theorem ss_augN {X : Cx} {G : Pg} {W : WX} {g : Int → Int → Int} {i : Nat} {x : Str} {op : Operator} {a : Expr} {da : DE} {p pos : Pos} (ho : PIp X op (ipI g)) (hN : X.N.Nodup) (hi : X.N[i]? = some x) (hl : X.env.scope.names.lookup x = some .local) (ha : PE X a (LE G W da)) :
    PS X (.AugAssign (.Name x p) op a pos) (LS G W (sAugN g i da)) := ps_imp (ps_aug hN hi (.inl hl) ha ho (.inr hl)) (by
  rintro D σ H ⟨e, h, D', re, rh, z, l⟩
  unfold sAugN at z
  split at z
  · rename_i m em
    obtain ⟨v, ev, rv⟩ := re.2 i _ (lk_eq _ _ _ em)
    rw [rv.int_] at ev
    refine ⟨.int m, ev, LE.mk re rh z (l.x re) fun d h1 v H1 t1 tl1 rh1 r1 re1 x1 => ?_⟩
    cases d with
    | int n =>
      rw [r1.int_]
      exact ⟨m, n, rfl, rfl, l.nx _ h1 _ H1 t1 tl1 rh1 (re1.set rep_int)⟩
    | _ => exact t1.elim
  · exact z.elim)
/-! ### sets of keys; list(d.items()) -/
def mSAdd : DM := fun x ds h P => ∃ a d k S n, x = .ref a ∧ ds = [d] ∧ d.key? = some k ∧ h a = some (.sK S n) ∧ n + 1 < scanBound ∧ P .non (up h a (.sK (fun j => S j || decide (j = k)) (if S k = true then n else n + 1)))
theorem om_sadd {G : Pg} : OpM G mSAdd (rSAddK G.P G.w) := fun H h x ds v vs P Q rh rx rs q f => by
  obtain ⟨a, d, k, S, n, rfl, rfl, hk, ha, hn, q⟩ := q
  obtain ⟨w, rfl, rw_⟩ := rs.one
  have s : H a = some (SetK G.P G.w a S n) := rh _ _ ha
  have hf : ∀ u, H a = some u → fixedO u = false := fun u z => by rw [s] at z; cases z; rfl
  exact ⟨a, k, S, n, rx.ref_, by rw [key_ok rw_ hk], s, hn, f _ _ _ _ q (TupLe.upd hf) (rh.upd hf upd_same) rep_non⟩
def cSAdd (o : DE) (t : DA) : DE := fun e h P R => o e h (fun x h1 => (∃ a S n, x = .ref a ∧ h1 a = some (.sK S n)) ∧ t e h1 (fun ds h2 => mSAdd x ds h2 P) R) R
theorem se_sadd {X : Cx} {G : Pg} {W : WX} {o e : Expr} {es : List Expr} {to : DE} {t : DA} {apos cpos : Pos} (hP : X.prog = G.P) (hw : X.w = G.w) (ho : PE X o (LE G W to)) (ha : PA X (e :: es) (LA G W t))
    (hbase : attributeBase o "add" X.env (eval o X.env) = eval o X.env)
    (hfew : ((backTo cpos (starEach (e :: es) X.env)).all (fun x => !x.1) && (backToKw cpos (keywordEach [] X.env)).all (fun x => x.1.isSome)
      && decide ((e :: es).length + ([] : List Keyword).length + (if ([] : List Keyword).isEmpty then 0 else 1) < 30)) = true)
    (hline : (apos.endLine == cpos.line) = true) (hs : starEach (e :: es) X.env = (false, eval e X.env) :: starEach es X.env) (hplain : (backTo cpos (starEach es X.env)).any (·.1) = false) :
    PE X (.Call (.Attribute o "add" apos) (e :: es) [] cpos) (LE G W (cSAdd to t)) := by
  refine pe_imp (pe_saddK ho ha hbase hfew hline hs hplain) ?_
  rintro σ H Q ⟨en, h, P, R, re, rh, tt, fin, x⟩
  refine LE.mk re rh tt x fun d h1 v H1 t1 tl1 rh1 r1 re1 x1 => ?_
  obtain ⟨⟨a, S, n, rfl, ha⟩, t1⟩ := t1
  refine ⟨⟨a, S, n, r1.ref_, by rw [hP, hw]; exact rh1 _ _ ha⟩, ?_⟩
  refine LA.mk re1 rh1 t1 x1 fun ds h2 vs H2 t2 tl2 rh2 r2 re2 x2 => ?_
  rw [hP, hw]
  exact om_sadd H2 h2 _ ds v vs P Q rh2 (Rep.keep tl2 _ _ r1) r2 t2 fun d' h' v' H' p tl => fin d' h' v' H' p (tl1.trans (tl2.trans tl))
def cSet0 : DE := fun _ h P _ => ∀ p, h p = none → P (.ref p) (up h p (.sK (fun _ => false) 0))
theorem se_set0 {X : Cx} {G : Pg} {W : WX} {p pos : Pos} (hP : X.prog = G.P) (hw : X.w = G.w) (hg : Gl X "set") (hm : X.mg "set" = none) : PE X (.Call (.Name "set" p) [] [] pos) (LE G W cSet0) :=
  pe_imp (pe_callTy0 cr_set0K hg hm PyProof.Rows.boot_set (by decide) (by decide)) (by
  rintro σ H Q ⟨e, h, P, R, re, rh, t, fin, x⟩
  refine ⟨rfl, fun p hp => ?_⟩
  rw [hP, hw]
  exact fin _ _ _ _ (t p (rh.fresh hp)) (TupLe.new hp) (rh.upd (fun z e => by rw [hp] at e; cases e) upd_same) rep_ref)
def cItems (a : DE) : DE := fun e h P R => a e h (fun x h1 => ∃ d kvs, x = .ref d ∧ h1 d = some (.dK kvs) ∧ ∀ p, h1 p = none → P (.ref p) (up h1 p (.lst (kvs.map fun q => .tup [kD q.1, q.2])))) R
theorem reps_items {K : PySem.W.Frag} {H : Hp} : ∀ {kvs : List (Key × D)} {ws : List (Key × V)} {ts : List Addr}, RepF K H kvs ws → Paired (fun (t : Addr) (q : Key × V) => H t = some (.tup [kV q.1, q.2])) ts ws → Reps K H (kvs.map fun q => D.tup [kD q.1, q.2]) (ts.map V.ref)
  | [], ws, ts, r, p => by
    rw [show ws = [] from r] at p
    cases p
    exact reps_nil
  | (k, d) :: kvs, ws, ts, r, p => by
    obtain ⟨v, r', rfl, h1, h2⟩ := r
    cases p with
    | cons a b => exact reps_cons (rep_tup a (reps_cons (rep_key k) (reps_cons h1 reps_nil))) (reps_items h2 b)
theorem se_items {X : Cx} {G : Pg} {W : WX} {e : Expr} {te : DE} {p apos cpos pos : Pos} (hc : X.calm = true) (he : PE X e (LE G W te)) (hg : Gl X "list") (hm : X.mg "list" = none) (hbase : attributeBase e "items" X.env (eval e X.env) = eval e X.env) (hline : (apos.endLine == cpos.line) = true)
    (hs : starEach [.Call (.Attribute e "items" apos) [] [] cpos] X.env = (false, eval (.Call (.Attribute e "items" apos) [] [] cpos) X.env) :: starEach [] X.env) :
    PE X (.Call (.Name "list" p) [.Call (.Attribute e "items" apos) [] [] cpos] [] pos) (LE G W (cItems te)) :=
  pe_imp (LiI.pe_listItems hc he hg hm (by decide +kernel) hbase hline hs) (by
  rintro σ H Q ⟨en, h, P, R, re, rh, t, fin, x⟩
  refine LE.mk re rh t x fun d h1 v H1 t1 tl1 rh1 r1 re1 x1 => ?_
  obtain ⟨a, kvs, rfl, ha, q⟩ := t1
  obtain ⟨ws, e1, e2⟩ := rh1 _ _ ha
  refine ⟨a, ws, r1.ref_, e1, fun H' p ts k1 k2 k3 k4 k5 k6 => ?_⟩
  have tl : TupLe H1 H' := fun b u _ z => k1 b u z
  refine fin _ _ _ H' (q p (rh1.fresh k2)) (tl1.trans tl) (fun b o eo => ?_) rep_ref
  by_cases n : b = p
  · subst n
    rw [up_same] at eo
    cases eo
    exact ⟨_, k5, reps_items (e2.keep tl) k6⟩
  · rw [up_ne n] at eo
    exact (rh1 b o eo).keep tl fun u hu => k1 b u hu)
end DW

namespace DW
open PySem PySem.Spec PyProof.Rows L2
/-- the element: the i-th of a tuple, an int -/
def EltT (prog : Program) (w : World) (scope : Scope) (x : Str) (elt : Expr) (i : Nat) : Prop :=
  ∀ (cenv : Env) (A' : Around) (E' : Value → Shared → Prop) (b : Addr) (its : Array Value) (n : Int) (t : Tok) (s₂ : Shared) (m₂ : Str → Option Value), cenv.scope = scope → IsTup s₂.heap b its → its[i]? = some (.int n t) → s₂.heap.Ns cenv.locals m₂ → m₂ x = some (.ref b) →
    wpAny (model prog w) A' (eval elt cenv) (fun y s₃ => (∃ t', y = .int n t') ∧ Keeps s₂ s₃) E' s₂
theorem elt_at {prog : Program} {w : World} {scope : Scope} {x : Str} {i j : Nat} {p1 p2 p3 : Pos} (hi : (i : Int) < 2 ^ 63) (hk : scope.kind = .function) (hl : scope.names.lookup x = some .local) (hd : (x == ("__debug__" : Str)) = false) :
    EltT prog w scope x (.Subscript (.Name x p1) (.Constant (.int i) j p2) p3) i := by
  intro cenv A' E' b its n t s₂ m₂ hs ht he hn hm
  refine Subscript_Constant ?_
  refine wpAny_Name (wpAny_loadName_local (by rw [hs]; exact hk) (show cenv.scope.names.lookup x = some .local by rw [hs]; exact hl) hn hm ?_) hd
  refine wpAny_Constant_int ?_
  have il : i < its.size := by
    rcases Nat.lt_or_ge i its.size with z | z
    · exact z
    · rw [Array.getElem?_eq_none z] at he; cases he
  have sq : seqIndex? (i : Int) its.size = some i := by
    unfold seqIndex?
    have h1 : ¬ ((i : Int) < 0) := by omega
    have h2 : (i : Int) < its.size := by omega
    simp [h1, il]
  refine ⟨"tuple", _, slot_tuple_getitem.lookup, ht.typeIs, PyProof.Rows.getItem_tuple (j := i) (x := .int n t) (s := { s₂ with toks := _ }) ht (by omega) hi sq he ⟨⟨t, rfl⟩, GxR.keeps_tok _ _⟩⟩
section
variable {X : Cx} {s : Shared} {c P : Addr} {ps : Array Value} {gpos : Pos} {scope : Scope} {q : Str}
/-- the code object of the generator expression is found or made: only the table at P grows -/
theorem code_step (hcode : X.env.code = .ref c) (cd : PySem.W.CodeHd s.heap c P) (hP : s.heap.get? P = some { cls := .none, data := .fields ps }) (ht : TriplesOk ps.toList) :
    wpAny (model X.prog X.w) X.A (genexprCode X.env gpos q scope) (fun _ s3 => ∃ h3 tk more, s3 = { s with heap := h3, toks := tk } ∧ Heap.ExtBut P s.heap h3 ∧ s.heap.objs.size ≤ h3.objs.size ∧
      h3.get? P = some { cls := .none, data := .fields (ps ++ more) } ∧ TriplesOk (ps ++ more).toList) X.xe s := by
  cases hf : codeAmong gpos ps.toList with
  | some cv => exact wpAny_genexprCode_hit hcode (cd.code hP ht) hf ⟨s.heap, s.toks, #[], rfl, Heap.ExtBut.refl _ _, Nat.le_refl _, by rw [Array.append_empty]; exact hP, by rw [Array.append_empty]; exact ht⟩
  | none =>
    refine wpAny_genexprCodeX hcode (cd.code hP ht) (cd.tab hP) hf fun c' h' tk hx hge hlt hco' _ htab' _ => ?_
    obtain ⟨o1, vs, f1, tf, fl, tg, inF, tx, tt, op, _, _, _, _, _, _, _, _, _, htr, _⟩ := hco'
    exact ⟨h', tk, _, rfl, hx, Nat.le_trans hge (Nat.le_of_lt hlt), htab'.2, htr⟩
end

section
variable {X : Cx} {s : Shared}
/-- the builtins of the running def are the module's -/
theorem blt_step {c P : Addr} {h2 h3 : Heap} {ps : Array Value} {Q : Addr → Shared → Prop} {tk : Nat} (TB : GxR.TabB X.base X.mg c P) (hg : X.env.globals = mainGlobals) (hns : h2.Ns mainGlobals X.mg) (hx : Heap.ExtBut P h2 h3)
    (hb : ∀ b o, X.base.get? b = some o → h2.get? b = some o) (hP : h2.get? P = some { cls := .none, data := .fields ps }) (q : ∀ bi, Q bi { s with heap := h3, toks := tk }) :
    wpAny (model X.prog X.w) X.A (builtinsFor X.env.globals X.env.builtins) Q X.xe { s with heap := h3, toks := tk } := by
  obtain ⟨bm, ob, b1, b2, b3, b4, b5, b6, b7, b8⟩ := TB.bm
  exact wpAny_builtinsFor (m := X.mg) (by rw [hg]; exact hns.extBut hx TB.gP) b1 b2 (hx bm _ b4 (hb _ _ b5)) b6 b7 b8 (q _)
end

/-! ### sum(x[i] for x in a tuple of tuples) -/
def tSumG (P : Addr) (i : Nat) (te : TE) : TE := fun σ H Q => te σ H fun u H1 => ∃ (a : Addr) (vs : List V) (ns : List Int), u = .ref a ∧ H1 a = some (.tup vs) ∧ ns.length = vs.length ∧
  (∀ (j : Nat) (v : V), vs[j]? = some v → ∃ (b : Addr) (us : List V) (n : Int), v = .ref b ∧ H1 b = some (.tup us) ∧ us[i]? = some (.int n) ∧ ns[j]? = some n) ∧ GxR.TabG H1 P ∧ ∀ H2, GxR.Tabbed P H1 H2 → Q (.int ns.sum) H2
section
variable {X : Cx}
theorem pe_sumG {c P : Addr} {elt iter : Expr} {x : Str} {px p pos gpos : Pos} {scope : Scope} {i : Nat} {te : TE} {k : Nat}
    (hr : Room k X.A) (hg : Gl X "sum") (hm : X.mg "sum" = none) (TB : GxR.TabB X.base X.mg c P) (hcode : X.env.code = .ref c) (S : GxR.GenS X.env scope x) (hi : PE X iter te) (hel : EltT X.prog X.w scope x elt i)
    (hs : ∀ v, genFold iter X.env v = pure v)
    (he : starEach [.GeneratorExp elt [⟨.Name x px, iter, [], 0⟩] scope gpos] X.env = (false, eval (.GeneratorExp elt [⟨.Name x px, iter, [], 0⟩] scope gpos) X.env) :: starEach [] X.env := by rfl) :
    PE X (.Call (.Name "sum" p) [.GeneratorExp elt [⟨.Name x px, iter, [], 0⟩] scope gpos] [] pos) (tSumG P i te) := by
  refine ⟨fun pins s σ H Q I h => ?_⟩
  refine wpAny_Call_Name_kw (ld_blt I hg hm boot_sum ?_)
  refine PyProof.Rows.callWith_builtin1 ?_ he (by rfl)
  rw [he]
  show wpAny _ _ (spliced ((false, eval (.GeneratorExp elt [⟨.Name x px, iter, [], 0⟩] scope gpos) X.env) :: backTo pos (starEach [] X.env))) _ _ s
  refine Calls.spliced_cons (wpAny_GeneratorExp_walksQ hr.hd S.co (closure_ok S.free) S.cell S.dot S.loc S.kind (by have := hr.dp; omega) (thn (hi.run pins s σ H _ I h) fun xv s1 ⟨v, H1, I1, r1, q1⟩ => ?_) hs)
  obtain ⟨yl, vs, ns, rfl, hyl, hln, hels, ⟨ps, hP, ht⟩, q1⟩ := q1
  obtain rfl : xv = Value.ref yl := r1
  obtain ⟨its, rv, hT, _⟩ := I1.tuple (SqT.of hyl)
  have hPs : s1.heap.get? P = some { cls := .none, data := .fields ps } := I1.hok P _ hP
  have noP : ∀ {b : Addr} {us : Array Value}, IsTup s1.heap b us → b ≠ P := fun {b us} hb z => by
    obtain ⟨o, e, _, n, d⟩ := hb
    rw [z, hPs] at e
    cases e
    cases d
  -- what the elements are
  have hat : ∀ (j : Nat) (v : Value), its.toArray[j]? = some v → ∃ (b : Addr) (us : Array Value) (n : Int) (t : Tok), v = .ref b ∧ IsTup s1.heap b us ∧ us[i]? = some (.int n t) ∧ ns[j]? = some n := fun j v hv => by
    have hv2 : its[j]? = some v := by simpa using hv
    have hj : j < its.length := (List.getElem?_eq_some_iff.mp hv2).1
    have hl2 := rv.length
    obtain ⟨u, hu⟩ : ∃ u, vs[j]? = some u := ⟨vs[j]'(by omega), List.getElem?_eq_getElem _⟩
    obtain ⟨b, us, n, rfl, hb, hn, en⟩ := hels j u hu
    obtain ⟨w, hw, rw_⟩ := rv.get hu
    rw [hv2] at hw
    cases hw
    obtain rfl : v = Value.ref b := rw_
    obtain ⟨is2, rv2, hT2, _⟩ := I1.tuple (SqT.of hb)
    obtain ⟨w2, hw2, r2⟩ := rv2.get hn
    obtain ⟨t, rfl⟩ := (show ∃ t, w2 = Value.int n t from r2)
    exact ⟨b, _, n, t, rfl, hT2, by simpa using hw2, en⟩
  refine iter_tuple hT ?_
  generalize ho : ({ cls := .type "tuple_iterator", data := .fields #[.ref yl, .int 0 0] } : Obj) = o
  have hit : (s1.heap.push o).IsTupleIter s1.heap.objs.size yl 0 := by
    subst ho
    exact ⟨_, Heap.get?_push_size _ rfl, rfl, rfl⟩
  have hylt : yl < s1.heap.objs.size := by
    obtain ⟨_, e, _⟩ := _root_.id hT
    exact Heap.lt_size e
  have hPlt : P < s1.heap.objs.size := Heap.lt_size hPs
  have hP2 : (s1.heap.push o).get? P = some { cls := .none, data := .fields ps } := Heap.get?_push_of_some _ hPs
  have lim2 : (s1.heap.push o).NoLimit := I1.nolimit.push o
  refine ⟨lim2, ?_⟩
  refine thn (code_step (s := { s1 with heap := s1.heap.push o }) hcode (TB.code.keeps fun b u e => Heap.get?_push_of_some _ (I1.bk b u e)) hP2 ht) fun code s3 ⟨h3, tk, more, es3, hx, hsz, hP3, ht3⟩ => ?_
  subst es3
  refine blt_step (s := s1) TB I1.ok.glob ((I1.mod.glob.keeps I1.bk).push o) hx (fun b u e => Heap.get?_push_of_some _ (I1.bk b u e)) hP2 fun bi => ?_
  have keep3 : ∀ b u, b ≠ P → s1.heap.get? b = some u → h3.get? b = some u := fun b u hb e => hx b u hb (Heap.get?_push_of_some _ e)
  have hcl : cStatics < s1.heap.objs.size := let ⟨_, hns, _⟩ := I1.nolimit; hns.lt
  have hcP : cStatics ≠ P := fun e => by
    obtain ⟨_, hns, _⟩ := I1.nolimit
    obtain ⟨o', es, ep, ho', hd, _⟩ := hns
    rw [e, hPs] at ho'
    cases ho'
    cases hd
  have sz2 : s1.heap.objs.size + 1 ≤ h3.objs.size := by
    have e : (s1.heap.push o).objs.size = s1.heap.objs.size + 1 := Heap.size_push ..
    rw [← e]
    exact hsz
  have hT3 : h3.IsTuple yl its.toArray := by
    obtain ⟨ob, e, r⟩ := _root_.id hT
    exact ⟨ob, keep3 _ _ (noP hT) e, r⟩
  have hit3 : h3.IsTupleIter s1.heap.objs.size yl 0 := hit.at fun u e => hx _ u (Nat.ne_of_gt hPlt) e
  refine ⟨s1.heap.objs.size, [s1.heap.objs.size, yl], [s1.heap.objs.size], its.toArray.size, (fun j v => its.toArray[j]? = some v), (fun j h => h.IsTupleIter s1.heap.objs.size yl j ∧ h.IsTuple yl its.toArray), (fun _ => true),
    (fun j y => ∃ (n : Int) (t : Tok), ns[j]? = some n ∧ y = .int n t), rfl, (fun A' hA => Walks.tuple hA _ _ (Nat.ne_of_lt hylt) _), ⟨hit3, hT3⟩, ?_, lim2.extBut hx hcP, ?_, ?_, ?_⟩
  · intro b hb
    have hb2 : b = s1.heap.objs.size ∨ b = yl := by simpa using hb
    show b < h3.objs.size
    rcases hb2 with z | z
    · rw [z]; exact sz2
    · rw [z]; exact Nat.lt_trans hylt sz2
  · intro z
    have z2 : cStatics = s1.heap.objs.size := by simpa using z
    rw [z2] at hcl
    exact Nat.lt_irrefl _ hcl
  · intro href hhref
    refine ⟨fun A' E' j v s₂ m₂ hA hPv hn hm hk => ?_, fun A' E' j v s₂ m₂ hA hPv hp hn hm hk => ?_⟩
    · simp only [List.forIn_nil]
      exact wpAny_pure ⟨rfl, GxR.keeps_refl _⟩
    · obtain ⟨b, us, n, t, rfl, hb, hn2, en⟩ := hat j v hPv
      have hbt : IsTup s₂.heap b us := by
        obtain ⟨ob, e, r⟩ := _root_.id hb
        have e3 : h3.get? b = some ob := keep3 b ob (noP hb) e
        have lb : b < h3.objs.size := Heap.lt_size e3
        have lb1 : b < s1.heap.objs.size := Heap.lt_size e
        exact ⟨ob, hk b (List.mem_range.mpr lb) (fun z => Nat.ne_of_lt lb1 (List.mem_singleton.mp z)) ob (hhref b ob e3), r⟩
      exact wpAny_mono (hel _ A' E' b us n t s₂ m₂ rfl hbt hn2 hn hm) (fun y s4 ⟨⟨t', e⟩, kp⟩ => ⟨⟨n, t', en, e⟩, kp⟩) fun _ _ e => e
  · intro g h5 tk5 gs hgb hag hsz5 hk5 W5 hgat
    simp only [GxR.passing_true, List.length_range] at W5
    refine Calls.spliced_nil ?_
    have W := W5.in4_1
    have hn5 : its.toArray.size = ns.length := by rw [List.size_toArray, hln, rv.length]
    have e5 : h5.objs.size = g + 1 := hsz5
    have h8 : h3.objs.size < g := hag
    refine call_sum_walkAnyS (W.self 0 _ _ _ hgat ⟨g, _, _, _, _, _, _, (fun j => (ns[j]?).getD 0), rfl, W, hgat, ?_, ?_, fun s' t' hmv => ?_⟩)
    · intro b hb
      show b < h5.objs.size
      rw [e5]
      rcases List.mem_cons.mp hb with z | z
      · rw [z]
        exact Nat.lt_succ_self g
      · rcases List.mem_cons.mp z with z | z
        · rw [z]
          exact Nat.lt_succ_of_lt h8
        · have h7 : b < h3.objs.size := List.mem_range.mp z
          exact Nat.lt_succ_of_lt (Nat.lt_trans h7 h8)
    · intro j y hy
      obtain ⟨j2, hij, n, t, hn2, rfl⟩ := hy
      obtain ⟨hj, ej⟩ := List.getElem?_eq_some_iff.mp hij
      rw [List.getElem_range] at ej
      subst ej
      exact ⟨t, by show Value.int n t = Value.int ((ns[j]?).getD 0) t; rw [hn2] <;> rfl⟩
    · have nwr : ∀ b u, s1.heap.get? b = some u → b ∉ h3.objs.size :: [s1.heap.objs.size] := fun b u e hb => by
        have hl := Heap.lt_size e
        have hb2 : b = h3.objs.size ∨ b = s1.heap.objs.size := by simpa using hb
        rcases hb2 with z | z
        · rw [z] at hl; exact Nat.lt_irrefl _ (Nat.lt_trans hl sz2)
        · rw [z] at hl; exact Nat.lt_irrefl _ hl
      have J := GxR.inv_tab (more := more) (h' := s'.heap) (g' := s'.gens) (d' := s'.drawn) (t' := s'.toks) I1 hP (fun b u hb e => hmv.heap b u (nwr b u e) (hk5 b u (keep3 b u hb e)))
        (hmv.heap P _ (nwr P _ hPs) (hk5 P _ hP3)) (AllBare.movedS (I1.bare.push hgb) hmv)
      rw [GxR.sh_eta s1 s' hmv.os] at J
      have es : preSum (fun j => (ns[j]?).getD 0) its.toArray.size = ns.sum := by
        rw [hn5, preSum_list (h := fun v => match v with | .int n => n | _ => 0) (ns.map V.int) _ (fun j v hv => ?_) ns.length (by simp)]
        · rw [List.take_of_length_le (by simp), List.map_map]
          congr 1
          exact List.map_id'' (fun _ => rfl) ns
        · rw [List.getElem?_map] at hv
          obtain ⟨n, hn, rfl⟩ := Option.map_eq_some_iff.mp hv
          show (ns[j]?).getD 0 = _
          rw [hn] <;> rfl
      rw [es]
      exact ⟨.int _, _, J, ⟨t', rfl⟩, q1 _ ⟨⟨ps ++ more, upd_same, ht3⟩, fun b hb => upd_ne hb⟩⟩
end

/-! ### the same at trees -/
def atI (i : Nat) : D → Option Int
  | .tup es => match es[i]? with
    | some (.int n) => some n
    | _ => none
  | _ => none
theorem atI_some {i : Nat} {d : D} {n : Int} (e : atI i d = some n) : ∃ es, d = .tup es ∧ es[i]? = some (.int n) := by
  unfold atI at e
  split at e
  · rename_i es
    split at e
    · rename_i m h
      cases e
      exact ⟨es, rfl, h⟩
    · cases e
  · cases e
/-- sum(x[i] for x in it); the running def's table of code objects is a thing of the heap -/
def cSumG (i : Nat) (it : DE) : DE := fun e h P R => it e h (fun d h1 => ∃ (ds : List D) (ns : List Int), d = .tup ds ∧ ds.map (atI i) = ns.map some ∧ (∃ a, h1 a = some .tab) ∧ P (.int ns.sum) h1) R

theorem se_sumG {G : Pg} {X : Cx} {W : WX} {P : Addr} {e : Expr} {i : Nat} {it : DE} (eP : P = G.tab) (h : PE X e (tSumG P i (LE G W it))) : PE X e (LE G W (cSumG i it)) := by
  refine pe_imp h ?_
  rintro σ H Q ⟨e, h, KP, R, re, rh, t, fin, x⟩
  subst eP
  refine LE.mk re rh t x fun d h1 v H1 t1 tl1 rh1 r1 re1 x1 => ?_
  obtain ⟨ds, ns, rfl, ens, ⟨a, ha⟩, kp⟩ := t1
  obtain ⟨b, vs, rfl, hb, rs⟩ := r1.tupH
  obtain ⟨rfl, hT⟩ := rh1 a .tab ha
  have hl := rs.length
  have hl2 : ds.length = ns.length := by simpa using congrArg List.length ens
  refine ⟨b, vs, ns, rfl, hb, by omega, fun j v hv => ?_, hT, fun H2 hH2 => ?_⟩
  · obtain ⟨d, hd, rd⟩ := rs.getV hv
    have e1 : (ds.map (atI i))[j]? = some (atI i d) := by rw [List.getElem?_map, hd] <;> rfl
    rw [ens, List.getElem?_map] at e1
    obtain ⟨n, hn, en⟩ := Option.map_eq_some_iff.mp e1
    obtain ⟨es, rfl, hes⟩ := atI_some en.symm
    obtain ⟨b2, us, rfl, hb2, rs2⟩ := rd.tupH
    obtain ⟨u, hu, ru⟩ := rs2.get hes
    rw [ru.int_] at hu
    exact ⟨b2, us, n, rfl, hb2, hu, hn⟩
  · have key : ∀ z u, H1 z = some u → (∀ ps, u ≠ .tbl ps) → H2 z = some u := fun z u hz hn => by
      obtain ⟨ps, hp, _⟩ := hT
      rw [hH2.2 z (fun q => by rw [q, hp] at hz; exact hn ps (Option.some.inj hz).symm)]
      exact hz
    have tl : TupLe H1 H2 := fun z u fu hz => key z u hz fun ps q => by rw [q] at fu; cases fu
    refine fin _ h1 _ H2 kp (tl1.trans tl) (fun z o ez => ?_) rep_int
    cases o with
    | tab =>
      obtain ⟨rfl, _⟩ := rh1 z .tab ez
      exact ⟨rfl, hH2.1⟩
    | _ =>
      have ho := rh1 z _ ez
      refine OR.keep tl (fun u hu => key z u hu fun ps q => ?_) ho
      subst q
      first
        | (obtain ⟨_, h2, _⟩ := ho; rw [hu] at h2; cases h2)
        | (obtain ⟨_, _, h2, _⟩ := ho; rw [hu] at h2; cases h2)
        | (have h2 := ho.1; rw [hu] at h2; cases h2)
        | (have h2 : _ = some _ := ho; rw [hu] at h2; cases h2)

/-! ### d.pop(k) -/
theorem RepF.drop {κ : Type} [DecidableEq κ] {K : PySem.W.Frag} {H : Hp} {k : κ} : ∀ {kvs : List (κ × D)} {ws : List (κ × V)}, RepF K H kvs ws → RepF K H (kvs.filter fun kv => decide (kv.1 ≠ k)) (dropK ws k)
  | [], ws, r => by
    rw [show ws = [] from r]
    exact rfl
  | (f, d) :: kvs, ws, r => by
    obtain ⟨v, us, rfl, p, q⟩ := r
    have ih := q.drop (k := k)
    unfold dropK at ih ⊢
    rw [List.filter_cons, List.filter_cons]
    by_cases e : f = k
    · rw [if_neg (by simpa using e), if_neg (by simpa using e)]
      exact ih
    · rw [if_pos (by simpa using e), if_pos (by simpa using e)]
      exact ⟨v, _, rfl, p, ih⟩
def mPopD : DM := fun x ds h P => match x, ds with
  | .ref a, [y] => ∃ kvs k d, h a = some (.dK kvs) ∧ y.key? = some k ∧ valD kvs k = some d ∧ P d (up h a (.dK (kvs.filter fun kv => decide (kv.1 ≠ k))))
  | _, _ => False
def rPopD : V → List V → Hp → VK → Prop := fun x xs H Q => ∃ (a : Addr) (kvs : List (Key × V)) (k : Key) (v : V), x = .ref a ∧ xs = [kV k] ∧ H a = some (.dK kvs) ∧ valV kvs k = some v ∧ Q v (L2.upd H a (.dK (dropK kvs k)))
theorem mt_popD {X : Cx} : MtR X "dict.pop" rPopD := fun pins s σ H x xs v us Q I rx rxs h => by
  obtain ⟨a, kvs, k, d, rfl, rfl, ha, hv, q⟩ := h
  cases rx
  cases rxs with
  | cons r rr =>
    cases rr
    exact d_pop I ha r hv (.inl rfl) fun w' s' I' r' => ⟨d, _, I', r', q⟩
theorem om_popD {G : Pg} : OpM G mPopD rPopD := fun H h x ds v vs P Q rh rx rs q f => by
  unfold mPopD at q
  split at q
  · rename_i a y
    obtain ⟨kvs, k, d, ea, ek, ev, q⟩ := q
    obtain ⟨ws, s, r⟩ := rh _ _ ea
    obtain ⟨w, rfl, rw_⟩ := rs.one
    obtain ⟨u, hu, ru⟩ := (r.val k).1 d ev
    have hf : ∀ u, H a = some u → fixedO u = false := fun u z => by rw [s] at z; cases z; rfl
    refine ⟨a, ws, k, u, rx.ref_, by rw [key_ok rw_ ek], s, hu, f _ _ _ _ q (TupLe.upd hf) (rh.upd hf ⟨_, upd_same, (r.keep (TupLe.upd hf)).drop⟩) (Rep.keep (TupLe.upd hf) _ _ ru)⟩
  · exact q.elim
/-- o.pop(..), a list's or a dict's -/
def cMPop (o : DE) (t : DA) : DE := fun e h P R => cM "list" mPopL o t e h P R ∨ cM "dict" mPopD o t e h P R
theorem se_orE {G : Pg} {X : Cx} {W : WX} {e : Expr} {a b : DE} (ha : PE X e (LE G W a)) (hb : PE X e (LE G W b)) : PE X e (LE G W fun e h P R => a e h P R ∨ b e h P R) := ⟨fun pins s σ H Q I ⟨e, h, P, R, re, rh, t, f, x⟩ => by
  rcases t with t | t
  · exact ha.run pins s σ H Q I ⟨e, h, P, R, re, rh, t, f, x⟩
  · exact hb.run pins s σ H Q I ⟨e, h, P, R, re, rh, t, f, x⟩⟩
/-! ### d.setdefault(k, x) -/
def mSetD : DM := fun x ds h P => match x, ds with
  | .ref a, [y, z] => (∃ kvs k, h a = some (.dK kvs) ∧ y.key? = some k ∧ kvs.length < sizeLine ∧ (∀ d, valD kvs k = some d → P d h) ∧ (valD kvs k = none → P z (up h a (.dK (putM kvs k z))))) ∨
    ∃ kvs k, h a = some (.dT kvs) ∧ y.tkey? = some k ∧ kvs.length < sizeLine ∧ (∀ d, valD kvs k = some d → P d h) ∧ (valD kvs k = none → P z (up h a (.dT (putM kvs k z))))
  | _, _ => False
def rSetDK : V → List V → Hp → VK → Prop := fun x xs H Q => (∃ (a : Addr) (kvs : List (Key × V)) (k : Key) (d : V), x = .ref a ∧ xs = [kV k, d] ∧ H a = some (.dK kvs) ∧ kvs.length < sizeLine ∧ (∀ v, valV kvs k = some v → Q v H) ∧ (valV kvs k = none → Q d (L2.upd H a (.dK (putK kvs k d))))) ∨
  ∃ (a : Addr) (kvs : List (List Key × V)) (k : List Key) (b : Addr) (d : V), x = .ref a ∧ xs = [.ref b, d] ∧ H a = some (.dT kvs) ∧ H b = some (.tup (k.map kV)) ∧ kvs.length < sizeLine ∧ (∀ v, valV kvs k = some v → Q v H) ∧ (valV kvs k = none → Q d (L2.upd H a (.dT (putK kvs k d))))
theorem mt_setD {X : Cx} (hu : X.A.units + 1 < cLine) : MtR X "dict.setdefault" rSetDK := fun pins s σ H x xs v us Q I rx rxs h => by
  rcases h with ⟨a, kvs, k, d, rfl, rfl, ha, hl, q1, q2⟩ | ⟨a, kvs, k, b, d, rfl, rfl, ha, hb, hl, q1, q2⟩
  · cases rx
    cases rxs with
    | cons ry rr =>
      cases rr with
      | cons rd rr =>
        cases rr
        exact d_setd I ha ry rd hl (fun v e w' s' I' r' => ⟨v, H, I', r', q1 v e⟩) fun e w' s' I' r' => ⟨d, _, I', r', q2 e⟩
  · cases rx
    cases rxs with
    | cons ry rr =>
      cases rr with
      | cons rd rr =>
        cases rr
        cases (show _ = Value.ref b from ry)
        obtain ⟨z, hd, ys, rel, dd⟩ := dt_of I.hok ha
        have hz : ys.length ≤ sizeLine := by rw [← Paired.length rel]; exact z
        have hl2 : (putK kvs k d).length ≤ sizeLine := by have := length_putK kvs k d; omega
        refine call_setdefault_heap (hsz := hz) (knd := tupleKind (mixKind X.prog X.w)) (tupleKind_room_in1 hu) (key_of I.hok hb) hd dd (fun p hp => ?_) fun hn h' dd' hs => ?_
        · have r := rel.val k
          rw [hp] at r
          cases ev : valV kvs k with
          | none => rw [ev] at r; exact (show False from r).elim
          | some v0 =>
            rw [ev] at r
            exact ⟨v0, H, I.tok _, r, q1 v0 ev⟩
        · have r := rel.val k
          rw [hn] at r
          have e : valV kvs k = none := by
            cases ev : valV kvs k with
            | none => rfl
            | some v0 => rw [ev] at r; exact (show False from r).elim
          obtain ⟨o, es, ep, hq, h2, h3, h4, _, h5⟩ := dd'
          have I2 : Inv X pins σ (L2.upd H a (.dT (putK kvs k d))) { s with heap := h', toks := s.toks + (tupleKind (mixKind X.prog X.w)).draws k } :=
            d_write I (by rw [ha]; exact True.intro) hs ⟨o, hq⟩ ⟨hl2, hd, _, (rel.put k hb rd).keeps (fun c ys ec => (by rw [L2.upd_ne (ne_of ec ha (fun z => nomatch z))]; exact ec)), o, es, ep, hq, h2, h3, h4, h5⟩
          exact ⟨d, _, I2, rd, q2 e⟩
theorem om_setD {G : Pg} : OpM G mSetD rSetDK := fun H h x ds v vs P Q rh rx rs q f => by
  unfold mSetD at q
  split at q
  · rename_i a y z
    obtain ⟨w, us, rfl, rw_, rs'⟩ := rs.cons_
    obtain ⟨u0, rfl, ru⟩ := rs'.one
    rcases q with ⟨kvs, k, ea, ek, hl, q1, q2⟩ | ⟨kvs, k, ea, ek, hl, q1, q2⟩
    · obtain ⟨ws, s, r⟩ := rh _ _ ea
      have hf : ∀ u, H a = some u → fixedO u = false := fun u z => by rw [s] at z; cases z; rfl
      have r' := r.val k
      refine .inl ⟨a, ws, k, u0, rx.ref_, by rw [key_ok rw_ ek], s, by rw [r.length]; exact hl, fun v0 ev => ?_, fun en => ?_⟩
      · cases ed : valD kvs k with
        | none => rw [r'.2 ed] at ev; cases ev
        | some d =>
          obtain ⟨u1, e1, r1⟩ := r'.1 d ed
          rw [e1] at ev
          cases ev
          exact f.val rh (q1 d ed) r1
      · have ed : valD kvs k = none := by
          cases ed : valD kvs k with
          | none => rfl
          | some d =>
            obtain ⟨u1, e1, r1⟩ := r'.1 d ed
            rw [e1] at en; cases en
        exact f _ _ _ _ (q2 ed) (TupLe.upd hf) (rh.upd hf ⟨_, upd_same, (r.keep (TupLe.upd hf)).put (Rep.keep (TupLe.upd hf) _ _ ru)⟩) (Rep.keep (TupLe.upd hf) _ _ ru)
    · obtain ⟨ws, s, r⟩ := rh _ _ ea
      have hf : ∀ u, H a = some u → fixedO u = false := fun u z => by rw [s] at z; cases z; rfl
      have r' := r.val k
      obtain ⟨b, rfl, eb⟩ := tkey_ok rw_ ek
      refine .inr ⟨a, ws, k, b, u0, rx.ref_, rfl, s, eb, by rw [r.length]; exact hl, fun v0 ev => ?_, fun en => ?_⟩
      · cases ed : valD kvs k with
        | none => rw [r'.2 ed] at ev; cases ev
        | some d =>
          obtain ⟨u1, e1, r1⟩ := r'.1 d ed
          rw [e1] at ev
          cases ev
          exact f.val rh (q1 d ed) r1
      · have ed : valD kvs k = none := by
          cases ed : valD kvs k with
          | none => rfl
          | some d =>
            obtain ⟨u1, e1, r1⟩ := r'.1 d ed
            rw [e1] at en; cases en
        exact f _ _ _ _ (q2 ed) (TupLe.upd hf) (rh.upd hf ⟨_, upd_same, (r.keep (TupLe.upd hf)).put (Rep.keep (TupLe.upd hf) _ _ ru)⟩) (Rep.keep (TupLe.upd hf) _ _ ru)
  · exact q.elim
end DW

/-! len({elt for tg in iter}), elt a tuple of ints -/
namespace DW
open PySem PySem.Spec PyProof.Rows L2
section
variable {P : Program} {w : World} {A : Around} {E : Value → Shared → Prop} {s : Shared} {a x : Addr} {k : List Int} {L : List (Addr × List Int)} {es : Array (Int × Value)} {ep : Nat} {t : SetTable}
theorem SetTR.typ (R : SetTR P w s.heap a L es ep t) : s.TypeIs (.ref a) "set" := let ⟨o, ho, hx, _⟩ := R.ob; ⟨o, ho, hx.1⟩
/-- s.add(x), x a tuple of ints -/
theorem setT_add {Q : Value → Shared → Prop} (R : SetTR P w s.heap a L es ep t) (hx : IsT P w s.heap k x) (hu : A.units + 3 < cLine) (hf : L.length + 1 < 64)
    (hQ : ∀ h' tk L' es' ep' t', Heap.SameBut a s.heap h' → SetTR P w h' a L' es' ep' t' → (k ∈ L.map (·.2) → L' = L) → (k ∉ L.map (·.2) → L'.Perm ((x, k) :: L)) → Q .none { s with heap := h', toks := tk }) :
    wpAny (model P w) A (call (.builtin "set.add") [.ref a, .ref x]) Q E s := by
  refine wpAny_call_entry F.slot_set_add (SetTR.typ R) F.entry_set_add ?_ (F.args_set_add_2 _ _)
  unfold Builtin.«set.add» Builtin.Frozenset.oneOther
  simp only [List.isEmpty_nil, bind_assoc]
  unfold Builtin.Frozenset.addrOf setAdd
  refine wpAny_bind (wpAny_pure ?_)
  try dsimp only
  refine wpAny_bind (wpAny_pure ?_)
  try dsimp only
  refine wpAny_bind (wpAny_holding ?_)
  refine wpAny_bind (wpAny_pyHash_tuple ?_ hx ?_)
  · have e : (A.in1).units = A.units + 1 := rfl
    first | omega | (rw [e]; omega)
  · refine add_at (s := { s with toks := s.toks + (k.length + 1) }) R hx ?_ hf fun b h' L' es' ep' t' sb R' c1 c2 => ?_
    · have e : (A.in1).units = A.units + 1 := rfl
      first | omega | (rw [e]; omega)
    · show wpAny _ _ (ret Value.none) _ _ _
      exact wpAny_pure ⟨_, rfl, hQ h' _ L' es' ep' t' sb R' c1 c2⟩
end
section
variable {X : Cx} {pins : List (Addr × Obj)} {σ : L2.St} {H : Hp} {s : Shared} {D x : Addr} {k : List Int} {L : List (Addr × List Int)}
theorem setTO_full (I : Inv X pins σ H s) (hD : H D = some (SetTO X.prog X.w D L)) (hL : ∀ p ∈ L, SqT X.K H p.1 (p.2.map V.int)) : ∃ es ep t, SetTR X.prog X.w s.heap D L es ep t :=
  SetT0.full (I.hok D _ hD).1 fun p hp => I.isT (hL p hp)
theorem addT_ok {E : Value → Shared → Prop} {Q : Value → Shared → Prop} (I : Inv X pins σ H s) (hD : H D = some (SetTO X.prog X.w D L)) (hL : ∀ p ∈ L, SqT X.K H p.1 (p.2.map V.int)) (hx : SqT X.K H x (k.map V.int)) (hu : X.A.units + 3 < cLine) (room : L.length + 1 < 64)
    (h : ∀ L' s', (k ∈ L.map (·.2) → L' = L) → (k ∉ L.map (·.2) → L'.Perm ((x, k) :: L)) → Inv X pins σ (L2.upd H D (SetTO X.prog X.w D L')) s' → Q .none s') : wpAny (model X.prog X.w) X.A (call (.builtin "set.add") [.ref D, .ref x]) Q E s := by
  obtain ⟨es, ep, t, R⟩ := setTO_full I hD hL
  refine setT_add R (I.isT hx) hu room fun h' tk L' es' ep' t' sb R' c1 c2 => ?_
  obtain ⟨o, ho, _⟩ := R'.ob
  exact h L' _ c1 c2 (I.write (e := D) (t' := tk) (by rw [hD]; trivial) (.inl rfl) (fun b u hb hu => (sb.2 b hb).trans hu) ⟨o, ho⟩ (setTO_new R'.t0))
end
/-- the set at D gets the tuple y -/
def kAddT (P : Program) (w : World) (K : PySem.W.Frag) (D : Addr) (Nx : Hp → Prop) : VK := fun y H => ∃ (L : List (Addr × List Int)) (x : Addr) (k : List Int), y = .ref x ∧ SqT K H x (k.map V.int) ∧ H D = some (SetTO P w D L) ∧ (∀ p ∈ L, SqT K H p.1 (p.2.map V.int)) ∧ L.length + 1 < 64 ∧
  ∀ L', (k ∈ L.map (·.2) → L' = L) → (k ∉ L.map (·.2) → L'.Perm ((x, k) :: L)) → Nx (L2.upd H D (SetTO P w D L'))
/-- {elt for tg in iter}: D the new set -/
def tScT (P : Program) (w : World) (K : PySem.W.Frag) (wi : TI) (g : TG) (te : TE) (vs : List Nat) : TE := fun σ H Q => wi σ H fun J H1 => ∀ D, H1 D = none → ∃ W : Nat → Nat → Hp → Prop, (∃ m, W 0 m (L2.upd H1 D (SetTO P w D []))) ∧ ∀ i m H, W i m H →
  (J.stop i H ∧ Q (.ref D) H) ∨ (J.go i H ∧ ∃ Nx : Hp → Prop, (∀ H', Nx H' → ∃ m', m' < m ∧ W (i + 1) m' H') ∧ ∀ x H', J.yld i H x H' → g x (wipe σ vs) H' fun σ2 H2 => wipe σ2 vs = wipe σ vs ∧ te σ2 H2 (kAddT P w K D Nx))
section
variable {X : Cx}
theorem setTO_fresh {P : Program} {w : World} {H : Hp} {h : Heap} : ObjOk P w H (h.push { cls := .type "set", dict := none, data := .set #[] 0 (.fresh 0 0 (!w.params.followText "set-order")) }) h.objs.size (SetTO P w h.objs.size []) :=
  setTO_new (setTR_fresh (P := P) (w := w) (Heap.get?_push_size _ rfl)).t0
theorem pe_scT {elt tg iter : Expr} {scope : Scope} {own : List (PySem.Str × Nat)} {pos : Pos} {wi : TI} {g : TG} {te : TE} (hc : X.calm = true) (hu : X.A.units + 8 < cLine) (hN : X.N.Nodup) (hi : PI X tg iter wi) (ok : BlkOk X.N X.env.scope scope own)
    (hg : ∀ (s : Shared) (H : Hp) (C : Addr) (cl : List (PySem.Str × Addr)) (fp : List Addr), PG (X.blk s H scope (compEnvC scope cl C X.env) fp) tg g)
    (he : ∀ (s : Shared) (H : Hp) (C : Addr) (cl : List (PySem.Str × Addr)) (fp : List Addr), PE (X.blk s H scope (compEnvC scope cl C X.env) fp) elt te) (hs : ∀ x, foldedSetIterable iter X.env x = pure x) :
    PE X (.SetComp elt [⟨tg, iter, [], 0⟩] scope pos) (tScT X.prog X.w X.K wi g te (own.map (·.2))) := by
  refine ⟨fun pins s σ H Q I h => ?_⟩
  rw [PpSet.eval_SetComp]
  -- names that are free in the block stand outside
  have cells : ∀ y ∈ scope.names, y.2 = .free → ∃ c, X.env.cells.lookup y.1 = some c := fun y hy e => I.ok.has _ (by rcases ok.free y hy e with k | k; exact .inl k; exact .inr k)
  refine wpAny_comprehension_free (use := none) rfl hs (closure_ok cells) ok.kind (fun y hy e => by rw [ok.uniq y hy, e]) (thn (hi.run pins s σ H _ I h) fun xv s1 hx => thn hx fun itv s2 h2 => ?_)
  obtain ⟨it, fp, tn, J, H2, rfl, I2, T, st2, f2, q⟩ := h2
  refine PpSet.newSet_ok (newEnv_comp ?_)
  generalize hD : s2.heap.objs.size = D
  have hDn : H2 D = none := I2.hok.fresh (Nat.le_of_eq hD)
  obtain ⟨W, ⟨m0, w0⟩, turn⟩ := q D hDn
  generalize hs3 : ({ s2 with heap := s2.heap.push { cls := .type "set", dict := none, data := .set #[] 0 (.fresh 0 0 (!X.w.params.followText "set-order")) } } : Shared) = s3
  have h3 : s3.heap = s2.heap.push { cls := .type "set", dict := none, data := .set #[] 0 (.fresh 0 0 (!X.w.params.followText "set-order")) } := by rw [← hs3]
  have I3 : Inv X pins σ (L2.upd H2 D (SetTO X.prog X.w D [])) s3 := by
    rw [← hs3, ← hD]
    exact I2.laid (t' := s2.toks) (fun b o e => Heap.get?_push_of_some _ e) (Nat.le_refl _) setTO_fresh
  have old : ∀ b ∈ fp, b < s2.heap.objs.size := fun b hb => let ⟨_, e, _⟩ := T.obj _ _ st2 b hb; Heap.lt_size e
  have f3 : ∀ b ∈ fp, FpOk X pins (L2.upd H2 D (SetTO X.prog X.w D [])) b ∧ b < s3.heap.objs.size := fun b hb => by
    have lt := old b hb
    refine ⟨⟨?_, (f2 b hb).2⟩, by rw [h3, Heap.size_push]; exact Nat.lt_succ_of_lt lt⟩
    rw [upd_ne (by rw [← hD]; exact Nat.ne_of_lt lt)]
    exact (f2 b hb).1
  have st3 : tn 0 s3.heap := T.keep _ _ _ st2 fun b _ o e => by rw [h3]; exact Heap.get?_push_of_some _ e
  have I4 := block_start I3 ok hN f3
  have pg := hg s3 (L2.upd H2 D (SetTO X.prog X.w D [])) s3.heap.objs.size (cellsFrom (s3.heap.objs.size + 1) scope.names (cloFrom X.env.cells scope.names [])) fp
  have pe := he s3 (L2.upd H2 D (SetTO X.prog X.w D [])) s3.heap.objs.size (cellsFrom (s3.heap.objs.size + 1) scope.names (cloFrom X.env.cells scope.names [])) fp
  show codeAny _ _ (.compStart (.SetComp elt [⟨tg, iter, [], 0⟩] scope pos) 0 (.ref it) (.ref D) (compEnvC scope (cellsFrom (s3.heap.objs.size + 1) scope.names (cloFrom X.env.cells scope.names [])) s3.heap.objs.size X.env)) (compPost (model X.prog X.w) X.A X.xe none _ (.ref D) s3.heap.objs.size) { s3 with heap := pushCells (s3.heap.push { cls := .type "dict", data := .dict #[] }) scope.names }
  have nfp : ∀ b ∈ fp, (L2.upd H2 D (SetTO X.prog X.w D [])) b = none := fun b hb => (f3 b hb).1.1
  generalize hce : compEnvC scope (cellsFrom (s3.heap.objs.size + 1) scope.names (cloFrom X.env.cells scope.names [])) s3.heap.objs.size X.env = ce at I4 pg pe ⊢
  have cL : ce.locals = s3.heap.objs.size := by rw [← hce]; rfl
  generalize hH3 : L2.upd H2 D (SetTO X.prog X.w D []) = H3 at I3 I4 pg pe w0 nfp f3
  generalize hs4 : ({ s3 with heap := pushCells (s3.heap.push { cls := .type "dict", data := .dict #[] }) scope.names } : Shared) = s4 at I4 ⊢
  have st4 : tn 0 s4.heap := T.keep _ _ _ st3 fun b _ o e => by rw [← hs4]; exact pushCells_keeps _ _ _ _ (Heap.get?_push_of_some _ e)
  have fpk : ∀ {σ' : L2.St} {H' : Hp} {s' : Shared}, Inv (X.blk s3 H3 scope ce fp) [] σ' H' s' → (∀ b ∈ fp, H' b = none) → ∀ b ∈ fp, FpOk (X.blk s3 H3 scope ce fp) [] H' b := fun {σ' H' s'} I' hn b hb =>
    ⟨hn b hb, (I'.ok.exf b hb).1, I'.ok.exfs b hb, .inl hb, fun x c e => (I'.ok.exf b hb).2 x c e, fun p hp => absurd (show p ∈ ([] : List (Addr × Obj)) ++ [] from hp) (by simp)⟩
  refine PpSet.codeAny_compStart_set ?_ (T.self X.A 0 _ _ _ st4 ?_) <;>
  · refine PpSet.compLoopS_any (fun n s' => ∃ i H', Inv (X.blk s3 H3 scope ce fp) [] (wipe σ (own.map (·.2))) H' s' ∧ tn i s'.heap ∧ (∀ b ∈ fp, H' b = none) ∧ W i n H') ?_ m0 ⟨0, H3, I4, st4, nfp, w0⟩
    rintro n s5 ⟨i, H5, I5, st5, n5, w5⟩
    rcases turn i n H5 w5 with ⟨stop, qq⟩ | ⟨go, Nx, hNx, step⟩
    · refine thnF (T.done (X.blk s3 H3 scope ce fp) rfl rfl rfl hc i [] s5 _ H5 (fun _ _ => False) I5 (fpk I5 n5) st5 stop) fun r s6 ⟨hr, I6⟩ => ?_
      subst hr
      have I7 : Inv X pins σ H5 s6 := I3.call' (ch := fp) I6.os I6.base I6.hok I6.bare fun b hb => ⟨(f3 b hb).1.2.2.2.1, (f3 b hb).1.2.1, (f3 b hb).1.2.2.2.2.1, (f3 b hb).1.2.2.2.2.2⟩
      have nC : H5 s3.heap.objs.size = none := by rw [← cL]; exact I6.free
      obtain ⟨m, hn, _⟩ := I6.loc
      have hn : s6.heap.Ns s3.heap.objs.size m := by rw [← cL]; exact hn
      refine ⟨m, hn, fun h'' sb => ?_⟩
      obtain ⟨f0, f1, f2, f3, f4, f5⟩ := I3.fpOk (Nat.le_refl _) nC
      exact ⟨.ref D, H5, I7.turned (t' := s6.toks) (fun b o hb e => (sb.2 b hb).trans e) f0 f1 f3 f4 f5, rfl, qq⟩
    · refine thnF (T.item (X.blk s3 H3 scope ce fp) rfl rfl rfl hc i [] s5 _ H5 (fun _ _ => False) I5 (fpk I5 n5) st5 go) fun r s6 ⟨u, hr, h6⟩ => ?_
      subst hr
      refine thnF h6 fun _ s7 ⟨x, H7, I7, r7, y7, st7, n7⟩ => ?_
      refine thnF (pg.run _ s7 _ H7 x u _ (I7.pinned (fpk I7 n7) (T.obj _ _ st7)) r7 (step x H7 y7)) fun _ s8 ⟨σ8, H8, I8, hw8, q8⟩ => ?_
      refine wpAny_pure ?_
      simp only [if_true]
      refine thnF (pe.run _ s8 σ8 H8 _ I8 q8) fun z s10 ⟨yv, H10, I10, r10, L, ta, k, ey, hx, hD10, hL, room, nx⟩ => ?_
      subst ey
      cases (show z = Value.ref ta from r10)
      refine addT_ok (X := X.blk s3 H3 scope ce fp) I10 hD10 hL hx (by show X.A.units + 3 < cLine; omega) room fun L' s11 c1 c2 I11 => ?_
      obtain ⟨m', hm, w'⟩ := hNx _ (nx L' c1 c2)
      have pin' : ∀ b ∈ fp, ∀ o, s7.heap.get? b = some o → s11.heap.get? b = some o ∧ _ := fun b hb o e =>
        let z := I11.pin (b, o) (List.mem_append_right _ (List.mem_append_right _ (mem_pinsAt hb e)))
        And.intro z.1 z.2.1
      refine ⟨m', hm, i + 1, _, (I11.unpinned (pins := [])).weak (by rw [← hw8, wipe_length]) (fun j v e => ?_), T.keep _ _ _ st7 fun b hb o e => (pin' b hb o e).1, fun b hb => ?_, w'⟩
      · rw [← hw8] at e
        exact (wipe_some e).1
      · obtain ⟨o, e, _⟩ := T.obj _ _ st7 b hb
        exact (pin' b hb o e).2
end
/-- len({elt for tg in iter}) -/
def tLenScT (P : Program) (w : World) (K : PySem.W.Frag) (wi : TI) (g : TG) (te : TE) (vs : List Nat) : TE := fun σ H Q => tScT P w K wi g te vs σ H fun y H1 => ∃ D L, y = .ref D ∧ H1 D = some (SetTO P w D L) ∧ (∀ p ∈ L, SqT K H1 p.1 (p.2.map V.int)) ∧ Q (.int L.length) H1
section
variable {X : Cx}
theorem pe_lenScT {elt tg iter : Expr} {scope : Scope} {own : List (PySem.Str × Nat)} {p pos cpos : Pos} {wi : TI} {g : TG} {te : TE} (hc : X.calm = true) (hu : X.A.units + 8 < cLine) (hN : X.N.Nodup) (hgl : Gl X "len") (hm : X.mg "len" = none) (hi : PI X tg iter wi) (ok : BlkOk X.N X.env.scope scope own)
    (hg : ∀ (s : Shared) (H : Hp) (C : Addr) (cl : List (PySem.Str × Addr)) (fp : List Addr), PG (X.blk s H scope (compEnvC scope cl C X.env) fp) tg g)
    (he : ∀ (s : Shared) (H : Hp) (C : Addr) (cl : List (PySem.Str × Addr)) (fp : List Addr), PE (X.blk s H scope (compEnvC scope cl C X.env) fp) elt te) (hs : ∀ x, foldedSetIterable iter X.env x = pure x) :
    PE X (.Call (.Name "len" p) [.SetComp elt [⟨tg, iter, [], 0⟩] scope pos] [] cpos) (tLenScT X.prog X.w X.K wi g te (own.map (·.2))) := by
  refine ⟨fun pins s σ H Q I h => ?_⟩
  have sc := pe_scT (pos := pos) hc hu hN hi ok hg he hs
  refine Call_ (ld_blt I hgl hm PySem.boot_len ?_)
  refine PyProof.Rows.callWith_builtin1 (PyProof.Rows.args_cons (thn (sc.run pins s σ H _ I h) fun v s1 ⟨x, H1, I1, r1, D, L, ex, hD, hL, q1⟩ => PyProof.Rows.args_nil ?_) rfl) rfl rfl
  subst ex
  cases (show v = Value.ref D from r1)
  obtain ⟨es, ep, t, R⟩ := setTO_full I1 hD hL
  obtain ⟨o, ho, hex, hd⟩ := R.ob
  have hsz := R.size
  have hfew := R.few
  refine call_len_set ho hex hd R.fits (by rw [hsz]; omega) ⟨.int L.length, H1, I1.tok _, ⟨_, by rw [hsz]⟩, q1⟩
end
/-! ### over trees -/
def insT (k : List Int) (acc : List (List Int)) : List (List Int) := if k ∈ acc then acc else k :: acc
def scS (D0 : Addr) (still : DH → Prop) (g : DG) (te : DE) (en : DSt) : List D → List (List Int) → DH → KD → Prop
  | [], acc, h, P => still h ∧ h D0 = some (.sT acc) ∧ P (.int (acc.length : Nat)) h
  | d :: r, acc, h, P => still h ∧ g d en h fun e1 h1 => te e1 h1 (fun y h2 => ∃ k : List Int, y = .tup (k.map D.int) ∧ h2 D0 = some (.sT acc) ∧ acc.length + 1 < 64 ∧ scS D0 still g te en r (insT k acc) (up h2 D0 (.sT (insT k acc))) P) (fun _ _ => False)
def cLenSc (i : DI) (g : DG) (te : DE) (vs : List Nat) : DE := fun e h P R => i e h (fun ds still h1 => ∀ D0, h1 D0 = none → scS D0 still g te (wipeD e vs) ds [] (up h1 D0 (.sT [])) P) R
theorem ints_vs {K : PySem.W.Frag} {H : Hp} : ∀ {k : List Int} {us : List V}, Reps K H (k.map D.int) us → us = k.map V.int
  | [], us, rs => rs.nil_
  | i :: k, us, rs => by
    obtain ⟨v, r, rfl, h1, h2⟩ := Reps.cons_ rs
    rw [ints_vs h2, h1.int_]
    rfl
theorem ints_rep {K : PySem.W.Frag} {H : Hp} {k : List Int} {v : V} (r : Rep K H (.tup (k.map D.int)) v) : ∃ x, v = .ref x ∧ SqT K H x (k.map V.int) := by
  obtain ⟨a, us, e, q, rs⟩ := r.tup_
  exact ⟨a, e, by rw [← ints_vs rs]; exact q⟩
section
variable {X : Cx} {G : Pg} {W : WX} {tg iter elt : Expr} {scope : Scope} {own : List (Str × Nat)} {di : DI} {g : DG} {te : DE} {p pos cpos : Pos} {S : List Nat}
theorem le_lenSc (hS : ∀ i ∈ S, i ∈ own.map (·.2)) : ∀ σ H Q, LE G W (cLenSc di g te (own.map (·.2))) σ H Q → tLenScT G.P G.w G.K (LI G W di) (LG G S g) (LE G (fun _ _ _ _ => False) te) (own.map (·.2)) σ H Q := by
  rintro σ H Q ⟨en, h, P, R, re, rh, t, fin, x⟩
  generalize own.map (·.2) = vs at *
  have xx : ∀ {σ : L2.St} {H : Hp}, LX G (fun _ _ _ _ => False) σ H (fun _ _ => False) := fun {σ H} _ _ _ _ _ z => z.elim
  refine ⟨en, h, _, R, re, rh, t, fun ds still h1 H1 J q tl1 rh1 ok D0 hD => ?_, x⟩
  have q0 := q D0 (rh1.fresh hD)
  have tlD : TupLe H1 (L2.upd H1 D0 (SetTO G.P G.w D0 [])) := TupLe.new hD
  refine ⟨fun i m H' => m = ds.length - i ∧ i ≤ ds.length ∧ ∃ acc h', TupLe H1 H' ∧ RH G H' h' ∧ h' D0 = some (.sT acc) ∧ scS D0 still g te (wipeD en vs) (ds.drop i) acc h' P, ⟨_, rfl, Nat.zero_le _, [], _, tlD, rh1.upd (fun z e => by rw [hD] at e; cases e) (show OR G _ D0 (.sT []) from ⟨[], upd_same, List.Perm.nil, fun p hp => by cases hp⟩), up_same, q0⟩, ?_⟩
  rintro i m H2 ⟨rfl, hi, acc, h2, tl2, rh2, e2, q2⟩
  by_cases hlt : i < ds.length
  · right
    have ed : ds.drop i = ds[i] :: ds.drop (i + 1) := List.drop_eq_getElem_cons hlt
    rw [ed] at q2
    obtain ⟨st, q2⟩ := q2
    obtain ⟨go, yl⟩ := ok.go i H2 h2 ds[i] tl2 rh2 st (List.getElem?_eq_getElem hlt)
    refine ⟨go, fun H' => ∃ acc h', TupLe H1 H' ∧ RH G H' h' ∧ h' D0 = some (.sT acc) ∧ scS D0 still g te (wipeD en vs) (ds.drop (i + 1)) acc h' P, fun H' w => ⟨_, by omega, rfl, hlt, w⟩, fun x H3 y => ?_⟩
    obtain ⟨tl3, rh3, r3⟩ := yl x H3 y
    refine ⟨ds[i], wipeD en vs, h2, _, r3, wipe_re (re.keep (tl1.trans (tl2.trans tl3))) vs, rh3, q2, fun e4 h4 σ4 H4 q4 tl4 rh4 re4 w4 => ⟨?_, ?_⟩⟩
    · have := w4 vs hS
      rw [this]
      refine List.ext_getElem? fun j => ?_
      rw [wipe_get, wipe_get]
      by_cases m : j ∈ vs
      · rw [if_pos m, if_pos m]
        cases σ[j]? <;> rfl
      · rw [if_neg m]
    · refine LE.mk re4 rh4 q4 xx fun d h6 v H6 q6 tl6 rh6 r6 re6 x6 => ?_
      obtain ⟨k, rfl, e6, l6, q6⟩ := q6
      obtain ⟨tx, rfl, hx⟩ := ints_rep r6
      obtain ⟨L, eL, pm, tr⟩ := rh6 _ _ e6
      have hf : ∀ u, H6 D0 = some u → fixedO u = false := fun u z => by rw [eL] at z; cases z; rfl
      refine ⟨L, tx, k, rfl, hx, eL, tr, by have := pm.length_eq; rw [List.length_map] at this; omega, fun L' c1 c2 => ?_⟩
      have tl7 : TupLe H6 (L2.upd H6 D0 (SetTO G.P G.w D0 L')) := TupLe.upd hf
      refine ⟨insT k acc, _, tl2.trans (tl3.trans (tl4.trans (tl6.trans tl7))), rh6.upd hf (show OR G _ D0 (.sT (insT k acc)) from ⟨L', upd_same, ?_, fun p hp => SqT.keep tl7 ?_⟩), up_same, q6⟩
      · unfold insT
        by_cases m : k ∈ L.map (·.2)
        · rw [c1 m, if_pos (pm.mem_iff.mp m)]
          exact pm
        · rw [if_neg fun z => m (pm.mem_iff.mpr z)]
          refine ((c2 m).map (·.2)).trans ?_
          rw [List.map_cons]
          exact pm.cons _
      · by_cases m : k ∈ L.map (·.2)
        · rw [c1 m] at hp; exact tr p hp
        · rcases List.mem_cons.mp ((c2 m).mem_iff.mp hp) with e | hp
          · rw [e]; exact hx
          · exact tr p hp
  · left
    have ei : i = ds.length := by omega
    subst ei
    rw [List.drop_length] at q2
    obtain ⟨st, e6, q2⟩ := q2
    obtain ⟨L, eL, pm, tr⟩ := rh2 _ _ e6
    have ln : L.length = acc.length := by have := pm.length_eq; rwa [List.length_map] at this
    refine ⟨ok.stop H2 h2 tl2 rh2 st, D0, L, rfl, eL, tr, ?_⟩
    rw [ln]
    exact fin _ h2 _ H2 q2 (tl1.trans tl2) rh2 rep_int
theorem se_lenSc (hP : X.prog = G.P) (hw : X.w = G.w) (hK : X.K = G.K) (hc : X.calm = true) (hu : X.A.units + 8 < cLine) (hN : X.N.Nodup) (hgl : Gl X "len") (hm : X.mg "len" = none) (hS : ∀ i ∈ S, i ∈ own.map (·.2)) (hi : PI X tg iter (LI G W di)) (ok : BlkOk X.N X.env.scope scope own)
    (hg : ∀ (s : Shared) (H : Hp) (C : Addr) (cl : List (Str × Addr)) (fp : List Addr), PG (X.blk s H scope (compEnvC scope cl C X.env) fp) tg (LG G S g))
    (he : ∀ (s : Shared) (H : Hp) (C : Addr) (cl : List (Str × Addr)) (fp : List Addr), PE (X.blk s H scope (compEnvC scope cl C X.env) fp) elt (LE G (fun _ _ _ _ => False) te)) (hs : ∀ x, foldedSetIterable iter X.env x = pure x) :
    PE X (.Call (.Name "len" p) [.SetComp elt [⟨tg, iter, [], 0⟩] scope pos] [] cpos) (LE G W (cLenSc di g te (own.map (·.2)))) := by
  have z := pe_lenScT (p := p) (pos := pos) (cpos := cpos) hc hu hN hgl hm hi ok hg he hs
  rw [hP, hw, hK] at z
  exact pe_imp z (le_lenSc hS)
end
end DW

/-! DW, part 9i: lists, sorted dicts and comprehensions while an exception is handled. -/
namespace DW
open PySem PySem.Spec PyProof.Rows L2 HotX
section
variable {prog : Program} {w : World} {A : Around} {E : Value → Shared → Prop} {s : Shared}
/-- an iterator says that it is at its end, while an exception is handled -/
theorem stop_hot {α : Type} {x1 : Addr} {Q : α → Shared → Prop} (hot : HotAt A x1 s.heap)
    (h : ∀ h' a, (∀ b o, s.heap.get? b = some o → h'.get? b = some o) → Shared.TypeIs { s with heap := h' } (.ref a) "StopIteration" → E (.ref a) { s with heap := h' }) :
    wpAny (model prog w) A (newExc (.type "StopIteration") [] >>= fun e => (raiseNew e : Sem α)) Q E s := by
  obtain ⟨hh, o1, vs1, h1, d1, c1⟩ := hot
  refine wpAny_bind ?_
  simp only [newExc, newTuple]
  refine wpAny_bind (wpAny_newObj_type ?_ (by size_fits))
  refine wpAny_bind (m := firstArgMember _ _) (wpAny_of_eq (a := Value.none) (by first | rfl | (simp only [firstArgMember]; rfl)) ?_)
  refine wpAny_newObj_type ?_ (by size_fits)
  refine raiseNew_hot ⟨hh, o1, vs1, Heap.get?_push_of_some _ (Heap.get?_push_of_some _ h1), d1, c1⟩ (Nat.ne_of_lt (Heap.lt_size (Heap.get?_push_of_some _ h1))) (Heap.get?_push_size _ rfl) rfl (by first | (simp; done) | (simp; omega) | (simp only [Array.size_append]; simp; omega)) ?_
  refine h _ _ (fun b o e => ?_) ⟨_, Heap.get?_update_self _ (Heap.get?_push_size _ rfl) rfl, rfl⟩
  rw [Heap.get?_update_other _ _ (Nat.ne_of_gt (Heap.lt_size (Heap.get?_push_of_some _ e)))]
  exact Heap.get?_push_of_some _ (Heap.get?_push_of_some _ e)
theorem HotX.HotAt.up {A : Around} {x1 it : Addr} {h h' : Heap} (hot : HotAt A x1 h) (n : x1 ≠ it) (sb : Heap.SameBut it h h') : HotAt A x1 h' := by
  obtain ⟨hh, o1, vs1, h1, d1, c1⟩ := hot
  exact ⟨hh, o1, vs1, (sb.2 x1 n).trans h1, d1, c1⟩
theorem list_end_hot {it l x1 : Addr} {i : Nat} {items : Array Value} {Q : Option Value → Shared → Prop} (hot : HotAt A x1 s.heap) (nx : x1 ≠ it)
    (hit : s.heap.IsListIter it l i) (hl : s.heap.IsList l items) (hx : items[i]? = none)
    (hQ : ∀ h', (∀ b o, b ≠ it → s.heap.get? b = some o → h'.get? b = some o) → Q none { s with heap := h' }) : wpAny (model prog w) A (pyNext (.ref it)) Q E s := by
  obtain ⟨o, ho, hc, hd⟩ := id hit
  obtain ⟨ol, hol, _, nl, hdl⟩ := hl
  unfold pyNext
  refine wpAny_bind (wpAny_attempt (wpAny_callSpecial?_slot (name := Str.ofString "__next__") hit.typeIs slot_listiter_next
    (wpAny_call_entry slot_listiter_next hit.typeIs entry_listiter_next ?_ (args_listiter_next _))))
  show wpAny _ _ (field (.ref it) 0 >>= _) _ _ s
  refine wpAny_bind (wpAny_field ho hd (x := .ref l) rfl ?_)
  show wpAny _ _ (if (Value.ref l == Value.none) = true then _ else _) _ _ s
  rw [if_neg (show ¬ ((Value.ref l == Value.none) = true) from Bool.false_ne_true)]
  show wpAny _ _ (field (.ref it) 1 >>= _) _ _ s
  refine wpAny_bind (wpAny_field ho hd (x := .int i 0) rfl ?_)
  show wpAny _ _ (seqItems? (.ref l) >>= _) _ _ s
  refine wpAny_bind (wpAny_seqItems hol hdl ?_)
  simp only [Int.toNat_natCast, hx]
  refine wpAny_bind (wpAny_rule (wpAny_bind (wpAny_setField ho hd (by simp) ?_)))
  have sb := Heap.SameBut.update s.heap it (Obj.mapFields fun vs => vs.setIfInBounds 0 Value.none)
  refine stop_hot (A := A.in1) (x1 := x1) (HotX.HotAt.up hot nx sb) fun h' a k ty => ?_
  refine wpAny_bind (wpAny_isInstance (T := "StopIteration") (b := true) ty isSubtype_stop ?_)
  exact wpAny_pure (hQ _ fun b o hb e => k b o ((sb.2 b hb).trans e))
theorem key_end_hot {it d x1 : Addr} {i n ep : Nat} {od : Obj} {es : Array DictEntry} {Q : Option Value → Shared → Prop} (hot : HotAt A x1 s.heap) (nx : x1 ≠ it) (hit : s.heap.IsKeyIter it d i n ep) (hod : s.heap.get? d = some od) (hdd : od.data = .dict es ep)
    (hsz : es.size = n) (hge : n ≤ i) (hQ : ∀ h', (∀ b o, b ≠ it → s.heap.get? b = some o → h'.get? b = some o) → Q none { s with heap := h' }) : wpAny (model prog w) A (pyNext (.ref it)) Q E s := by
  obtain ⟨o, ho, hc, hd⟩ := id hit
  unfold pyNext
  refine wpAny_bind (wpAny_attempt (wpAny_callSpecial?_slot (name := Str.ofString "__next__") hit.typeIs F.slot_dict_keyiterator_next
    (wpAny_call_entry F.slot_dict_keyiterator_next hit.typeIs F.entry_dict_keyiterator_next ?_ (F.args_dict_keyiterator_next_1 _))))
  refine wpAny_bind (wpAny_pure ?_)
  refine wpAny_bind ?_
  refine wpAny_bind ?_
  first | refine wpAny_bind (wpAny_typeNameOfWhole_keyiter hit.typeIs (wpAny_pure ?_)) | refine wpAny_bind (wpAny_typeNameOf_keyiter hit.typeIs (wpAny_pure ?_))
  refine wpAny_bind (wpAny_fieldsOf ho hd ?_)
  have hown : Builtin.Dict_items.ownsTuple "dict_keyiterator" = false := by decide
  simp only [hown, Bool.false_eq_true, if_false]
  show wpAny _ _ (if (Value.ref d == Value.none) = true then _ else _) _ _ s
  rw [if_neg (show ¬ ((Value.ref d == Value.none) = true) from Bool.false_ne_true)]
  refine wpAny_bind (wpAny_pure ?_)
  refine wpAny_bind (wpAny_dictEntries hod hdd ?_)
  rw [if_neg (by rw [hsz]; simp)]
  refine wpAny_bind (wpAny_pure ?_)
  refine wpAny_bind (wpAny_dictEpoch hod hdd ?_)
  rw [if_neg (by simp)]
  refine wpAny_pure ?_
  have hge' : es.size ≤ i := by rw [hsz]; exact hge
  simp only [show ¬ ((i : Int) < 0) from by omega, if_false, Int.toNat_natCast, Array.getElem?_eq_none hge']
  refine wpAny_bind ?_
  first | refine wpAny_bind (wpAny_typeNameOfWhole_keyiter hit.typeIs (wpAny_pure ?_)) | refine wpAny_bind (wpAny_typeNameOf_keyiter hit.typeIs (wpAny_pure ?_))
  show wpAny _ _ (setField (.ref it) 0 .none >>= _) _ _ s
  refine wpAny_bind (wpAny_setField ho hd (by simp) ?_)
  have sb := Heap.SameBut.update s.heap it (Obj.mapFields fun vs => vs.setIfInBounds 0 Value.none)
  refine stop_hot (A := A.in1) (x1 := x1) (HotX.HotAt.up hot nx sb) fun h' a k ty => ?_
  refine wpAny_bind (wpAny_isInstance (T := "StopIteration") (b := true) ty isSubtype_stop ?_)
  exact wpAny_pure (hQ _ fun b o hb e => k b o ((sb.2 b hb).trans e))
/-- a walk over the keys of a dict -/
theorem walks_hot {x1 I d : Addr} {o o1 : Obj} {vs1 : Array Value} {es : Array DictEntry} {ep : Nat} (hh : A.handled = some (.ref x1)) (d1 : o1.data = .fields vs1) (c1 : vs1[2]? = some .none) (hne : d ≠ I) (nx : x1 ≠ I) (hd : o.data = .dict es ep) :
    Walks prog w A I [I, d, x1] [I] es.size (fun i v => ∃ en : DictEntry, es[i]? = some en ∧ v = en.key) (fun i h => h.IsKeyIter I d i es.size ep ∧ h.get? d = some o ∧ h.get? x1 = some o1) where
  sub := fun b hb => by simp at hb; simp [hb]
  frame := fun _ _ _ st hk => ⟨st.1.at fun ob e => hk I (by simp) ob e, hk d (by simp) o st.2.1, hk x1 (by simp) o1 st.2.2⟩
  item := fun i s Q E hi st hQ => by
    have hx : es[i]? = some es[i] := Array.getElem?_eq_getElem hi
    refine next_key_item st.1 st.2.1 hd rfl hx fun h' hit' sb => ?_
    exact hQ _ h' s.toks ⟨_, hx, rfl⟩ ⟨hit', (sb.2 d hne).trans st.2.1, (sb.2 x1 nx).trans st.2.2⟩ fun b ob hb e => (sb.2 b (fun z => hb (by simp [z]))).trans e
  done := fun s Q E st hQ => key_end_hot (x1 := x1) ⟨hh, o1, vs1, st.2.2, d1, c1⟩ nx st.1 st.2.1 hd rfl (Nat.le_refl _) fun h' he' => hQ h' s.toks fun b ob hb e => he' b ob (fun z => hb (by simp [z])) e
  self := fun _ _ _ _ st hQ => wpAny_pyIter_keyiter st.1 hQ
abbrev PKey (es : Array DictEntry) : Nat → Value → Prop := fun i v => ∃ en : DictEntry, es[i]? = some en ∧ v = en.key
theorem extend_hot {R : Result → Shared → Prop} {x1 d : Addr} {o : Obj} {es : Array DictEntry} {ep : Nat} (hot : HotAt A x1 s.heap) (lo : (d == sysModules) = false) (hm : s.heap.get? d = some o) (hx : o.ExactDict) (hd : o.data = .dict es ep) (S : Addr) (hSd : S ≠ d) (hSx : S ≠ x1) (res : Value) (c₀ : Nat)
    (hS : s.heap.get? S = some { cls := .type "list", data := .seq #[] c₀ })
    (hR : ∀ h' tk acc' c', (∀ b o, b ≠ S → s.heap.get? b = some o → h'.get? b = some o) → h'.get? S = some { cls := .type "list", dict := none, data := .seq acc' c', slots := #[] } → ItemsOf (PKey es) acc' es.size → R (.ok (.ret res)) { s with heap := h', toks := tk }) (hn : es.size ≤ sizeLine) :
    wpAny (model prog w) A.in1 (Builtin.List.listExtendWith (.ref S) (.ref d) res)
      (fun fin s' => match fin with | .done f => R (.ok f) s' | .again c' => c'.quiet = true ∧ codeAny (model prog w) A c' R s') (fun e s' => R (.error e) s') s := by
  obtain ⟨hh, o1, vs1, h1, d1, c1⟩ := hot
  have hSI : S ≠ s.heap.objs.size := Nat.ne_of_lt (Heap.lt_size hS)
  have hSf : S ∉ [s.heap.objs.size, d, x1] := by
    intro z
    simp only [List.mem_cons, List.not_mem_nil, or_false] at z
    rcases z with z | z | z
    · exact hSI z
    · exact hSd z
    · exact hSx z
  have W := walks_hot (prog := prog) (w := w) (A := A.in1) (x1 := x1) (I := s.heap.objs.size) (d := d) (o := o) (o1 := o1) (ep := ep) hh d1 c1 (Nat.ne_of_lt (Heap.lt_size hm)) (Nat.ne_of_lt (Heap.lt_size h1)) hd
  have key : ∀ (h : Heap) (c₁ tk : Nat), (h.IsKeyIter s.heap.objs.size d 0 es.size ep ∧ h.get? d = some o ∧ h.get? x1 = some o1) → (∀ b o, b ≠ S → s.heap.get? b = some o → h.get? b = some o) →
      h.get? S = some { cls := .type "list", data := .seq #[] c₁ } → codeAny (model prog w) A (.builtin "list.extend.loop" ⟨[.ref S, .ref s.heap.objs.size, res], []⟩) R { s with heap := h, toks := tk } := by
    intro h c₁ tk hst hk hS₁
    refine codeAny_extend_loopS W.toS hn S hSf res es.size 0 _ #[] c₁ rfl (Nat.zero_le _) hst hS₁ (ItemsOf.nil _) fun s' acc' c' hm hS' hacc => ?_
    rw [Moved.eq_with hm]
    refine hR s'.heap s'.toks acc' c' (fun b o hb e => hm.heap b o (fun hmem => ?_) (hk b o hb e)) hS' hacc
    rcases List.mem_cons.mp hmem with e' | hmem
    · exact hb e'
    · exact absurd (Heap.lt_size e) (by rw [List.mem_singleton.mp hmem]; exact Nat.lt_irrefl _)
  have K := kdl_raw (prog := prog) (w := w) (ep := ep) lo hx hd
  unfold Builtin.List.listExtendWith
  refine wpAny_bind (wpAny_typeOf (T := "dict") (K.type s hm) ?_)
  have h2 : Builtin.List.listSameRef (.ref S) (.ref d) = false := by simp [Builtin.List.listSameRef, hSd]
  simp only [h2, K.notList, K.notTuple, Bool.or_false, Bool.false_eq_true, if_false]
  refine wpAny_bind (iter_keys lo hm hx hd ?_)
  refine wpAny_bind (wpAny_holding (K.hint _ _ _ _ (K.keep _ _ hm fun b _ o e => Heap.get?_push_of_some _ e) ?_))
  generalize hoI : ({ cls := .type "dict_keyiterator", data := .fields #[.ref d, .int ((0 : Nat) : Int) 0, .int ((es.size : Nat) : Int) 0, .int ((ep : Nat) : Int) 0] } : Obj) = oI
  have st0 : (s.heap.push oI).IsKeyIter s.heap.objs.size d 0 es.size ep ∧ (s.heap.push oI).get? d = some o ∧ (s.heap.push oI).get? x1 = some o1 := ⟨⟨oI, Heap.get?_push_size s.heap (by rw [← hoI]; rfl), by rw [← hoI], by rw [← hoI]⟩, Heap.get?_push_of_some _ hm, Heap.get?_push_of_some _ h1⟩
  have hS₁ := Heap.get?_push_of_some oI hS
  refine wpAny_ite_split (fun _ => ?_) (fun _ => wpAny_pure ⟨plainId_quiet PySem.F.plain_extend_loop _, key _ c₀ _ st0 (fun b o _ e => Heap.get?_push_of_some _ e) hS₁⟩)
  refine wpAny_bind (wpAny_rule ?_)
  refine wpAny_bind ?_
  show wpAny _ _ (updateSeq S (·.push .none) >>= fun _ => updateSeq S (·.pop)) _ _ _
  refine wpAny_bind (wpAny_updateSeq hS₁ rfl ?_)
  have hS₂ := Heap.get?_update_self (Obj.mapSeq (·.push Value.none)) hS₁ rfl
  refine wpAny_updateSeq (hz := by seq_fits) hS₂ rfl ?_
  have hS₃ := Heap.get?_update_self (Obj.mapSeq (·.pop)) hS₂ rfl
  refine wpAny_pure ⟨plainId_quiet PySem.F.plain_extend_loop _, key _ _ _ ?_ (fun b o hb e => ?_) hS₃⟩
  rotate_left
  · exact (Heap.get?_update_other _ _ (Ne.symm hb)).trans ((Heap.get?_update_other _ _ (Ne.symm hb)).trans (Heap.get?_push_of_some _ e))
  refine W.frame 0 _ _ st0 fun b hb o e => ?_
  have hbS : b ≠ S := fun h => hSf (h ▸ hb)
  exact (Heap.get?_update_other _ _ (Ne.symm hbS)).trans ((Heap.get?_update_other _ _ (Ne.symm hbS)).trans e)
theorem collect_hot {R : List Value → Shared → Prop} {x1 d : Addr} {o : Obj} {es : Array DictEntry} {ep : Nat} (hot : HotAt A x1 s.heap) (lo : (d == sysModules) = false) (hm : s.heap.get? d = some o) (hx : o.ExactDict) (hd : o.data = .dict es ep) (hn : es.size ≤ sizeLine)
    (h : ∀ (h' : Heap) (tk : Nat) (acc : Array Value), (∀ b o, s.heap.get? b = some o → h'.get? b = some o) → ItemsOf (PKey es) acc es.size → R acc.toList { s with heap := h', toks := tk }) :
    wpAny (model prog w) A (collect (.ref d)) R E s := by
  obtain ⟨hh, o1, vs1, h1, d1, c1⟩ := hot
  unfold collect
  refine wpAny_bind (wpAny_runValue (codeAny_builtin entry_proto_collect' ?_))
  rw [Around.under_plainId PySem.F.plain_proto_collect _]
  show wpAny _ A.in1 (newList [] >>= fun l => again (.builtin "list.__iadd__" ⟨[l, .ref d], []⟩)) _ _ s
  refine wpAny_bind (wpAny_newObj_type ?_)
  refine wpAny_pure ⟨plainId_quiet PySem.F.plain_list_iadd _, codeAny_builtin entry_list_iadd' ?_⟩
  rw [Around.under_plainId PySem.F.plain_list_iadd _]
  have hS₁ : (s.heap.push { cls := .type "list", data := .seq ([] : List Value).toArray }).get? s.heap.objs.size = some { cls := .type "list", data := .seq #[] } := Heap.get?_push_size _ rfl
  show wpAny _ A.in1 (Builtin.List.listExtendWith (.ref s.heap.objs.size) (.ref d) (.ref s.heap.objs.size)) _ _ _
  have key := extend_hot (prog := prog) (w := w) (A := A) (s := { s with heap := s.heap.push { cls := .type "list", data := .seq ([] : List Value).toArray } })
    (R := fun (q : Result) (s' : Shared) => ∃ (h' : Heap) (tk : Nat) (acc' : Array Value) (c' : Nat), q = .ok (.ret (.ref s.heap.objs.size)) ∧ s' = { s with heap := h', toks := tk } ∧
      (∀ b o, s.heap.get? b = some o → h'.get? b = some o) ∧ h'.get? s.heap.objs.size = some { cls := .type "list", dict := none, data := .seq acc' c', slots := #[] } ∧ ItemsOf (PKey es) acc' es.size)
    (x1 := x1) ⟨hh, o1, vs1, Heap.get?_push_of_some _ h1, d1, c1⟩ lo (Heap.get?_push_of_some _ hm) hx hd s.heap.objs.size (Nat.ne_of_gt (Heap.lt_size hm)) (Nat.ne_of_gt (Heap.lt_size h1)) (.ref s.heap.objs.size) 0 hS₁
    (fun h' tk acc' c' hk hS' hacc => ⟨h', tk, acc', c', rfl, rfl, fun b o e => hk b o (Nat.ne_of_lt (Heap.lt_size e)) (Heap.get?_push_of_some _ e), hS', hacc⟩) hn
  refine wpAny_mono key (fun fin s' x => ?_) fun e s' x => ?_
  · cases fin with
    | done f =>
      obtain ⟨h', tk, acc', c', e, rfl, hk, hS', hacc⟩ := x
      cases e
      show wpAny _ A (load s.heap.objs.size >>= _) _ _ _
      refine wpAny_bind (wpAny_load hS' ?_)
      exact wpAny_pure (h h' tk acc' hk hacc)
    | again c₁ =>
      refine ⟨x.1, codeAny_mono x.2 fun q s₂ y => ?_⟩
      obtain ⟨h', tk, acc', c', rfl, rfl, hk, hS', hacc⟩ := y
      show wpAny _ A (load s.heap.objs.size >>= _) _ _ _
      refine wpAny_bind (wpAny_load hS' ?_)
      exact wpAny_pure (h h' tk acc' hk hacc)
  · obtain ⟨_, _, _, _, e', _⟩ := x
    cases e'
end
/-! ### sorted(d), lists, in a context that bears a handled exception -/
section
variable {X : Cx} {tg : Expr}
theorem colR_hot (hc : L2H.HotC X) : ColR X := fun _ _ _ _ _ _ _ _ _ _ I hs ho hx hd hn q => by
  obtain ⟨x1, hh, r⟩ := hc.at I
  exact collect_hot (A := X.A.in1) (x1 := x1) ⟨hh, r⟩ hs ho hx hd hn q
theorem iv_listH {pins : List (Addr × Obj)} {s : Shared} {σ : L2.St} {H : Hp} {v : Value} {R : It → Hp → Prop} {a : Addr} (I : Inv X pins σ H s) (r : L2.RelV (.ref a) v) (hq : ∃ xs, SqL X.K H a xs) (q : R (Itl X.K a) H)
    (T : ∀ it, L2H.TurnH X.prog X.w X.K tg (Itl X.K a) [it] it (fun i h => h.IsListIter it a i)) : wpAny (model X.prog X.w) X.A (pyIter v) (L2H.PIEH X pins σ tg R) X.xe s := by
  obtain ⟨xs, hq⟩ := hq
  cases r
  obtain ⟨its, rv, p, hz⟩ := I.list hq
  refine wpAny_pyIter_list p.isList ⟨_, [s.heap.objs.size], _, _, H, rfl, I.kept (t' := s.toks) fun b o e => Heap.get?_push_of_some _ e, T _, ⟨_, Heap.get?_push_size _ rfl, rfl, rfl⟩, fun b hb => ?_, q⟩
  rw [List.mem_singleton.mp hb]
  exact I.fpOk (Nat.le_refl _) (I.hok.fresh (Nat.le_refl _))
theorem turn_listH {P : Program} {w : World} {K : PySem.W.Frag} (a it : Addr) : L2H.TurnH P w K tg (Itl K a) [it] it (fun i h => h.IsListIter it a i) where
  mem := by simp
  obj := fun i h st b hb => by
    obtain ⟨o, e, c, d⟩ := st
    rw [List.mem_singleton.mp hb]
    exact ⟨o, e, fun v z => by rw [d] at z; cases z⟩
  keep := fun i h h' st k => st.at fun o e => k it (by simp) o e
  item := by
    intro X hP hw hK hc i pins s σ H E I hf st hg
    subst hP hw hK
    obtain ⟨xs, x, hq, hx⟩ := hg
    obtain ⟨its, rv, p, hz⟩ := I.list hq
    obtain ⟨u, hu, ru⟩ := rv.get hx
    obtain ⟨f0, f1, f2, f3, f4, f5⟩ := hf it (by simp)
    refine wpAny_pyNext_list_item st p.isList (x := u) (by simpa using hu) fun h' st' sb => ?_
    have I1 : Inv X pins σ H { s with heap := h' } := I.turned (t' := s.toks) (fun b o hb e => (sb.2 b hb).trans e) f0 f1 f3 f4 f5
    obtain ⟨o, e, c, d⟩ := id st'
    exact ⟨u, rfl, go_of (s := { s with heap := h' }) e c d (by decide) ⟨x, H, I1, ru, ⟨rfl, fun ys hy => by rw [I.list_inj hy hq]; exact hx⟩, st', fun b hb => (hf b hb).1⟩⟩
  done := by
    intro X hP hw hK hc i pins s σ H E I hf st hg
    subst hP hw hK
    obtain ⟨xs, hq, hx⟩ := hg
    obtain ⟨its, rv, p, hz⟩ := I.list hq
    obtain ⟨f0, f1, f2, f3, f4, f5⟩ := hf it (by simp)
    have hl := rv.length
    obtain ⟨q, hq1, hq2⟩ := hc
    obtain ⟨hh, v1, e1, c1⟩ := hq1
    have g := (I.pin q (List.mem_append_left _ hq2)).1
    exact list_end_hot (x1 := q.1) ⟨hh, q.2, v1, g, e1, c1⟩ (f5 q (List.mem_append_left _ hq2)) st p.isList (by simp; omega) fun h' eb => ⟨rfl, I.turned (t' := s.toks) (fun b o hb e => eb b o hb e) f0 f1 f3 f4 f5⟩
  self := fun _ _ _ _ _ st h => wpAny_pyIter_listiter st h
end
/-! ### sorted(d) -/
def bSortTD : DB := fun ds h P => match ds with
  | [.ref a] => ∃ (kvs : List (List Key × D)) (ks : List (List Int)) (d : Nat) (B : Int), h a = some (.dT kvs) ∧ kvs.map (·.1) = ks.map (List.map Sum.inl) ∧ ks.length < 64 ∧ 1 ≤ d ∧ (∀ k ∈ ks, k.length = d ∧ TS.Bd B k) ∧
      ∀ ys : List (List Int), ys.Perm ks → ys.Pairwise (fun x y => TS.code B x ≤ TS.code B y) → ∀ p, h p = none → P (.ref p) (up h p (.lst (ys.map fun k => .tup (k.map D.int))))
  | _ => False
def rSortTD : List V → Hp → VK → Prop := fun vs H Q => ∃ (d : Nat) (B : Int), 1 ≤ d ∧ rSortDT d B vs H Q
theorem cr_sortTD {X : Cx} (col : ColR X) : CallR X (.builtin "sorted") rSortTD := by
  intro pins s σ H xs us Q I r q
  obtain ⟨d, B, hd, q⟩ := q
  exact call_sortedDT' hd col pins s σ H xs us Q I r q
theorem ob_sortTD {G : Pg} : OpB G bSortTD rSortTD := fun H h ds vs P Q rh r q f => by
  unfold bSortTD at q
  split at q
  · rename_i a
    obtain ⟨kvs, ks, d, B, ea, e1, e2, e3, e4, q⟩ := q
    obtain ⟨v, rfl, p⟩ := r.one
    obtain ⟨ws, e5, r1⟩ := rh _ _ ea
    refine ⟨d, B, e3, a, ws, ks, by rw [p.ref_], .inl e5, by rw [r1.keys]; exact e1, e2, e4, fun ys bs l h1 h2 h3 hl => ?_⟩
    exact f.new rh (fun c hc => q ys h1 h2 c hc) (fun c hc => OR.lst hc (Reps.keep (TupLe.refl H) _ _ (reps_pairs h3))) l hl
  · exact q.elim
/-- for x in sorted(d) -/
def iSrtD (a : DE) : DI := fun e h PP R => cB bSortTD (cCons a cNil) e h (fun y h2 => ∃ p ds, y = .ref p ∧ h2 p = some (.lst ds) ∧ PP ds (fun h' => h' p = some (.lst ds)) h2) R
theorem si_srtH {X : Cx} {G : Pg} {W : WX} {tg a : Expr} {de : DE} {p pos : Pos} (hK : X.K = G.K) (hc : L2H.HotC X) (hg : Gl X "sorted") (hm : X.mg "sorted" = none) (hs : starEach [a] X.env = (false, eval a X.env) :: starEach [] X.env) (ha : PA X [a] (LA G W (cCons de cNil))) :
    L2H.PIH X tg (.Call (.Name "sorted" p) [a] [] pos) (LI G W (iSrtD de)) := by
  have se : PE X (.Call (.Name "sorted" p) [a] [] pos) (LE G W (cB bSortTD (cCons de cNil))) := se_B (cr_sortTD (colR_hot hc)) ob_sortTD hg hm boot_sorted (by decide) (by decide) hs rfl ha
  refine ⟨fun pins s σ H R I z => ?_⟩
  obtain ⟨en, h, PP, R', re, rh, t, fin, x⟩ := z
  refine thn (se.run pins s σ H (fun v H1 => ∃ b, v = .ref b ∧ (∃ xs, SqL X.K H1 b xs) ∧ R (Itl X.K b) H1) I (LE.mk re rh t x fun d h1 v H1 t1 tl1 rh1 r1 re1 x1 => ?_)) fun v s1 ⟨y, H1, I1, r1, b, eb, sq, q⟩ => ?_
  · obtain ⟨b, ds, rfl, eb, q⟩ := t1
    obtain ⟨vs, sq, r⟩ := rh1.lst eb
    rw [hK]
    exact ⟨b, r1.ref_, ⟨vs, .inl (.inl sq)⟩, fin _ _ h1 H1 _ q tl1 rh1 ito_ref⟩
  · subst eb
    exact iv_listH I1 r1 sq q fun it => turn_listH b it
/-! ### [elt for tg in sorted(d)] while an exception is handled -/
/-- the block's context bears the handled exception, too -/
abbrev Cx_blkH (X : Cx) (s : Shared) (H : Hp) (scope : Scope) (cenv : Env) (fp : List Addr) : Cx := { X.blk s H scope cenv fp with pn := X.pn }
section
variable {X : Cx}
theorem inv_pn {Y : Cx} {σ : L2.St} {H : Hp} {s : Shared} {pn : List (Addr × Obj)} (I : Inv Y [] σ H s) (h : ∀ p ∈ pn, s.heap.get? p.1 = some p.2 ∧ H p.1 = none ∧ p.1 ≠ Y.env.locals ∧ p.1 ∉ Y.fs ∧ ∀ v, p.2.data ≠ .cell v) : Inv { Y with pn := pn } [] σ H s where
  ok := ⟨I.ok.mod, I.ok.kind, I.ok.glob, I.ok.blt, I.ok.above, I.ok.inj, I.ok.has, I.ok.cab, I.ok.hd, I.ok.frames, I.ok.stk, I.ok.exf, I.ok.bs, I.ok.bsz, I.ok.noex, I.ok.exfs, I.ok.funs, I.ok.frf⟩
  os := I.os
  bare := I.bare
  base := I.base
  loc := I.loc
  cell := I.cell
  free := I.free
  freeC := I.freeC
  pin := fun p hp => h p (by simpa using hp)
  hok := I.hok
  len := I.len
theorem pe_lcH {elt tg iter : Expr} {scope : Scope} {own : List (PySem.Str × Nat)} {pos : Pos} {wi : TI} {g : TG} {tt : TT} {te : TE} (hy : ∀ σ H Q, tt σ H Q → Q true H) (hot : L2H.HotC X) (hN : X.N.Nodup) (hi : L2H.PIH X tg iter wi) (ok : BlkOk X.N X.env.scope scope own)
    (hg : ∀ (s : Shared) (H : Hp) (C : Addr) (cl : List (PySem.Str × Addr)) (fp : List Addr), PG (Cx_blkH X s H scope (compEnvC scope cl C X.env) fp) tg g)
    (he : ∀ (s : Shared) (H : Hp) (C : Addr) (cl : List (PySem.Str × Addr)) (fp : List Addr), PE (Cx_blkH X s H scope (compEnvC scope cl C X.env) fp) elt te) (hs : ∀ x, foldedSetIterable iter X.env x = pure x) :
    PE X (.ListComp elt [⟨tg, iter, [], 0⟩] scope pos) (tLc wi g tt te (own.map (·.2))) := by
  refine ⟨fun pins s σ H Q I h => ?_⟩
  rw [eval_ListComp]
  -- names that are free in the block stand outside
  have cells : ∀ y ∈ scope.names, y.2 = .free → ∃ c, X.env.cells.lookup y.1 = some c := fun y hy e => I.ok.has _ (by rcases ok.free y hy e with k | k; exact .inl k; exact .inr k)
  refine wpAny_comprehension_free (use := none) rfl hs (closure_ok cells) ok.kind (fun y hy e => by rw [ok.uniq y hy, e]) (thn (hi.run pins s σ H _ I h) fun xv s1 hx => thn hx fun itv s2 h2 => ?_)
  obtain ⟨it, fp, tn, J, H2, rfl, I2, T, st2, f2, q⟩ := h2
  refine wpAny_newObj_type (newEnv_comp ?_) (by show 0 ≤ sizeLine; decide)
  generalize hD : s2.heap.objs.size = D
  have hDn : H2 D = none := I2.hok.fresh (Nat.le_of_eq hD)
  obtain ⟨W, ⟨m0, w0⟩, turn⟩ := q D hDn
  generalize hs3 : ({ s2 with heap := s2.heap.push { cls := .type "list", data := .seq ([] : List Value).toArray } } : Shared) = s3
  have h3 : s3.heap = s2.heap.push { cls := .type "list", data := .seq ([] : List Value).toArray } := by rw [← hs3]
  have I3 : Inv X pins σ (L2.upd H2 D (.lst [])) s3 := by
    rw [← hs3]
    refine I2.laid (t' := s2.toks) (fun b o e => Heap.get?_push_of_some _ e) (Nat.le_of_eq hD) ⟨Nat.zero_le _, [], 0, .nil, ?_⟩
    rw [← hD]
    exact Heap.get?_push_size _ rfl
  have old : ∀ b ∈ fp, b < s2.heap.objs.size := fun b hb => let ⟨_, e, _⟩ := T.obj _ _ st2 b hb; Heap.lt_size e
  have f3 : ∀ b ∈ fp, FpOk X pins (L2.upd H2 D (.lst [])) b ∧ b < s3.heap.objs.size := fun b hb => by
    have lt := old b hb
    refine ⟨⟨?_, (f2 b hb).2⟩, by rw [h3, Heap.size_push]; exact Nat.lt_succ_of_lt lt⟩
    rw [upd_ne (by rw [← hD]; exact Nat.ne_of_lt lt)]
    exact (f2 b hb).1
  have st3 : tn 0 s3.heap := T.keep _ _ _ st2 fun b _ o e => by rw [h3]; exact Heap.get?_push_of_some _ e
  have I4' := block_start I3 ok hN f3
  have pg := hg s3 (L2.upd H2 D (.lst [])) s3.heap.objs.size (cellsFrom (s3.heap.objs.size + 1) scope.names (cloFrom X.env.cells scope.names [])) fp
  have pe := he s3 (L2.upd H2 D (.lst [])) s3.heap.objs.size (cellsFrom (s3.heap.objs.size + 1) scope.names (cloFrom X.env.cells scope.names [])) fp
  show codeAny _ _ (.compStart (.ListComp elt [⟨tg, iter, [], 0⟩] scope pos) 0 (.ref it) (.ref D) (compEnvC scope (cellsFrom (s3.heap.objs.size + 1) scope.names (cloFrom X.env.cells scope.names [])) s3.heap.objs.size X.env)) (compPost (model X.prog X.w) X.A X.xe none _ (.ref D) s3.heap.objs.size) { s3 with heap := pushCells (s3.heap.push { cls := .type "dict", data := .dict #[] }) scope.names }
  have nfp : ∀ b ∈ fp, (L2.upd H2 D (.lst [])) b = none := fun b hb => (f3 b hb).1.1
  generalize hce : compEnvC scope (cellsFrom (s3.heap.objs.size + 1) scope.names (cloFrom X.env.cells scope.names [])) s3.heap.objs.size X.env = ce at I4' pg pe ⊢
  have cL : ce.locals = s3.heap.objs.size := by rw [← hce]; rfl
  generalize hH3 : L2.upd H2 D (.lst []) = H3 at I3 I4' pg pe w0 nfp f3
  generalize hs4 : ({ s3 with heap := pushCells (s3.heap.push { cls := .type "dict", data := .dict #[] }) scope.names } : Shared) = s4 at I4' ⊢
  have kp4 : ∀ b o, s3.heap.get? b = some o → s4.heap.get? b = some o := fun b o e => by rw [← hs4]; exact pushCells_keeps _ _ _ _ (Heap.get?_push_of_some _ e)
  have st4 : tn 0 s4.heap := T.keep _ _ _ st3 fun b _ o e => kp4 b o e
  have I4 : Inv (Cx_blkH X s3 H3 scope ce fp) [] (wipe σ (own.map (·.2))) H3 s4 := inv_pn I4' fun p hp => by
    obtain ⟨p1, p2, p3, p4, p5⟩ := I3.pin p (List.mem_append_left _ hp)
    refine ⟨kp4 _ _ p1, p2, ?_, fun hm => ?_, p5⟩
    · show p.1 ≠ ce.locals
      rw [cL]
      exact Nat.ne_of_lt (Heap.lt_size p1)
    · exact (List.mem_cons.mp (I3.stkSub p.1 hm)).elim p3 p4
  have hotB : L2H.HotC (Cx_blkH X s3 H3 scope ce fp) := hot
  have fpk : ∀ {σ' : L2.St} {H' : Hp} {s' : Shared}, Inv (Cx_blkH X s3 H3 scope ce fp) [] σ' H' s' → (∀ b ∈ fp, H' b = none) → ∀ b ∈ fp, FpOk (Cx_blkH X s3 H3 scope ce fp) [] H' b := fun {σ' H' s'} I' hn b hb =>
    ⟨hn b hb, (I'.ok.exf b hb).1, I'.ok.exfs b hb, .inl hb, fun x c e => (I'.ok.exf b hb).2 x c e, fun p hp => (f3 b hb).1.2.2.2.2.2 p (List.mem_append_left _ (by simpa using hp))⟩
  refine codeAny_compStart_list ?_ (T.self X.A 0 _ _ _ st4 ?_) <;>
  · refine compLoop_any (fun n s' => ∃ i H', Inv (Cx_blkH X s3 H3 scope ce fp) [] (wipe σ (own.map (·.2))) H' s' ∧ tn i s'.heap ∧ (∀ b ∈ fp, H' b = none) ∧ W i n H') ?_ m0 ⟨0, H3, I4, st4, nfp, w0⟩
    rintro n s5 ⟨i, H5, I5, st5, n5, w5⟩
    rcases turn i n H5 w5 with ⟨stop, qq⟩ | ⟨go, Nx, hNx, step⟩
    · refine thnF (T.done (Cx_blkH X s3 H3 scope ce fp) rfl rfl rfl hotB i [] s5 _ H5 (fun _ _ => False) I5 (fpk I5 n5) st5 stop) fun r s6 ⟨hr, I6⟩ => ?_
      subst hr
      have I7 : Inv X pins σ H5 s6 := I3.call' (ch := fp) I6.os I6.base I6.hok I6.bare fun b hb => ⟨(f3 b hb).1.2.2.2.1, (f3 b hb).1.2.1, (f3 b hb).1.2.2.2.2.1, (f3 b hb).1.2.2.2.2.2⟩
      have nC : H5 s3.heap.objs.size = none := by rw [← cL]; exact I6.free
      obtain ⟨m, hn, _⟩ := I6.loc
      have hn : s6.heap.Ns s3.heap.objs.size m := by rw [← cL]; exact hn
      refine ⟨m, hn, fun h'' sb => ?_⟩
      obtain ⟨f0, f1, f2, f3, f4, f5⟩ := I3.fpOk (Nat.le_refl _) nC
      exact ⟨.ref D, H5, I7.turned (t' := s6.toks) (fun b o hb e => (sb.2 b hb).trans e) f0 f1 f3 f4 f5, rfl, qq⟩
    · refine thnF (T.item (Cx_blkH X s3 H3 scope ce fp) rfl rfl rfl hotB i [] s5 _ H5 (fun _ _ => False) I5 (fpk I5 n5) st5 go) fun r s6 ⟨u, hr, h6⟩ => ?_
      subst hr
      refine thnF h6 fun _ s7 ⟨x, H7, I7, r7, y7, st7, n7⟩ => ?_
      refine thnF (pg.run _ s7 _ H7 x u _ (I7.pinned (fpk I7 n7) (T.obj _ _ st7)) r7 (step x H7 y7)) fun _ s8 ⟨σ8, H8, I8, hw8, q8⟩ => ?_
      refine wpAny_tests_nil ?_
      simp only [if_true]
      replace q8 := hy _ _ _ q8
      simp only [if_true] at q8
      refine thnF (pe.run _ s8 σ8 H8 _ I8 q8) fun z s10 ⟨yv, H10, I10, r10, acc, hD10, hz10, nx⟩ => ?_
      refine app_ok (X := Cx_blkH X s3 H3 scope ce fp) I10 hD10 hz10 r10 fun s11 I11 => ?_
      obtain ⟨m', hm, w'⟩ := hNx _ nx
      have pin' : ∀ b ∈ fp, ∀ o, s7.heap.get? b = some o → s11.heap.get? b = some o ∧ _ := fun b hb o e =>
        let z := I11.pin (b, o) (List.mem_append_right _ (List.mem_append_right _ (mem_pinsAt hb e)))
        And.intro z.1 z.2.1
      refine ⟨m', hm, i + 1, _, (I11.unpinned (pins := [])).weak (by rw [← hw8, wipe_length]) (fun j v e => ?_), T.keep _ _ _ st7 fun b hb o e => (pin' b hb o e).1, fun b hb => ?_, w'⟩
      · rw [← hw8] at e
        exact (wipe_some e).1
      · obtain ⟨o, e, _⟩ := T.obj _ _ st7 b hb
        exact (pin' b hb o e).2
end
end DW

/-! DW, part 10: the reading of the text as combinators: functions on the syntax. -/
namespace DW
open PySem L2 PySem.Spec

/-! ### facts of the syntax -/
def isStar : Expr → Bool
  | .Starred _ _ => true
  | _ => false
def isSet : Expr → Bool
  | .Set _ _ _ => true
  | _ => false
def isComp : Expr → Bool
  | .ListComp _ _ _ _ => true
  | .SetComp _ _ _ _ => true
  | .DictComp _ _ _ _ _ => true
  | _ => false
def isSlice : Expr → Bool
  | .Slice _ _ _ _ => true
  | _ => false
def isTupE : Expr → Bool
  | .Tuple _ _ _ => true
  | _ => false
def isCall0 : Expr → Bool
  | .Call (.Name _ _) [] [] _ => true
  | _ => false
/-- its truth is looked at from outside -/
def plainT : Expr → Bool
  | .UnaryOp .Not _ _ => false
  | .BoolOp _ _ _ => false
  | .IfExp _ _ _ _ => false
  | .Compare _ _ _ _ => false
  | _ => true
def noStar (es : List Expr) : Bool := es.all fun e => !isStar e
theorem star_cons {e : Expr} {es : List Expr} {env : Env} (h : isStar e = false) : starEach (e :: es) env = (false, eval e env) :: starEach es env := by
  cases e <;> first | rfl | cases h
theorem star_any {pos : Pos} {env : Env} : ∀ {es : List Expr}, noStar es = true → (backTo pos (starEach es env)).any (·.1) = false
  | [], _ => rfl
  | e :: es, h => by
    have h2 : (!isStar e && noStar es) = true := h
    rw [Bool.and_eq_true] at h2
    have he : isStar e = false := by simpa using h2.1
    rw [star_cons he]
    show (false || (backTo pos (starEach es env)).any (·.1)) = false
    rw [star_any h2.2]; rfl
theorem star_all {pos : Pos} {env : Env} : ∀ {es : List Expr}, noStar es = true → (backTo pos (starEach es env)).all (fun x => !x.1) = true
  | [], _ => rfl
  | e :: es, h => by
    have h2 : (!isStar e && noStar es) = true := h
    rw [Bool.and_eq_true] at h2
    have he : isStar e = false := by simpa using h2.1
    rw [star_cons he]
    show (true && (backTo pos (starEach es env)).all (fun x => !x.1)) = true
    rw [star_all h2.2]; rfl
theorem noStar_cons {e : Expr} {es : List Expr} (h : noStar (e :: es) = true) : isStar e = false ∧ noStar es = true := by
  have h2 : (!isStar e && noStar es) = true := h
  rw [Bool.and_eq_true] at h2
  exact ⟨by simpa using h2.1, h2.2⟩
theorem behind_no {op : CmpOp} {b : Expr} (h : isSet b = false) : behindInMarks op b = false := by
  cases b <;> first | rfl | cases h
theorem last_no {op op' : CmpOp} {b c : Expr} (h : isSet c = false) : lastMarks [op, op'] [b, c] = false := by
  show behindInMarks op' c = false
  exact behind_no h
theorem last_no3 {op op' op'' : CmpOp} {b c d : Expr} (h : isSet d = false) : lastMarks [op, op', op''] [b, c, d] = false := by
  show behindInMarks op'' d = false
  exact behind_no h
theorem ab_plain {o : Expr} {f : Str} {env : Env} {w : Sem Value} (h : isCall0 o = false) : attributeBase o f env w = w := by
  unfold attributeBase
  split
  · cases h
  · rfl
theorem swaps_no {v : Expr} {t : Option Expr} {l : Nat} {env : Env} (h : isComp v = false) : swapsWith v t l env = pure false := by
  cases v <;> first | rfl | cases h
theorem swaps_notName {v t : Expr} {l : Nat} {env : Env} (h : ∀ x p, t ≠ .Name x p) : swapsWith v (some t) l env = pure false := by
  unfold swapsWith
  cases v <;> first | rfl | skip
  all_goals (cases t <;> first | rfl | exact absurd rfl (h _ _))
theorem stores_v {t v : Expr} {env : Env} (h : isTupE v = false) : swappedStores [t] v env = pure none := by
  unfold swappedStores
  cases v <;> first | cases h | skip
  all_goals (cases t <;> rfl)
theorem stores_t {t v : Expr} {env : Env} (h : ∀ a b c, t ≠ .Tuple a b c) (h2 : ∀ a b, t ≠ .List a b) : swappedStores [t] v env = pure none := by
  unfold swappedStores
  cases t <;> first | exact absurd rfl (h _ _ _) | exact absurd rfl (h2 _ _) | rfl
theorem set_plain {i : Expr} {env : Env} {x : Value} (h : isSet i = false) : foldedSetIterable i env x = pure x := by
  cases i <;> first | rfl | cases h
theorem true_plain {e : Expr} {env : Env} {w : Sem Value} (h : plainT e = true) : isTrue e env w = (do let v ← w; standAt e.pos; holding [v] (truthy v)) := by
  cases e <;> first | rfl | cases h | skip
  case UnaryOp op a p => cases op <;> first | rfl | cases h
theorem ix_plain {b : Expr} (h : isSlice b = false) : PlainIx b := by
  intro o i
  cases b <;> first | rfl | cases h
theorem asg_each1 {t : Expr} {env : Env} (h : isStar t = false) : (assignEach [t] env).map (fun x => x.2) = [assign t env] := by
  cases t <;> first | rfl | cases h
theorem asg_cons {t : Expr} {ts : List Expr} {env : Env} (h : isStar t = false) : (assignEach (t :: ts) env).map (fun x => x.2) = assign t env :: (assignEach ts env).map (fun x => x.2) := by
  cases t <;> first | rfl | cases h
theorem asg_len {env : Env} : ∀ {ts : List Expr}, (assignEach ts env).length = ts.length
  | [] => rfl
  | t :: ts => by
    have ih := asg_len (env := env) (ts := ts)
    cases t <;> (show (assignEach ts env).length + 1 = ts.length + 1; rw [ih])
theorem asg_star {env : Env} : ∀ {ts : List Expr}, noStar ts = true → (assignEach ts env).findIdx? (·.1) = none
  | [], _ => rfl
  | t :: ts, h => by
    obtain ⟨h1, h2⟩ := noStar_cons h
    have ih := asg_star (env := env) h2
    have e : assignEach (t :: ts) env = (false, assign t env) :: assignEach ts env := by cases t <;> first | rfl | cases h1
    rw [e, List.findIdx?_cons, ih]
    rfl
theorem asg_sub {o i : Expr} {p : Pos} {env : Env} (h : isSlice i = false) (v : Value) : assign (.Subscript o i p) env v = (do
      let ov ← holding [v] (eval o env)
      let iv ← holding [v, ov] (eval i env)
      standAt p
      holding [v, ov, iv] (setItem ov iv v)
      release [v, ov, iv] []) := by
  cases i <;> first | rfl | cases h

/-! ### the tables -/
/-- what the module's names are; the levels: of what they rest on -/
structure Gt where
  free : List Str
  val : List (Str × D)
  call : List (Str × Nat × DSp)
  callK : List ((Str × Nat × List Str) × Nat × DSp2)
  kit : List (Str × Kit)
  exk : List (Str × (Nat → Option Bool))
  exc : List (Str × Nat)
  fld : List (Str × List (Nat × Nat))
  meth : List (Str × List (Nat × Nat × DSp))
  prop : List (Str × List (Nat × Nat × DSp))
  lk : List Nat := []
  hot : List (Str × Nat × DSp) := []
  hotm : List (Str × List (Nat × Nat × DSp)) := []
structure Cfg where
  g : Gt
  lv : Nat
  N : List Str
  sc : Scope
  exv : Option (Addr × DX) := none
  blkS : Option Scope := none
  gen : Bool := false
def Cfg.kind (C : Cfg) (x : Str) : Option NameKind := C.sc.names.lookup x
/-- may be stored to here -/
def Cfg.own (C : Cfg) (x : Str) : Bool := match C.blkS with
  | none => true
  | some s => s.names.lookup x == some .cell
def Cfg.asg (C : Cfg) (x : Str) : Bool := C.kind x == some .local || (C.kind x == some .cell && C.own x)
def ixOf (N : List Str) (x : Str) : Option Nat := (N.zip (List.range N.length)).lookup x
def Cfg.isG (C : Cfg) (x : Str) : Bool := match C.kind x with
  | some .globalImplicit => !(x == ("__debug__" : Str))
  | _ => false
/-- built-in functions and types, called -/
def bDB (x : Str) : Option DB :=
  if x == ("int" : Str) then some bInt
  else if x == ("len" : Str) then some bLen
  else if x == ("list" : Str) then some bList1
  else if x == ("tuple" : Str) then some bTuple
  else if x == ("max" : Str) then some bMaxA
  else if x == ("min" : Str) then some bMin
  else if x == ("sum" : Str) then some bSum
  else if x == ("all" : Str) then some bAll
  else if x == ("any" : Str) then some bAny
  else if x == ("sorted" : Str) then some bSortedA
  else if x == ("dict" : Str) then some bDictA
  else none
def opD : Operator → Option DO
  | .Add => some doAdd
  | .Sub => some doSub
  | .Mult => some doMul
  | .FloorDiv => some doDiv
  | .Mod => some doMod
  | .Pow => some doPow
  | _ => none
def cmpD : CmpOp → DO
  | .Eq => doEq
  | .NotEq => doNe
  | .Lt => doLt
  | .LtE => doLe
  | .Gt => doGt
  | .GtE => doGe
  | .Is => doIs
  | .IsNot => doIsNot
  | .In => doIn
  | .NotIn => doNotIn

def isD0 : Expr → Bool
  | .Dict [] [] _ => true
  | _ => false
def cmpX (op : CmpOp) (b : Expr) : DO := match isD0 b, op with
  | true, .Eq => doEq0 true
  | true, .NotEq => doEq0 false
  | _, op => cmpD op
/-- len(set(a)) -/
def lenSetA : Expr → List Expr → List Keyword → Option Expr
  | .Name x _, [.Call (.Name y _) [a] [] _], [] => if (x == ("len" : Str) && y == ("set" : Str)) = true then some a else none
  | _, _, _ => none
/-! ### expressions -/
def rdName (C : Cfg) (x : Str) : DE := match C.kind x with
  | some .globalImplicit => match C.isG x, C.g.val.lookup x with
    | true, some d => cD d
    | _, _ => cBad
  | some .globalExplicit => cBad
  | some _ => match ixOf C.N x, (x == ("__debug__" : Str)) || (x == ("__classdict__" : Str)) with
    | some i, false => cVar i
    | _, _ => cBad
  | none => cBad
def rdA (E : Expr → DE) : List Expr → DA
  | [] => cNil
  | e :: es => match isStar e with
    | true => cBadA
    | false => cCons (E e) (rdA E es)
def rdK (E : Expr → DE) : List Keyword → DA
  | [] => cNil
  | ⟨_, e, _⟩ :: es => cCons (E e) (rdK E es)
def ksOf (kws : List Keyword) : List Str := kws.filterMap fun k => k.arg
def kwAll (kws : List Keyword) : Bool := kws.all fun k => k.arg.isSome
/-- and, or -/
def rdBV (E : Expr → DE) (op : BoolOp) : List Expr → DE
  | [] => cBad
  | [a] => E a
  | a :: b :: r => match op with
    | .And => cAndV (E a) (rdBV E op (b :: r))
    | .Or => cOrV (E a) (rdBV E op (b :: r))
def rdB (T : Expr → DT) (op : BoolOp) : List Expr → DT
  | [] => cBadT
  | [a] => T a
  | a :: b :: r => match op with
    | .And => cAnd (T a) (rdB T op (b :: r))
    | .Or => cOr (T a) (rdB T op (b :: r))
def rdPart (E : Expr → DE) : Option Expr → DO1
  | none => cNoPart
  | some e => cPart (E e)
/-- minus one -/
def isM1 : Option Expr → Bool
  | some (.UnaryOp .USub (.Constant (.int 1) _ _) _) => true
  | _ => false
/-- of an exception without own fields -/
def exO (k : Nat → Option Bool) (x : DX) : Option Bool := match x.fs with
  | none => k x.c
  | some _ => none
def rdIsi (E : Expr → DE) (C : Cfg) (a c : Expr) : DE := match isStar a, c with
  | false, .Name x _ => match C.isG x, C.isG ("isinstance" : Str), C.g.free.contains ("isinstance" : Str) with
    | true, true, true => match C.exv with
      | some (ad, dx) => match C.g.exk.lookup x with
        | some k => cIsiX (E a) ad (exO k dx)
        | none => cBad
      | none => match C.g.kit.lookup x with
        | some k => cIsi (E a) k
        | none => cBad
    | _, _, _ => cBad
  | _, _ => cBad
def mDM (m : Str) : Option (String × DM) :=
  if m == ("append" : Str) then some ("list", mAppend)
  else if m == ("get" : Str) then some ("dict", mGet)
  else if m == ("extend" : Str) then some ("list", mExtend)
  else if m == ("pop" : Str) then some ("list", mPopL)
  else if m == ("index" : Str) then some ("list", mIndexI)
  else if m == ("setdefault" : Str) then some ("dict", mSetD)
  else none
/-- some methods are those of two types -/
def mDM2 (m : Str) (T : String) (f : DM) (o : DE) (t : DA) : DE := if m == ("pop" : Str) then cMPop o t else cM T f o t
def methTb (lv : Nat) (tb : List (Nat × Nat × DSp)) : List (Nat × DSp) := (tb.filter fun q => Nat.blt q.2.1 lv).map fun q => (q.1, q.2.2)
/-! own specials: == != in len -/
def noXK : KX := fun _ _ => False
/-- what an own == may be asked of -/
def okY (c : Nat) (y : D) (h : DH) : Prop := match y with
  | .int _ => True
  | .tup _ => True
  | .ref p => match h p with
    | some (.ins c' _) => c' = c
    | _ => False
  | _ => False
def oEq (tb : List (Nat × DSp)) (f : DO) : DO := fun x y h P => f x y h P ∨ ∃ q ∈ tb, ∃ p fs, x = .ref p ∧ h p = some (.ins q.1 fs) ∧ okY q.1 y h ∧ q.2 [x, y] h (fun d h' => ∃ b, d = .bl b ∧ P (.bl b) h') noXK
def oNe (tb : List (Nat × DSp)) (f : DO) : DO := fun x y h P => f x y h P ∨ ∃ q ∈ tb, ∃ p fs p' fs', x = .ref p ∧ h p = some (.ins q.1 fs) ∧ y = .ref p' ∧ h p' = some (.ins q.1 fs') ∧ q.2 [x, y] h (fun d h' => ∃ b, d = .bl b ∧ P (.bl (!b)) h') noXK
def oIn (tb : List (Nat × DSp)) (g : Bool → Bool) (f : DO) : DO := fun x y h P => f x y h P ∨ ∃ q ∈ tb, ∃ p fs, y = .ref p ∧ h p = some (.ins q.1 fs) ∧ q.2 [y, x] h (fun d h' => ∃ b, d = .bl b ∧ P (.bl (g b)) h') noXK
def bLenO (tb : List (Nat × DSp)) : DB := fun ds h P => bLen ds h P ∨ ∃ q ∈ tb, ∃ p fs, ds = [.ref p] ∧ h p = some (.ins q.1 fs) ∧ q.2 ds h (fun d h' => ∃ n, d = .int n ∧ (0 ≤ n ∧ n < 2 ^ 63) ∧ P (.int n) h') noXK
def cmpO (C : Cfg) (op : CmpOp) (f : DO) : DO := match C.exv, op with
  | none, .Eq => match C.g.meth.lookup ("__eq__" : Str) with
    | some tb => oEq (methTb C.lv tb) f
    | none => f
  | none, .NotEq => match C.g.meth.lookup ("__eq__" : Str) with
    | some tb => oNe (methTb (C.lv - 1) tb) f
    | none => f
  | none, .In => match C.g.meth.lookup ("__contains__" : Str) with
    | some tb => oIn (methTb C.lv tb) id f
    | none => f
  | none, .NotIn => match C.g.meth.lookup ("__contains__" : Str) with
    | some tb => oIn (methTb C.lv tb) not f
    | none => f
  | _, _ => f
def ownLen (C : Cfg) (f : Expr) (es : List Expr) (kws : List Keyword) : Option (Expr × List (Nat × Nat × DSp)) := match f, es, kws with
  | .Name x _, [a], [] => match x == ("len" : Str), C.g.meth.lookup ("__len__" : Str), C.exv with
    | true, some tb, none => some (a, tb)
    | true, _, some _ => match C.g.hotm.lookup ("__len__" : Str) with
      | some tb => some (a, tb)
      | none => none
    | _, _, _ => none
  | _, _, _ => none
def rdCall (E : Expr → DE) (C : Cfg) (f : Expr) (es : List Expr) (kws : List Keyword) (pos : Pos) : DE := match f, kws with
  | .Name x _, [] => match C.isG x with
    | false => cBad
    | true => match C.exv, C.g.hot.lookup x with
     | some _, some (l, s) => match Nat.blt l C.lv, noStar es with
        | true, true => cCall s (rdA E es)
        | _, _ => cBad
     | _, _ => match C.g.call.lookup x, C.exv with
      | some (l, s), none => match Nat.blt l C.lv, noStar es with
        | true, true => cCall s (rdA E es)
        | _, _ => cBad
      | _, _ => match C.exv, C.g.callK.lookup (x, es.length, []) with
        | none, some (l, s) => match Nat.blt l C.lv, noStar es with
          | true, true => cCallK s (rdA E es) cNil
          | _, _ => cBad
        | _, _ => match C.g.free.contains x, x == ("isinstance" : Str), es with
          | true, true, [a, c] => rdIsi E C a c
          | true, false, e :: r => match bDB x, C.exv, noStar (e :: r) with
            | some b, none, true => cB b (rdA E es)
            | _, _, _ => cBad
          | _, _, _ => cBad
  | .Name x _, k :: ks => match C.isG x, C.exv, C.g.callK.lookup (x, es.length, ksOf (k :: ks)) with
    | true, none, some (l, s) => match Nat.blt l C.lv, noStar es, kwAll (k :: ks) with
      | true, true, true => cCallK s (rdA E es) (rdK E (k :: ks))
      | _, _, _ => cBad
    | _, _, _ => cBad
  | .Attribute o m ap, [] => match noStar es, C.exv, C.g.meth.lookup m with
    | true, none, some tb => match isCall0 o, ap.endLine == pos.line, Nat.blt es.length 30 with
      | false, true, true => cMeth (E o) (methTb C.lv tb) (rdA E es)
      | _, _, _ => cBad
    | true, some _, some _ => match C.g.hotm.lookup m, isCall0 o, ap.endLine == pos.line, Nat.blt es.length 30 with
      | some tb, false, true, true => cMeth (E o) (methTb C.lv tb) (rdA E es)
      | _, _, _, _ => cBad
    | true, _, none => match mDM m, isCall0 o, ap.endLine == pos.line, Nat.blt es.length 30 with
      | some (T, f), false, true, true => mDM2 m T f (E o) (rdA E es)
      | _, _, _, _ => cBad
    | _, _, _ => cBad
  | _, _ => cBad
def rdCall2 (E : Expr → DE) (C : Cfg) (f : Expr) (es : List Expr) (kws : List Keyword) (pos : Pos) : DE := match lenSetA f es kws with
  | some a => match C.isG ("len" : Str) && (C.g.free.contains ("len" : Str) && (C.isG ("set" : Str) && (C.g.free.contains ("set" : Str) && !isStar a))), C.exv with
    | true, none => cLenSet (E a)
    | _, _ => cBad
  | none => match ownLen C f es kws with
    | some (a, tb) => match C.isG ("len" : Str) && (C.g.free.contains ("len" : Str) && !isStar a) with
      | true => cB (bLenO (methTb (C.lv - 1) tb)) (rdA E [a])
      | false => cBad
    | none => rdCall E C f es kws pos
/-- set(), x.add(e), list(x.items()) -/
inductive SpF where
  | set0
  | add (o : Expr) (e : Expr)
  | items (e : Expr)
def spF (f : Expr) (es : List Expr) (kws : List Keyword) (pos : Pos) : Option SpF := match f, es, kws with
  | .Name x _, [], [] => match x == ("set" : Str) with
    | true => some .set0
    | false => none
  | .Name x _, [.Call (.Attribute e m ap) [] [] cp], [] => match x == ("list" : Str) && (m == ("items" : Str) && ap.endLine == cp.line) with
    | true => some (.items e)
    | false => none
  | .Attribute o m ap, [e], [] => match m == ("add" : Str) && ap.endLine == pos.line with
    | true => some (.add o e)
    | false => none
  | _, _, _ => none
def rdCallI (E : Expr → DE) (C : Cfg) (f : Expr) (es : List Expr) (kws : List Keyword) (pos : Pos) : DE := match spF f es kws pos with
  | some .set0 => match C.isG ("set" : Str) && C.g.free.contains ("set" : Str) with
    | true => cSet0
    | false => cBad
  | some (.items e) => match C.isG ("list" : Str) && (C.g.free.contains ("list" : Str) && !isCall0 e), C.exv, C.g.meth.lookup ("items" : Str) with
    | true, none, none => cItems (E e)
    | _, _, _ => rdCall2 E C f es kws pos
  | some (.add o e) => match !isCall0 o && !isStar e, C.g.meth.lookup ("add" : Str) with
    | true, none => cSAdd (E o) (rdA E [e])
    | _, _ => rdCall2 E C f es kws pos
  | none => rdCall2 E C f es kws pos
/-- sum(x[i] for x in it) -/
def genSB (sc : Scope) (x : Str) : Bool := decide (sc.kind = .function) && (!sc.isCoroutine && (sc.names.all (fun y => !(decide (y.2 = .cell)) && !(decide (y.2 = .free))) && (nkB0 (sc.names.lookup (".0" : Str)) && (nkB0 (sc.names.lookup x) && !(x == ("__debug__" : Str))))))
where nkB0 (a : Option NameKind) : Bool := decide (a = some .local)
def sumGA (f : Expr) (es : List Expr) (kws : List Keyword) : Option (Int × Str × Expr × Scope) := match f, es, kws with
  | .Name s _, [.GeneratorExp (.Subscript (.Name y _) (.Constant (.int i) _ _) _) [⟨.Name x _, it, [], a⟩] sc _], [] => match s == ("sum" : Str) && (y == x && decide (a = 0)) with
    | true => some (i, x, it, sc)
    | false => none
  | _, _, _ => none
def notLS (e : Expr) : Bool := match e with
  | .List .. => false
  | .Set .. => false
  | _ => true
def rdCall3 (E : Expr → DE) (C : Cfg) (f : Expr) (es : List Expr) (kws : List Keyword) (pos : Pos) : DE := match sumGA f es kws with
  | some (i, x, it, sc) => match C.isG ("sum" : Str) && (C.g.free.contains ("sum" : Str) && (notLS it && (genSB sc x && (decide (0 ≤ i) && decide (i < 2 ^ 63))))), C.exv, C.gen with
    | true, none, true => cSumG i.toNat (E it)
    | _, _, _ => cBad
  | none => rdCallI E C f es kws pos
/-! targets -/
def rdG (C : Cfg) : Nat → Expr → List Nat × DG
  | 0, _ => ([], gBad)
  | n + 1, e => match e with
    | .Name x _ => match ixOf C.N x, C.asg x with
      | some i, true => ([i], gN i)
      | _, _ => ([], gBad)
    | .Tuple es _ _ => match noStar es, C.exv with
      | true, none => let r := go n es; (r.1, gT es.length r.2)
      | _, _ => ([], gBad)
    | _ => ([], gBad)
where go (n : Nat) : List Expr → List Nat × DGs
  | [] => ([], gsNil)
  | e :: es => ((rdG C n e).1 ++ (go n es).1, gsCons (rdG C n e).2 (go n es).2)
/-! comprehensions -/
def isOwnK (k : NameKind) : Bool := match k with
  | .local => true
  | .cell => true
  | _ => false
def ownOf (N : List Str) (names : List (Str × NameKind)) : List (Str × Nat) := names.filterMap fun p => if isOwnK p.2 then (ixOf N p.1).map fun i => (p.1, i) else none
def nkB (a : Option NameKind) (k : NameKind) : Bool := decide (a = some k)
def blkB (sc scope : Scope) : Bool := decide (scope.kind = .function) && (scope.names.all (fun y => nkB (scope.names.lookup y.1) y.2) &&
  scope.names.all fun y => !(decide (y.2 = .free)) || (nkB (sc.names.lookup y.1) .cell || nkB (sc.names.lookup y.1) .free))
def Cfg.blk (C : Cfg) (scope : Scope) : Cfg := { C with sc := relS scope C.sc, blkS := some scope, gen := false }
def Cfg.blkH (C : Cfg) (scope : Scope) : Cfg := { C.blk scope with exv := some (0, ⟨0, some []⟩) }
/-- sorted(x) -/
def srtA : Expr → Option Expr
  | .Call (.Name x _) [a] [] _ => if (x == ("sorted" : Str) && !isStar a) = true then some a else none
  | _ => none
structure Rd where
  E : Cfg → Expr → DE
  T : Cfg → Expr → DT
def rdI (r : Rd) (C : Cfg) (tg iter : Expr) : DI := match iter with
  | .Call (.Name x p) es [] pos => match C.isG x && C.g.free.contains x, es with
    | true, [a] => if x == ("range" : Str) then (if isStar a then iBad else iRng1D (rdA (r.E C) [a]))
      else if x == ("enumerate" : Str) then (if isStar a || !isTupE tg then iBad else iEnumD (rdA (r.E C) [a]))
      else if x == ("reversed" : Str) then (if isStar a then iBad else iRevD (r.E C a))
      else iSeq (r.E C (.Call (.Name x p) es [] pos))
    | true, [a, b] => if x == ("range" : Str) then (if isStar a || isStar b then iBad else iRng2D (rdA (r.E C) [a, b]))
      else if x == ("zip" : Str) then (if isStar a || isStar b || !isTupE tg then iBad else iZipD (rdA (r.E C) [a, b]))
      else iSeq (r.E C (.Call (.Name x p) es [] pos))
    | _, _ => iSeq (r.E C (.Call (.Name x p) es [] pos))
  | e => iSeq (r.E C e)
def rdIfs (T : Expr → DT) : List Expr → DT
  | [] => tYesD
  | [c] => T c
  | _ => cBadT
def rdLc (r : Rd) (C : Cfg) (elt : Expr) (gs : List Comprehension) (scope : Scope) : DE := match gs, C.exv with
  | [⟨tg, iter, ifs, a⟩], none => match decide (a = 0) && (blkB C.sc scope && ((rdG (C.blk scope) 5 tg).1.all (fun i => ((ownOf C.N scope.names).map (·.2)).contains i) && !isSet iter)) with
    | true => cLc (rdI r C tg iter) (rdG (C.blk scope) 5 tg).2 (rdIfs (r.T (C.blk scope)) ifs) (r.E (C.blk scope) elt) ((ownOf C.N scope.names).map (·.2))
    | false => cBad
  | [⟨tg, iter, ifs, a⟩, ⟨tg1, iter1, ifs1, a1⟩], none => match decide (a = 0) && (decide (a1 = 0) && (blkB C.sc scope && ((rdG (C.blk scope) 5 tg).1.all (fun i => ((ownOf C.N scope.names).map (·.2)).contains i) && ((rdG (C.blk scope) 5 tg1).1.all (fun i => ((ownOf C.N scope.names).map (·.2)).contains i) && (!isSet iter && !isSet iter1))))) with
    | true => cLc2 (rdI r C tg iter) (rdG (C.blk scope) 5 tg).2 (rdIfs (r.T (C.blk scope)) ifs) (rdI r (C.blk scope) tg1 iter1) (rdG (C.blk scope) 5 tg1).2 (rdIfs (r.T (C.blk scope)) ifs1) (r.E (C.blk scope) elt) ((ownOf C.N scope.names).map (·.2)) (rdG (C.blk scope) 5 tg1).1
    | false => cBad
  | [⟨tg, iter, [], a⟩], some _ => match srtA iter, decide (a = 0) && (C.isG ("sorted" : Str) && (C.g.free.contains ("sorted" : Str) && (blkB C.sc scope && ((rdG (C.blkH scope) 5 tg).1.all (fun i => ((ownOf C.N scope.names).map (·.2)).contains i))))) with
    | some b, true => cLc (iSrtD (r.E C b)) (rdG (C.blkH scope) 5 tg).2 tYesD (r.E (C.blkH scope) elt) ((ownOf C.N scope.names).map (·.2))
    | _, _ => cBad
  | _, _ => cBad
/-- len({elt for tg in iter}) -/
def lenScA : Expr → List Expr → List Keyword → Option (Expr × List Comprehension × Scope)
  | .Name x _, [.SetComp elt gs scope _], [] => if (x == ("len" : Str)) = true then some (elt, gs, scope) else none
  | _, _, _ => none
def rdLenSc (r : Rd) (C : Cfg) (elt : Expr) (gs : List Comprehension) (scope : Scope) : DE := match gs, C.exv with
  | [⟨tg, iter, [], a⟩], none => match decide (a = 0) && (C.isG ("len" : Str) && (C.g.free.contains ("len" : Str) && (blkB C.sc scope && ((rdG (C.blk scope) 5 tg).1.all (fun i => ((ownOf C.N scope.names).map (·.2)).contains i) && !isSet iter)))) with
    | true => cLenSc (rdI r C tg iter) (rdG (C.blk scope) 5 tg).2 (r.E (C.blk scope) elt) ((ownOf C.N scope.names).map (·.2))
    | false => cBad
  | _, _ => cBad
def rdE (r : Rd) (C : Cfg) : Expr → DE
  | .Constant c _ _ => match c with
    | .int i => cD (.int i)
    | .bool b => cD (.bl b)
    | .none => cD .non
    | .str s => cD (.str s)
    | _ => cBad
  | .Name x _ => rdName C x
  | .BinOp a op b _ => match opD op with
    | some f => cBin f (r.E C a) (r.E C b)
    | none => cBad
  | .UnaryOp .Not a _ => cNotV (r.E C a)
  | .UnaryOp .USub a _ => cNeg (r.E C a)
  | .BoolOp op vs _ => rdBV (r.E C) op vs
  | .IfExp t a b _ => cIfE (r.T C t) (r.E C a) (r.E C b)
  | .Compare a [op] [b] _ => if isSet b then cBad else cBin (cmpO C op (cmpX op b)) (r.E C a) (r.E C b)
  | .Compare a [op, op'] [b, c] _ => if isSet c then cBad else cChain (cmpD op) (cmpD op') (r.E C a) (r.E C b) (r.E C c)
  | .Compare a [op, op', op''] [b, c, d] _ => if isSet d then cBad else cChain3 (cmpD op) (cmpD op') (cmpD op'') (r.E C a) (r.E C b) (r.E C c) (r.E C d)
  | .Tuple es _ _ => cTup (rdA (r.E C) es)
  | .List es _ => cLst (rdA (r.E C) es)
  | .Subscript a b _ => match b with
    | .Slice lo hi st _ => match st with
      | none => cSl (r.E C a) (rdPart (r.E C) lo) (rdPart (r.E C) hi)
      | st => match lo, hi, isM1 st with
        | none, none, true => cRev (r.E C a)
        | _, _, _ => cBad
    | b => if isSlice b then cBad else cBin doIx (r.E C a) (r.E C b)
  | .Attribute o f _ => match isCall0 o, C.g.fld.lookup f with
    | false, some ix => cFld (r.E C o) ix
    | false, none => match C.g.prop.lookup f, C.exv with
      | some tb, none => cProp (r.E C o) (methTb C.lv tb)
      | _, _ => cBad
    | _, _ => cBad
  | .Dict [] [] _ => cDict0
  | .Dict [some a] [b] _ => cDict1 (r.E C a) (r.E C b)
  | .Call f es kws pos => match lenScA f es kws with
    | some (elt, gs, scope) => rdLenSc r C elt gs scope
    | none => rdCall3 (r.E C) C f es kws pos
  | .ListComp elt gs scope _ => rdLc r C elt gs scope
  | _ => cBad
def rdT (r : Rd) (C : Cfg) : Expr → DT
  | .UnaryOp .Not a _ => cNot (r.T C a)
  | .BoolOp op vs _ => rdB (r.T C) op vs
  | .Compare a [op] [b] _ => if isSet b then cBadT else cTst (cBin (cmpO C op (cmpX op b)) (r.E C a) (r.E C b))
  | .Compare a [op, op'] [b, c] _ => if isSet c then cBadT else cTst (cChain (cmpD op) (cmpD op') (r.E C a) (r.E C b) (r.E C c))
  | .Compare a [op, op', op''] [b, c, d] _ => if isSet d then cBadT else cTst (cChain3 (cmpD op) (cmpD op') (cmpD op'') (r.E C a) (r.E C b) (r.E C c) (r.E C d))
  | .Compare _ _ _ _ => cBadT
  | .IfExp _ _ _ _ => cBadT
  | e => cTru (r.E C e)
def rd : Nat → Rd
  | 0 => ⟨fun _ _ => cBad, fun _ _ => cBadT⟩
  | n + 1 => ⟨fun C e => rdE (rd n) C e, fun C e => rdT (rd n) C e⟩

/-! ### statements -/
def docS : Expr → Bool
  | .Constant (.str _) _ _ => true
  | _ => false
/-- a, b = x, y and a, b, c = x, y, z of plain local names -/
def sPar2 (i j : Nat) (t : DA) : DS := fun D e h => t e h (fun ds h1 => ∃ u v, ds = [u, v] ∧ D.nx ((e.set i (some u)).set j (some v)) h1) fun x h1 => D.ex x e h1
def sPar3 (i j l : Nat) (t : DA) : DS := fun D e h => t e h (fun ds h1 => ∃ u v w, ds = [u, v, w] ∧ D.nx (((e.set i (some u)).set j (some v)).set l (some w)) h1) fun x h1 => D.ex x e h1
def plainVs (sc : Scope) (vs : List Expr) : Bool := noStar vs && (decide (sc.kind = .function) && (!(vs.all (foldedForSure 8)) && !(vs.all (constantsAlone 8))))
def rdPar (r : Rd) (C : Cfg) (t v : Expr) : DS := match t, v, C.exv with
  | .Tuple [.Name x px, .Name y py] _ _, .Tuple [a, b] _ _, none => match ixOf C.N x, ixOf C.N y, (decide (C.kind x = some .local) && (decide (C.kind y = some .local) && (decide (py.line = px.line) && !(x == y)))) && plainVs C.sc [a, b] with
    | some i, some j, true => sPar2 i j (rdA (r.E C) [a, b])
    | _, _, _ => sBad
  | .Tuple [.Name x px, .Name y py, .Name z pz] _ _, .Tuple [a, b, c] _ _, none => match ixOf C.N x, ixOf C.N y, ixOf C.N z, (decide (C.kind x = some .local) && (decide (C.kind y = some .local) && (decide (C.kind z = some .local) && (decide (py.line = px.line) && (decide (pz.line = px.line) && (!(x == y) && (!(x == z) && !(y == z)))))))) && plainVs C.sc [a, b, c] with
    | some i, some j, some l, true => sPar3 i j l (rdA (r.E C) [a, b, c])
    | _, _, _, _ => sBad
  | _, _, _ => sBad
def rdAsg (r : Rd) (C : Cfg) (t v : Expr) : DS := match t with
  | .Name x p => match C.exv, isComp v, v with
    | _, false, _ => sAsg (r.E C v) (rdG C 1 (.Name x p)).2
    | none, true, .ListComp _ _ _ _ => match ixOf C.N x, C.kind x == some .local with
      | some i, true => sAsg (r.E C v) (gN i)
      | _, _ => match C.kind x == some .cell with
        | true => sAsg (r.E C v) (rdG C 1 (.Name x p)).2
        | false => sBad
    | _, _, _ => sBad
  | .Tuple _ _ _ => if isTupE v then rdPar r C t v else sAsg (r.E C v) (rdG C 5 t).2
  | .Attribute o f _ => match C.g.fld.lookup f, isCall0 o with
    | some ix, false => sFld (r.E C o) (r.E C v) ix
    | _, _ => sBad
  | .Subscript o i _ => if isSlice i then sBad else sSub (r.E C o) (r.E C i) (r.E C v)
  | _ => sBad
def rdRaise (r : Rd) (C : Cfg) (e : Expr) : DS := match e, C.exv with
  | .Call (.Name x _) es [] _, none => match C.isG x, C.g.exc.lookup x, noStar es with
    | true, some c, true => sRaise c (rdA (r.E C) es)
    | _, _, _ => sBad
  | _, _ => sBad
def rdAug (r : Rd) (C : Cfg) (t : Expr) (op : Operator) (v : Expr) : DS := match t with
  | .Attribute o f _ => match C.g.fld.lookup f, op with
    | some ix, .Add => sAugF (fun i j => i + j) (r.E C o) (r.E C v) ix
    | some ix, .Sub => sAugF (fun i j => i - j) (r.E C o) (r.E C v) ix
    | _, _ => sBad
  | .Name x _ => match ixOf C.N x, C.kind x == some .local, op with
    | some i, true, .Add => sAugN (fun i j => i + j) i (r.E C v)
    | some i, true, .Sub => sAugN (fun i j => i - j) i (r.E C v)
    | _, _, _ => sBad
  | _ => sBad
abbrev SsR := Cfg → List Stmt → DS
/-- an except clause -/
def rdCl (SS : SsR) (C : Cfg) : ExceptHandler → Option DCl
  | .ExceptHandler (some (.Name x _)) none (b :: bs) _ => match C.isG x, C.g.exk.lookup x with
    | true, some k => some (k, none, fun a dx => SS { C with exv := some (a, dx) } (b :: bs))
    | _, _ => none
  | .ExceptHandler (some (.Name x _)) (some n) (b :: bs) _ => match C.isG x, C.g.exk.lookup x, ixOf C.N n, C.kind n == some .local with
    | true, some k, some i, true => some (k, some i, fun a dx => SS { C with exv := some (a, dx) } (b :: bs))
    | _, _, _, _ => none
  | _ => none
def rdCls (SS : SsR) (C : Cfg) : List ExceptHandler → Option (List DCl)
  | [] => some []
  | h :: hs => match rdCl SS C h, rdCls SS C hs with
    | some q, some qs => some (q :: qs)
    | _, _ => none
def rdS (r : Rd) (SS : SsR) (C : Cfg) : Stmt → DS
  | .Expr v _ => match docS v with
    | true => sNext
    | false => match isComp v with
      | false => sDrop (r.E C v)
      | true => sBad
  | .Return v _ => match v with
    | some v => sRet (r.E C v)
    | none => sRetN
  | .If c x y _ => sIf (r.T C c) (SS C x) (SS C y)
  | .Assign [t] v _ => rdAsg r C t v
  | .AugAssign t op v _ => rdAug r C t op v
  | .Delete [.Subscript o i _] _ => sDelL (r.E C o) (r.E C i)
  | .While c b [] _ => sWhile (r.T C c) (SS C b)
  | .For t i b [] _ => match C.exv, isSet i with
    | none, false => sFor (rdI r C t i) (rdG C 5 t).2 (SS C b)
    | _, _ => sBad
  | .Raise (some e) none _ => rdRaise r C e
  | .Try b hs [] [] _ => match C.exv, rdCls SS C hs with
    | none, some (q :: qs) => sTry (SS C b) (q :: qs)
    | _, _ => sBad
  | .Pass _ => sNext
  | .Break _ => sBrk
  | .Continue _ => sCnt
  | _ => sBad
def stLn : Stmt → Nat
  | .For _ _ _ _ p => p.line
  | .If _ _ _ p => p.line
  | .Return _ p => p.line
  | .Assign _ _ p => p.line
  | .Expr _ p => p.line
  | _ => 0
def lkS (C : Cfg) (s : Stmt) (t : DS) : DS := match C.g.lk.contains (stLn s) with
  | true => sLk t
  | false => t
def rdSs (S : Cfg → Stmt → DS) (C : Cfg) : List Stmt → DS
  | [] => sNext
  | s :: r => match r with
    | [] => lkS C s (S C s)
    | _ :: _ => sSeq (lkS C s (S C s)) (rdSs S C r)
def rdSt (m : Nat) : Nat → SsR
  | 0 => fun _ _ => sBad
  | n + 1 => rdSs (rdS (rd m) (rdSt m n))
end DW

/-! DW, part 11: the readings are true (expressions). -/
namespace DW
open PySem L2 PySem.Spec PyProof.Rows

/-! ### what the tables say, up to the level j -/
/-- a callable of the module, positional -/
def CallG (G : Pg) (l : Nat) (x : Str) (s : DSp) : Prop := ∃ u, G.mg x = some u ∧ PySem.W.keepIn G.K u = true ∧ ∀ (X : Cx) (W : WX), Same5 G X → L2N.Takes X W → Room (l + 1) X.A → CallP G X W u s
def CallKG (G : Pg) (l : Nat) (x : Str) (ks : List Str) (s : DSp2) : Prop := ∃ u, G.mg x = some u ∧ PySem.W.keepIn G.K u = true ∧ ∀ (X : Cx) (W : WX), Same5 G X → L2N.Takes X W → Room (l + 1) X.A → CallKP G X W u ks s
def MethG (G : Pg) (l : Nat) (m : Str) (c : Nat) (s : DSp) : Prop := ∃ f, MethOk G m c f ∧ ∀ (X : Cx) (W : WX), Same5 G X → L2N.Takes X W → Room (l + 1) X.A → CallP G X W (.ref f) s
def PropG (G : Pg) (l : Nat) (m : Str) (c : Nat) (s : DSp) : Prop := ∃ (k : Nat) (f p : Addr) (fd : FuncData) (ps : List Str), Cls G.K (G.ca c) ∧ PropOf G.K (G.ca c) m p f ∧ FnOk G.P G.w G.K G.mg G.base (L2N.CX G.P G.w) k f fd ps (LSp G s) ∧ Binds G.K fd ps [] ∧ k ≤ l
/-- a class as a value: own (of the module), or built-in -/
def ClsN (G : Pg) (x : Str) (u : Value) : Prop := G.mg x = some u ∨ (G.mg x = none ∧ bootBuiltins x = some u ∧ x ≠ "__name__")
/-- .. a def, called while an exception is handled -/
def HotG (G : Pg) (l : Nat) (x : Str) (s : DSp) : Prop := ∃ u, G.mg x = some u ∧ PySem.W.keepIn G.K u = true ∧ ∀ (X : Cx) (W : WX), Same5 G X → L2N.Takes X W → L2H.HotC X → L2H.RoomH (l + 1) X.A → CallP G X W u s
def HotM (G : Pg) (l : Nat) (m : Str) (c : Nat) (s : DSp) : Prop := ∃ f, MethOk G m c f ∧ ∀ (X : Cx) (W : WX), Same5 G X → L2N.Takes X W → L2H.HotC X → L2H.RoomH (l + 1) X.A → CallP G X W (.ref f) s
structure GOk (G : Pg) (g : Gt) (j : Nat) : Prop where
  free : ∀ x, x ∈ g.free → G.mg x = none
  val : ∀ q ∈ g.val, ∃ v u, G.mg q.1 = some u ∧ L2.RelV v u ∧ ∀ H, Rep G.K H q.2 v
  call : ∀ q ∈ g.call, q.2.1 < j → CallG G q.2.1 q.1 q.2.2
  callK : ∀ q ∈ g.callK, q.2.1 < j → CallKG G q.2.1 q.1.1 q.1.2.2 q.2.2
  kit : ∀ q ∈ g.kit, ∃ (u : Value) (cv : V), ClsN G q.1 u ∧ L2.RelV cv u ∧ ClsV cv u ∧ KitOk G q.2 u ∧ ∀ c b, q.2 (.own c) = some b → InsOk G.K (G.ca c)
  exk : ∀ q ∈ g.exk, ∃ (u : Value) (cv : V), ClsN G q.1 u ∧ L2.RelV cv u ∧ ClsV cv u ∧ ∀ m b, q.2 m = some b → PySem.W.exmOne G.K (.ref (G.ca m)) u = some b ∧ PySem.W.kitOne G.K (.ref (G.ca m)) u = some b ∧ ExcC G.K (G.ca m)
  exc : ∀ q ∈ g.exc, G.mg q.1 = some (.ref (G.ca q.2)) ∧ RaiseOk G q.2
  fld : ∀ q ∈ g.fld, FldOk G q.1 q.2
  meth : ∀ q ∈ g.meth, ∀ z ∈ q.2, z.2.1 < j → MethG G z.2.1 q.1 z.1 z.2.2
  prop : ∀ q ∈ g.prop, ∀ z ∈ q.2, z.2.1 < j → PropG G z.2.1 q.1 z.1 z.2.2
  sm : ∀ c, (G.fn c).length < 1000
  hot : ∀ q ∈ g.hot, q.2.1 < j → HotG G q.2.1 q.1 q.2.2
  hotm : ∀ q ∈ g.hotm, ∀ z ∈ q.2, z.2.1 < j → HotM G z.2.1 q.1 z.1 z.2.2
theorem look_mem {κ α : Type} [BEq κ] [LawfulBEq κ] {k : κ} {a : α} : ∀ {l : List (κ × α)}, l.lookup k = some a → (k, a) ∈ l
  | [], h => by cases h
  | (b, u) :: r, h => by
    simp only [List.lookup] at h
    split at h
    · rename_i e
      cases h
      rw [beq_iff_eq.mp e]
      exact List.mem_cons_self
    · exact List.mem_cons_of_mem _ (look_mem h)
theorem ixOf_ok {N : List Str} {x : Str} {i : Nat} (h : ixOf N x = some i) : N[i]? = some x := by
  have m := look_mem h
  obtain ⟨k, hk, e⟩ := List.mem_iff_getElem.mp m
  simp at hk e
  obtain ⟨e1, e2⟩ := e
  subst e2
  exact List.getElem?_eq_some_iff.mpr ⟨hk, e1⟩
/-! ### what a context must be -/
structure EOk (G : Pg) (C : Cfg) (X : Cx) (W : WX) : Prop where
  S : Same5 G X
  g : GOk G C.g C.lv
  N : X.N = C.N
  nd : C.N.Nodup
  sc : X.env.scope = C.sc
  tk : L2N.Takes X W
  room : C.exv = none → Room C.lv X.A
  un : X.A.units + 65 < cLine
  calm : C.exv = none → X.calm = true
  fnT : ∀ x, C.own x = true → X.fn x = true
  ex : ∀ a x, C.exv = some (a, x) → x.fs = none → ExcC G.K (G.ca x.c) → CallR X (.builtin "isinstance") (rIsE X.K (G.ca x.c) a)
  hot : ∀ p, C.exv = some p → L2H.HotC X ∧ L2H.RoomH C.lv X.A
  gn : C.gen = true → ∃ c, X.env.code = .ref c ∧ GxR.TabB X.base X.mg c G.tab
section
variable {G : Pg} {C : Cfg} {X : Cx} {W : WX}
theorem EOk.gl (o : EOk G C X W) {x : Str} (h : C.isG x = true) : Gl X x ∧ (x == ("__debug__" : Str)) = false := by
  unfold Cfg.isG at h
  split at h
  · rename_i e
    refine ⟨?_, by simpa using h⟩
    show X.env.scope.names.lookup x = _
    rw [o.sc]; exact e
  · cases h
theorem EOk.free (o : EOk G C X W) {x : Str} (h : C.g.free.contains x = true) : X.mg x = none := by
  rw [o.S.mg]
  exact o.g.free x (by simpa using h)
theorem name_ok (o : EOk G C X W) {x : Str} {pos : Pos} : PE X (.Name x pos) (LE G W (rdName C x)) := by
  unfold rdName
  split
  · split
    · rename_i d e1 e2
      obtain ⟨hg, hd⟩ := o.gl e1
      obtain ⟨v, u, h1, h2, h3⟩ := o.g.val _ (look_mem e2)
      exact se_val (pe_glob hg (by rw [o.S.mg]; exact h1) h2 hd) h3
    · exact se_bad
  · exact se_bad
  · rename_i k n1 n2 hk
    split
    · rename_i i e1 e2
      rw [Bool.or_eq_false_iff] at e2
      refine se_var (by rw [o.N]; exact ixOf_ok e1) ?_ e2.1 e2.2
      unfold Vis
      rw [o.sc]
      have hk' : C.sc.names.lookup x = some k := hk
      rw [hk']
      cases k with
      | globalImplicit => exact absurd rfl n1
      | globalExplicit => exact absurd rfl n2
      | _ => simp
    · exact se_bad
  · exact se_bad
theorem args_ok {E : Expr → DE} (h : ∀ e, PE X e (LE G W (E e))) : ∀ es : List Expr, PA X es (LA G W (rdA E es))
  | [] => sa_nil
  | e :: es => by
    unfold rdA
    split
    · exact sa_bad
    · rename_i hs
      exact sa_cons (star_cons hs) (h e) (args_ok h es)
theorem kws_ok {E : Expr → DE} (h : ∀ e, PE X e (LE G W (E e))) : ∀ es : List Keyword, PK X es (LA G W (rdK E es))
  | [] => sk_nil
  | ⟨n, e, p⟩ :: es => sk_cons (h e) (kws_ok h es)
theorem boolV_ok {E : Expr → DE} {op : BoolOp} {pos : Pos} (h : ∀ e, PE X e (LE G W (E e))) : ∀ es : List Expr, PE X (.BoolOp op es pos) (LE G W (rdBV E op es))
  | [] => se_bad
  | [a] => pe_one (h a)
  | a :: b :: r => by
    have ih := boolV_ok (op := op) (pos := pos) h (b :: r)
    cases op with
    | And => exact se_and (h a) ih
    | Or => exact se_or (h a) ih
theorem bool_ok {T : Expr → DT} {op : BoolOp} {pos : Pos} (h : ∀ e, PT X e (LT G W (T e))) : ∀ es : List Expr, PW X (.BoolOp op es pos) (LT G W (rdB T op es))
  | [] => sw_bad
  | [a] => by
    cases op with
    | And => exact pw_and1 (h a)
    | Or => exact pw_or1 (h a)
  | a :: b :: r => by
    have ih := bool_ok (op := op) (pos := pos) h (b :: r)
    cases op with
    | And => exact pw_imp (pw_and (h a) ih) lt_and
    | Or => exact pw_imp (pw_or (h a) ih) lt_or
/-! operators -/
theorem op_ok {op : Operator} {f : DO} (e : opD op = some f) : ∃ r, OpR X (binaryOp op) r ∧ ∀ (hK : X.K = G.K), OpD G f r := by
  cases op <;> simp only [opD] at e <;> first | cases e | skip
  · exact ⟨_, op_addA, fun hK => by rw [hK]; exact od_add⟩
  · exact ⟨_, op_sub, fun hK => od_sub⟩
  · exact ⟨_, op_mulA, fun hK => od_mul⟩
  · exact ⟨_, op_mod, fun hK => od_mod⟩
  · exact ⟨_, op_pow, fun hK => od_pow⟩
  · exact ⟨_, op_fdivW, fun hK => od_div⟩
theorem cmp_ok (op : CmpOp) (hP : X.prog = G.P) (hw : X.w = G.w) (hu : X.A.units + 65 < cLine) : ∃ r, OpR X (compareOp op) r ∧ ∀ (hK : X.K = G.K), OpD G (cmpD op) r := by
  cases op
  · exact ⟨_, op_eqA (by omega), fun hK => by rw [hK]; exact od_eq⟩
  · exact ⟨_, op_neA (by omega), fun hK => by rw [hK]; exact od_ne⟩
  · exact ⟨_, op_lt.or (op_ltIB (by omega)), fun hK => by rw [hK]; exact od_lt⟩
  · exact ⟨_, op_le, fun hK => od_le⟩
  · exact ⟨_, op_gt, fun hK => od_gt⟩
  · exact ⟨_, op_ge, fun hK => od_ge⟩
  · exact ⟨_, op_isA, fun hK => od_is⟩
  · exact ⟨_, op_isNotA, fun hK => od_isNot⟩
  · exact ⟨_, op_inA hu, fun hK => by rw [hK, hP, hw]; exact od_in⟩
  · exact ⟨_, op_notInA hu, fun hK => by rw [hK, hP, hw]; exact od_notIn⟩
/-! built-ins -/
theorem blt_ok {x : Str} {b : DB} {e : Expr} {es : List Expr} {t : DA} {p pos : Pos} (hP : X.prog = G.P) (hw : X.w = G.w) (hK : X.K = G.K) (hc : X.calm = true) (hb : bDB x = some b) (hg : Gl X x) (hm : X.mg x = none) (hdb : (x == ("__debug__" : Str)) = false) (hns : noStar (e :: es) = true)
    (ha : PA X (e :: es) (LA G W t)) : PE X (.Call (.Name x p) (e :: es) [] pos) (LE G W (cB b t)) := by
  obtain ⟨h1, h2⟩ := noStar_cons hns
  have s1 := star_cons (es := es) (env := X.env) h1
  have s2 := star_any (pos := pos) (env := X.env) h2
  unfold bDB at hb
  split at hb
  · rename_i e; have e' := beq_iff_eq.mp e; subst e'; cases hb
    exact se_Ty call_int1 ob_int hg hm boot_int (by decide) hdb s1 s2 ha
  split at hb
  · rename_i e; have e' := beq_iff_eq.mp e; subst e'; cases hb
    exact se_B cr_lenA (by rw [hK]; exact ob_len) hg hm boot_len (by decide) hdb s1 s2 ha
  split at hb
  · rename_i e; have e' := beq_iff_eq.mp e; subst e'; cases hb
    exact se_Ty (cr_listA hc) (by rw [hK, hP, hw]; exact ob_list) hg hm boot_list (by decide) hdb s1 s2 ha
  split at hb
  · rename_i e; have e' := beq_iff_eq.mp e; subst e'; cases hb
    exact se_Ty call_tuple_of (by rw [hK]; exact ob_tuple) hg hm boot_tuple (by decide) hdb s1 s2 ha
  split at hb
  · rename_i e; have e' := beq_iff_eq.mp e; subst e'; cases hb
    exact se_B ((cr_maxT hc).or ((cr_max hc).or (call_max2 hc))) (by rw [hK]; exact ob_maxA) hg hm boot_max (by decide) hdb s1 s2 ha
  split at hb
  · rename_i e; have e' := beq_iff_eq.mp e; subst e'; cases hb
    exact se_B ((cr_min hc).or (call_min2 hc)) (by rw [hK]; exact ob_min) hg hm boot_min (by decide) hdb s1 s2 ha
  split at hb
  · rename_i e; have e' := beq_iff_eq.mp e; subst e'; cases hb
    exact se_B (cr_sum hc) (by rw [hK]; exact ob_sum) hg hm boot_sum (by decide) hdb s1 s2 ha
  split at hb
  · rename_i e; have e' := beq_iff_eq.mp e; subst e'; cases hb
    exact se_B (cr_all hc) (by rw [hK]; exact ob_all) hg hm boot_all (by decide) hdb s1 s2 ha
  split at hb
  · rename_i e; have e' := beq_iff_eq.mp e; subst e'; cases hb
    exact se_B (cr_any hc) (by rw [hK]; exact ob_any) hg hm boot_any (by decide) hdb s1 s2 ha
  split at hb
  · rename_i e; have e' := beq_iff_eq.mp e; subst e'; cases hb
    exact se_B (cr_sortedA hc) (by rw [hK]; exact ob_sortedA) hg hm boot_sorted (by decide) hdb s1 s2 ha
  split at hb
  · rename_i e; have e' := beq_iff_eq.mp e; subst e'; cases hb
    exact se_Ty call_dictA ob_dictA hg hm boot_dict (by decide) hdb s1 s2 ha
  · cases hb
theorem cmpX_ok (op : CmpOp) (b : Expr) (hP : X.prog = G.P) (hw : X.w = G.w) (hu : X.A.units + 65 < cLine) : ∃ rr, OpR X (compareOp op) rr ∧ (X.K = G.K → OpD G (cmpX op b) rr) := by
  unfold cmpX
  split
  · exact ⟨_, op_eq_dictA (by omega), fun _ => od_eq0⟩
  · exact ⟨_, op_ne_dictA (by omega), fun _ => od_ne0⟩
  · exact cmp_ok _ hP hw hu
theorem lenSetA_ok {f a : Expr} {es : List Expr} {kws : List Keyword} (e : lenSetA f es kws = some a) : ∃ p p2 q, f = .Name "len" p ∧ es = [.Call (.Name "set" p2) [a] [] q] ∧ kws = [] := by
  unfold lenSetA at e
  split at e
  · split at e
    · rename_i h
      rw [Bool.and_eq_true] at h
      cases e
      rw [beq_iff_eq.mp h.1, beq_iff_eq.mp h.2]
      exact ⟨_, _, _, rfl, rfl, rfl⟩
    · cases e
  · cases e
theorem keys_us {K : PySem.W.Frag} {H : Hp} : ∀ {kss : List (List Int)} {us : List V}, Reps K H (kss.map fun k => D.tup (k.map D.int)) us → ∃ ks : List (Addr × List Int), us = ks.map (fun p => V.ref p.1) ∧ ks.map (·.2) = kss ∧ ∀ p ∈ ks, SqT K H p.1 (p.2.map V.int)
  | [], us, rs => ⟨[], by rw [rs.nil_]; rfl, rfl, fun _ z => by cases z⟩
  | k :: kss, us, rs => by
    obtain ⟨v, r, rfl, h1, h2⟩ := Reps.cons_ rs
    obtain ⟨x, rfl, hx⟩ := ints_rep h1
    obtain ⟨ks, rfl, e, hk⟩ := keys_us h2
    refine ⟨(x, k) :: ks, rfl, by rw [List.map_cons, e], fun p hp => ?_⟩
    rcases List.mem_cons.mp hp with rfl | hp
    · exact hx
    · exact hk p hp
theorem se_lenS {a : Expr} {de : DE} {p p2 q pos : Pos} (hK : X.K = G.K) (hc : X.calm = true) (hu : X.A.units + 8 < cLine) (hg : Gl X "len") (hm : X.mg "len" = none) (hg2 : Gl X "set") (hm2 : X.mg "set" = none) (ha : PE X a (LE G W de)) (na : starEach [a] X.env = (false, eval a X.env) :: starEach [] X.env) :
    PE X (.Call (.Name "len" p) [.Call (.Name "set" p2) [a] [] q] [] pos) (LE G W (cLenSet de)) := by
  refine pe_imp (pe_lenS hc hu hg hm hg2 hm2 ha na) ?_
  rintro σ H Q ⟨en, h, P, R, re, rh, t, fin, x⟩
  refine LE.mk re rh t x fun d h1 v H1 t1 tl1 rh1 r1 re1 x1 => ?_
  rcases t1 with ⟨xs, ns, e1, e2, hl, q⟩ | ⟨kss, e1, nk, hl, q⟩
  · obtain ⟨l, us, rfl, s, rs⟩ := lstOf_ok rh1 r1 e1
    rw [intsD_eq e2] at rs
    rw [rs.ints_] at s
    exact .inl ⟨l, ns, rfl, by rw [hK]; exact s, hl, fin _ h1 _ H1 q tl1 rh1 rep_int⟩
  · obtain ⟨l, us, rfl, s, rs⟩ := lstOf_ok rh1 r1 e1
    obtain ⟨ks, rfl, e, hk⟩ := keys_us rs
    have el : ks.length = kss.length := by rw [← e, List.length_map]
    refine .inr ⟨l, ks, rfl, by rw [hK]; exact s, by rw [hK]; exact hk, by rw [e]; exact nk, by omega, ?_⟩
    rw [el]
    exact fin _ h1 _ H1 q tl1 rh1 rep_int
/-! isinstance -/
theorem cls_pe (o : EOk G C X W) {x : Str} {pos : Pos} {u : Value} {cv : V} (h : C.isG x = true) (c : ClsN G x u) (r : L2.RelV cv u) : PE X (.Name x pos) (tC cv) := by
  obtain ⟨hg, hd⟩ := o.gl h
  rcases c with c | ⟨c1, c2, c3⟩
  · exact pe_glob hg (by rw [o.S.mg]; exact c) r hd
  · exact pe_bltn hg (by rw [o.S.mg]; exact c1) c2 r c3 hd
theorem clsV_only {cv : V} {u : Value} (h : ClsV cv u) : ∀ z, L2.RelV cv z → z = u := fun z r => h.eq r
theorem se_isiX0 {ae ce : Expr} {da : DE} {p pos : Pos} {a : Addr} {cv : V} (hce : PE X ce (tC cv)) (ha : PE X ae (LE G W da))
    (hg : Gl X "isinstance") (hm : X.mg "isinstance" = none) (hs1 : starEach [ae, ce] X.env = (false, eval ae X.env) :: starEach [ce] X.env) (hs2 : starEach [ce] X.env = (false, eval ce X.env) :: starEach [] X.env) (hpl : (backTo pos (starEach [ce] X.env)).any (·.1) = false) :
    PE X (.Call (.Name "isinstance" p) [ae, ce] [] pos) (LE G W (cIsiX da a none)) := by
  refine pe_imp (pe_callB (r := fun _ _ _ => False) (fun _ _ _ _ _ _ _ _ _ z => z.elim) hg hm PyProof.Rows.boot_isinstance (pa_cons ha (pa_cons hce pa_nil hs2) hs1) (by decide) (by decide) hs1 hpl) ?_
  rintro σ H Q ⟨en, h, P, R, re, rh, t, fin, x⟩
  refine LE.mk re rh t x fun d h1 v H1 t1 tl1 rh1 r1 re1 x1 => ?_
  obtain ⟨e1, b, e2, q⟩ := t1
  cases e2
theorem isi_ok (o : EOk G C X W) {E : Expr → DE} (h : ∀ e, PE X e (LE G W (E e))) {a c : Expr} {p pos : Pos} : PE X (.Call (.Name "isinstance" p) [a, c] [] pos) (LE G W (rdIsi E C a c)) := by
  unfold rdIsi
  split
  · rename_i x px hs
    split
    · rename_i g1 g2 g3
      have nc : isStar (.Name x px) = false := rfl
      have s1 := star_cons (es := [.Name x px]) (env := X.env) hs
      have s2 := star_cons (es := []) (env := X.env) nc
      have s3 : (backTo pos (starEach [.Name x px] X.env)).any (·.1) = false := star_any rfl
      split
      · rename_i ad dx hex
        split
        · rename_i k hk
          obtain ⟨u, cv, c1, c2, c3, c4⟩ := o.g.exk _ (look_mem hk)
          cases hko' : exO k dx with
          | none => exact se_isiX0 (cls_pe o g1 c1 c2) (h a) (o.gl g2).1 (o.free g3) s1 s2 s3
          | some b =>
            have hfs : dx.fs = none ∧ k dx.c = some b := by
              unfold exO at hko'
              split at hko'
              · rename_i z; exact ⟨z, hko'⟩
              · cases hko'
            obtain ⟨hfs, hko⟩ := hfs
            obtain ⟨k1, k2, k3⟩ := c4 _ _ hko
            exact se_isiX (cv := cv) (u := u) (o.ex _ _ hex hfs k3) (fun b' e => by cases e; rw [o.S.K]; exact k2) (clsV_only c3) (cls_pe o g1 c1 c2) (h a) (o.gl g2).1 (o.free g3) s1 s2 s3
        · exact se_bad
      · split
        · rename_i k hk
          obtain ⟨u, cv, c1, c2, c3, c4, c5⟩ := o.g.kit _ (look_mem hk)
          exact se_isi o.S.K c5 c4 c3 (cls_pe o g1 c1 c2) (h a) (o.gl g2).1 (o.free g3) s1 s2 s3
        · exact se_bad
    · exact se_bad
  · exact se_bad
/-! ### own specials -/
/-- what a D operation says of values -/
def rOf (G : Pg) (f : DO) : R2 := fun x y H Q => ∃ h dx dy P, RH G H h ∧ Rep G.K H dx x ∧ Rep G.K H dy y ∧ f dx dy h P ∧ Fin2 G P H Q
theorem od_of {f : DO} : OpD G f (rOf G f) := fun H h x y v u P Q rh rx ry p fi => ⟨h, x, y, P, rh, rx, ry, p, fi⟩
def rBOf (G : Pg) (f : DB) : List V → Hp → VK → Prop := fun vs H Q => ∃ h ds P, RH G H h ∧ Reps G.K H ds vs ∧ f ds h P ∧ Fin2 G P H Q
theorem ob_of {f : DB} : OpB G f (rBOf G f) := fun H h ds vs P Q rh r q fi => ⟨h, ds, P, rh, r, q, fi⟩
abbrev W0 : WX := fun _ _ _ _ => False
theorem lx0 {σ : L2.St} {H : Hp} : LX G W0 σ H noXK := fun _ _ _ _ _ z => z.elim
/-- inside a built-in -/
abbrev cxIn (X : Cx) : Cx := { X with A := X.A.in1 }
theorem inv_in {pins : List (Addr × Obj)} {σ : L2.St} {H : Hp} {s : Shared} (I : Inv X pins σ H s) : Inv (cxIn X) pins σ H s :=
  ⟨⟨I.ok.mod, I.ok.kind, I.ok.glob, I.ok.blt, I.ok.above, I.ok.inj, I.ok.has, I.ok.cab, I.ok.hd, I.ok.frames, I.ok.stk, I.ok.exf, I.ok.bs, I.ok.bsz, I.ok.noex, I.ok.exfs, I.ok.funs, I.ok.frf⟩, I.os, I.bare, I.base, I.loc, I.cell, I.free, I.freeC, I.pin, I.hok, I.len⟩
theorem inv_out {pins : List (Addr × Obj)} {σ : L2.St} {H : Hp} {s : Shared} (I : Inv (cxIn X) pins σ H s) : Inv X pins σ H s :=
  ⟨⟨I.ok.mod, I.ok.kind, I.ok.glob, I.ok.blt, I.ok.above, I.ok.inj, I.ok.has, I.ok.cab, I.ok.hd, I.ok.frames, I.ok.stk, I.ok.exf, I.ok.bs, I.ok.bsz, I.ok.noex, I.ok.exfs, I.ok.funs, I.ok.frf⟩, I.os, I.bare, I.base, I.loc, I.cell, I.free, I.freeC, I.pin, I.hok, I.len⟩
/-- a special's callee, at this level -/
def SpcG (G : Pg) (X : Cx) (m : Str) (q : Nat × DSp) : Prop := ∃ f, MethOk G m q.1 f ∧ CallP G X W0 (.ref f) q.2
theorem ins_at {pins : List (Addr × Obj)} {σ : L2.St} {H : Hp} {s : Shared} {h : DH} {p : Addr} {c : Nat} {fs : List D} (I : Inv X pins σ H s) (rh : RH G H h) (e : h p = some (.ins c fs)) : ∃ (dx : Addr) (od : Obj), PySem.W.InstAt s.heap p (PySem.W.instObj (G.ca c) dx) (G.ca c) (some od) := by
  obtain ⟨dx, ws, e1, _⟩ := rh _ _ e
  obtain ⟨m, J, _⟩ := ins_get I.hok e1
  obtain ⟨od, J, _⟩ := J.look
  exact ⟨dx, od, J⟩
theorem or_inO {g : Bool → Bool} {op : CmpOp} {f : DO} {r : R2} {tb : List (Nat × DSp)} (hop : op = .In ∧ g = id ∨ op = .NotIn ∧ g = not) (hK : X.K = G.K) (hr : OpR X (compareOp op) r) (od : OpD G f r) (ht : ∀ q ∈ tb, SpcG G X ("__contains__" : Str) q) : OpR X (compareOp op) (rOf G (oIn tb g f)) := by
  intro pins s σ H x y v u Q I rx ry ⟨h, dx, dy, P, rh, r1, r2, q, fi⟩
  rcases q with q | ⟨q, hq, p, fs, e1, e2, q3⟩
  · exact hr pins s σ H x y v u Q I rx ry (od H h dx dy x y P Q rh r1 r2 q fi)
  · subst e1
    obtain ⟨f, M, hc⟩ := ht q hq
    have mt := M.mt
    rw [← hK] at mt
    have ey := r2.ref_
    subst ey
    cases (show u = Value.ref p from ry)
    obtain ⟨dx', od', J⟩ := ins_at I rh e2
    obtain ⟨m, hF⟩ := I.fr
    have run := hc pins s σ H [.ref p, dx] [.ref p, x] [.ref p, v] h _ _ (fun w H' => ∃ b, w = .bl b ∧ Q (.bl (g b)) H') I (.cons rfl (.cons rx .nil)) (reps_cons rep_ref (reps_cons r1 reps_nil)) rh q3 (fun d' h' v' H' hp tl rh' rep => by
      obtain ⟨b, eb, pb⟩ := hp
      subst eb
      exact ⟨b, rep.bl_, fi _ h' _ H' pb tl rh' rep_bl⟩) lx0
    rcases hop with ⟨rfl, rfl⟩ | ⟨rfl, rfl⟩
    · refine PySem.W.in_K hF I.ok.mod.kin J mt.at_ mt.fn (wpAny_mono run (fun w s' z => ?_) fun _ _ z => z)
      obtain ⟨v', H', I', rv, b, eb, qb⟩ := z
      subst eb
      cases (show w = Value.bool b from rv)
      exact wpAny_truthy_bool ⟨.bl b, H', I', rfl, qb⟩
    · refine PySem.W.notIn_K hF I.ok.mod.kin J mt.at_ mt.fn (wpAny_mono run (fun w s' z => ?_) fun _ _ z => z)
      obtain ⟨v', H', I', rv, b, eb, qb⟩ := z
      subst eb
      cases (show w = Value.bool b from rv)
      exact wpAny_truthy_bool ⟨.bl (!b), H', I', rfl, qb⟩
theorem cr_lenO {r : List V → Hp → VK → Prop} {tb : List (Nat × DSp)} (hK : X.K = G.K) (hr : CallR X (.builtin "len") r) (ob : OpB G bLen r) (ht : ∀ q ∈ tb, SpcG G (cxIn X) ("__len__" : Str) q) : CallR X (.builtin "len") (rBOf G (bLenO tb)) := by
  intro pins s σ H xs us Q I r1 ⟨h, ds, P, rh, r2, q, fi⟩
  rcases q with q | ⟨q, hq, p, fs, e1, e2, q3⟩
  · exact hr pins s σ H xs us Q I r1 (ob H h ds xs P Q rh r2 q fi)
  · subst e1
    obtain ⟨f, M, hc⟩ := ht q hq
    have mt := M.mt
    rw [← hK] at mt
    obtain ⟨v, rfl, rv⟩ := r2.one
    have ey := rv.ref_
    subst ey
    rw [Vals.ref1 r1]
    obtain ⟨dx', od', J⟩ := ins_at I rh e2
    obtain ⟨m, hF⟩ := I.fr
    have run := hc pins s σ H [.ref p] [.ref p] [.ref p] h _ _ (fun w H' => ∃ n, w = .int n ∧ (0 ≤ n ∧ n < 2 ^ 63) ∧ Q (.int n) H') (inv_in I) (.cons rfl .nil) (reps_cons rep_ref reps_nil) rh q3 (fun d' h' v' H' hp tl rh' rep => by
      obtain ⟨n, eb, nb, pb⟩ := hp
      subst eb
      exact ⟨n, rep.int_, nb, fi _ h' _ H' pb tl rh' rep_int⟩) lx0
    refine PySem.W.len_K hF I.ok.mod.kin J mt.at_ mt.fn (wpAny_mono run (fun w s' z => ?_) fun _ _ z => z)
    obtain ⟨v', H', I', rv, n, eb, nb, qb⟩ := z
    subst eb
    obtain ⟨t, e⟩ := (show ∃ t, w = Value.int n t from rv)
    subst e
    exact ⟨nb, .int n, H', (inv_out I').tok _, ⟨_, rfl⟩, qb⟩
theorem or_eqO {f : DO} {r : R2} {tb : List (Nat × DSp)} (hu : X.A.units < cLine) (hK : X.K = G.K) (hr : OpR X (compareOp .Eq) r) (od : OpD G f r) (ht : ∀ q ∈ tb, SpcG G X ("__eq__" : Str) q) : OpR X (compareOp .Eq) (rOf G (oEq tb f)) := by
  intro pins s σ H x y v u Q I rx ry ⟨h, dx, dy, P, rh, r1, r2, q, fi⟩
  rcases q with q | ⟨q, hq, p, fs, e1, e2, oky, q3⟩
  · exact hr pins s σ H x y v u Q I rx ry (od H h dx dy x y P Q rh r1 r2 q fi)
  · subst e1
    obtain ⟨f, M, hc⟩ := ht q hq
    have mt := M.mt
    rw [← hK] at mt
    have ey := r1.ref_
    subst ey
    cases (show v = Value.ref p from rx)
    obtain ⟨dx', od', J⟩ := ins_at I rh e2
    obtain ⟨m, hF⟩ := I.fr
    have run := hc pins s σ H [.ref p, dy] [.ref p, y] [.ref p, u] h _ _ (fun w H' => ∃ b, w = .bl b ∧ Q (.bl b) H') I (.cons rfl (.cons ry .nil)) (reps_cons rep_ref (reps_cons r2 reps_nil)) rh q3 (fun d' h' v' H' hp tl rh' rep => by
      obtain ⟨b, eb, pb⟩ := hp
      subst eb
      exact ⟨b, rep.bl_, fi _ h' _ H' pb tl rh' rep_bl⟩) lx0
    have tail : ∀ tbv, PySem.W.Looks (model X.prog X.w) s.heap (typeOf u) tbv → PySem.W.notFirst X.K (G.ca q.1) tbv = true → wpAny (model X.prog X.w) X.A (compareOp .Eq (.ref p) u) (EP X pins σ Q) X.xe s := fun tbv hb hn => by
      show wpAny (model X.prog X.w) X.A (richCompare .Eq (.ref p) u) (EP X pins σ Q) X.xe s
      refine PySem.W.cmp_K (op := .Eq) hu hF I.ok.mod.kin J hb hn mt.at_ mt.fn (wpAny_mono run (fun w s' z => ?_) fun _ _ z => z)
      obtain ⟨v', H', I', rv, b, eb, qb⟩ := z
      subst eb
      cases (show w = Value.bool b from rv)
      exact ⟨.bl b, H', I', rfl, qb⟩
    cases dy with
    | int i =>
      have e := r2.int_
      subst e
      obtain ⟨t, e⟩ := (show ∃ t, u = Value.int i t from ry)
      subst e
      exact tail (.type "int") (.of_pure rfl) rfl
    | tup ds =>
      obtain ⟨a, vs, rfl, hs, _⟩ := r2.tup_
      cases (show u = Value.ref a from ry)
      have hs' : SqT X.K H a vs := by rw [hK]; exact hs
      obtain ⟨its, rv, hT, _⟩ := I.tuple hs'
      obtain ⟨o, ho, hc', _⟩ := hT
      refine tail (.type "tuple") ((PySem.W.Looks.ld (part := none) ho).andThen ?_) rfl
      rw [hc']
      exact .now
    | ref p' =>
      have e := r2.ref_
      subst e
      cases (show u = Value.ref p' from ry)
      have oky' : (match h p' with
        | some (.ins c' _) => c' = q.1
        | _ => False) := oky
      split at oky'
      · rename_i c' fs' e3
        subst oky'
        obtain ⟨dx2, od2, J2⟩ := ins_at I rh e3
        exact tail _ J2.type (by unfold PySem.W.notFirst; simp)
      · exact oky'.elim
    | _ => exact oky.elim
theorem or_neO {f : DO} {r : R2} {tb : List (Nat × DSp)} (hu : X.A.units + 1 < cLine) (hK : X.K = G.K) (hr : OpR X (compareOp .NotEq) r) (od : OpD G f r) (ht : ∀ q ∈ tb, SpcG G (cxIn X) ("__eq__" : Str) q) : OpR X (compareOp .NotEq) (rOf G (oNe tb f)) := by
  intro pins s σ H x y v u Q I rx ry ⟨h, dx, dy, P, rh, r1, r2, q, fi⟩
  rcases q with q | ⟨q, hq, p, fs, p', fs', e1, e2, e3, e4, q3⟩
  · exact hr pins s σ H x y v u Q I rx ry (od H h dx dy x y P Q rh r1 r2 q fi)
  · subst e1
    subst e3
    obtain ⟨f, M, hc⟩ := ht q hq
    have mt := M.mt
    obtain ⟨n1, n2⟩ := M.ne rfl
    rw [← hK] at mt n1 n2
    have ey := r1.ref_
    subst ey
    cases (show v = Value.ref p from rx)
    have ey := r2.ref_
    subst ey
    cases (show u = Value.ref p' from ry)
    obtain ⟨dx', od', J⟩ := ins_at I rh e2
    obtain ⟨dx2, od2, J2⟩ := ins_at I rh e4
    obtain ⟨m, hF⟩ := I.fr
    have run := hc pins s σ H [.ref p, .ref p'] [.ref p, .ref p'] [.ref p, .ref p'] h _ _ (fun w H' => ∃ b, w = .bl b ∧ Q (.bl (!b)) H') (inv_in I) (.cons rfl (.cons rfl .nil)) (reps_cons rep_ref (reps_cons rep_ref reps_nil)) rh q3 (fun d' h' v' H' hp tl rh' rep => by
      obtain ⟨b, eb, pb⟩ := hp
      subst eb
      exact ⟨b, rep.bl_, fi _ h' _ H' pb tl rh' rep_bl⟩) lx0
    refine ne_K hu hF I.ok.mod.kin J J2.type n2 n1 mt.at_ mt.fn (wpAny_mono run (fun w s' z => ?_) fun _ _ z => z)
    obtain ⟨v', H', I', rv, b, eb, qb⟩ := z
    subst eb
    cases (show w = Value.bool b from rv)
    exact ⟨b, rfl, .bl (!b), H', inv_out I', rfl, qb⟩
end
end DW

/-! DW, part 12: the readings are true (calls, targets, comprehensions, all expressions). -/
namespace DW
open PySem L2 PySem.Spec PyProof.Rows
section
variable {G : Pg} {C : Cfg} {X : Cx} {W : WX}
theorem EOk.mono {j k : Nat} {A : Around} (r : Room k A) (h : j ≤ k) : Room j A := r.mono h
theorem methTb_mem {lv : Nat} {tb : List (Nat × Nat × DSp)} {q : Nat × DSp} (h : q ∈ methTb lv tb) : ∃ l, (q.1, l, q.2) ∈ tb ∧ l < lv := by
  unfold methTb at h
  obtain ⟨z, hz, rfl⟩ := List.mem_map.mp h
  obtain ⟨h1, h2⟩ := List.mem_filter.mp hz
  exact ⟨z.2.1, h1, Nat.blt_eq.mp h2 |> fun x => x⟩
theorem kws_all {pos : Pos} {env : Env} : ∀ {kws : List Keyword}, kwAll kws = true → (backToKw pos (keywordEach kws env)).all (·.1.isSome) = true ∧ (backToKw pos (keywordEach kws env)).filterMap (·.1) = ksOf kws ∧ (backToKw pos (keywordEach kws env)).any (·.1.isNone) = false
  | [], _ => ⟨rfl, rfl, rfl⟩
  | ⟨n, e, p⟩ :: r, h => by
    have h2 : (n.isSome && kwAll r) = true := h
    rw [Bool.and_eq_true] at h2
    obtain ⟨i1, i2, i3⟩ := kws_all (pos := pos) (env := env) h2.2
    cases n with
    | none => exact absurd h2.1 (by decide)
    | some x =>
      refine ⟨?_, ?_, ?_⟩
      · show (true && (backToKw pos (keywordEach r env)).all (·.1.isSome)) = true
        rw [i1]; rfl
      · show x :: (backToKw pos (keywordEach r env)).filterMap (·.1) = x :: ksOf r
        rw [i2]
      · show (false || (backToKw pos (keywordEach r env)).any (·.1.isNone)) = false
        rw [i3]; rfl
theorem dm_ok {m : Str} {T : String} {f : DM} (hP : X.prog = G.P) (hw : X.w = G.w) (hK : X.K = G.K) (hu : X.A.units + 1 < cLine) (e : mDM m = some (T, f)) : ∃ id r, PlainAttrs T ∧ Slot T m id ∧ typeOf (.builtin id) = pure (.type "method_descriptor") ∧ MtR X id r ∧ OpM G f r := by
  unfold mDM at e
  split at e
  · rename_i hm
    have hm' := beq_iff_eq.mp hm
    subst hm'
    cases e
    exact ⟨_, _, PySem.F.plainAttrs_list, PySem.F.slot_list_append, PySem.F.type_list_append, mt_append, om_append⟩
  split at e
  · rename_i hm
    have hm' := beq_iff_eq.mp hm
    subst hm'
    cases e
    exact ⟨_, _, PySem.F.plainAttrs_dict, PySem.F.slot_dict_get, PySem.F.type_dict_get, mt_get hu, by rw [hP, hw, hK]; exact om_get⟩
  split at e
  · rename_i hm
    have hm' := beq_iff_eq.mp hm
    subst hm'
    cases e
    exact ⟨_, _, PySem.F.plainAttrs_list, PySem.F.slot_list_extend, PySem.F.type_list_extend, mt_extend, om_extend⟩
  split at e
  · rename_i hm
    have hm' := beq_iff_eq.mp hm
    subst hm'
    cases e
    exact ⟨_, _, PySem.F.plainAttrs_list, PySem.F.slot_list_pop, PySem.F.type_list_pop, mt_popLA, om_popL⟩
  split at e
  · rename_i hm
    have hm' := beq_iff_eq.mp hm
    subst hm'
    cases e
    exact ⟨_, _, PySem.F.plainAttrs_list, PySem.F.slot_list_index, PySem.F.type_list_index, mt_index, by rw [hK]; exact om_indexI⟩
  split at e
  · rename_i hm
    have hm' := beq_iff_eq.mp hm
    subst hm'
    cases e
    exact ⟨_, _, PySem.F.plainAttrs_dict, PySem.F.slot_dict_setdefault, PySem.F.type_dict_setdefault, mt_setD hu, om_setD⟩
  · cases e
theorem meth_ok {m : Str} {T : String} {f : DM} {o : Expr} {es : List Expr} {ap pos : Pos} {to : DE} {t : DA} (hP : X.prog = G.P) (hww : X.w = G.w) (hK : X.K = G.K) (hu : X.A.units + 1 < cLine) (e : mDM m = some (T, f)) (h0 : isCall0 o = false) (hl : (ap.endLine == pos.line) = true) (hn : es.length < 30) (hs : noStar es = true)
    (ho : PE X o (LE G W to)) (ha : PA X es (LA G W t)) (ht : es = [] → t = cNil) : PE X (.Call (.Attribute o m ap) es [] pos) (LE G W (cM T f to t)) := by
  obtain ⟨id, r, m1, m2, m3, m4, m5⟩ := dm_ok (X := X) (G := G) hP hww hK hu e
  cases es with
  | nil =>
    rw [ht rfl]
    exact se_m0 hK m5 m1 m2 m3 m4 ho (ab_plain h0) hl
  | cons e es =>
    obtain ⟨h1, h2⟩ := noStar_cons hs
    refine se_m hK m5 m1 m2 m3 m4 ho ha (ab_plain h0) ?_ hl (star_cons h1) (star_any h2)
    rw [star_all hs]
    simp only [keywordEach, backToKw, List.map_nil, List.all_nil, Bool.true_and, Bool.and_true]
    have : (e :: es).length + ([] : List Keyword).length + (if ([] : List Keyword).isEmpty then 0 else 1) < 30 := by simpa using hn
    exact decide_eq_true this
theorem meth2_ok {m : Str} {T : String} {f : DM} {o : Expr} {es : List Expr} {ap pos : Pos} {to : DE} {t : DA} (hP : X.prog = G.P) (hww : X.w = G.w) (hK : X.K = G.K) (hu : X.A.units + 1 < cLine) (e : mDM m = some (T, f)) (h0 : isCall0 o = false) (hl : (ap.endLine == pos.line) = true) (hn : es.length < 30) (hs : noStar es = true)
    (ho : PE X o (LE G W to)) (ha : PA X es (LA G W t)) (ht : es = [] → t = cNil) : PE X (.Call (.Attribute o m ap) es [] pos) (LE G W (mDM2 m T f to t)) := by
  unfold mDM2
  split
  · rename_i hm
    have hm' := beq_iff_eq.mp hm
    subst hm'
    have e2 : mDM "pop" = some ("list", mPopL) := rfl
    rw [e2] at e
    cases e
    refine se_orE (meth_ok hP hww hK hu e2 h0 hl hn hs ho ha ht) ?_
    cases es with
    | nil =>
      rw [ht rfl]
      exact se_m0 hK om_popD PySem.F.plainAttrs_dict PySem.F.slot_dict_pop PySem.F.type_dict_pop mt_popD ho (ab_plain h0) hl
    | cons e es =>
      obtain ⟨h1, h2⟩ := noStar_cons hs
      refine se_m hK om_popD PySem.F.plainAttrs_dict PySem.F.slot_dict_pop PySem.F.type_dict_pop mt_popD ho ha (ab_plain h0) ?_ hl (star_cons h1) (star_any h2)
      rw [star_all hs]
      simp only [keywordEach, backToKw, List.map_nil, List.all_nil, Bool.true_and, Bool.and_true]
      have : (e :: es).length + ([] : List Keyword).length + (if ([] : List Keyword).isEmpty then 0 else 1) < 30 := by simpa using hn
      exact decide_eq_true this
  · exact meth_ok hP hww hK hu e h0 hl hn hs ho ha ht
/-- a call of a method, as it runs -/
theorem meth_ev {o : Expr} {m : Str} {es : List Expr} {ap pos : Pos} {env : Env} (h0 : isCall0 o = false) (hl : (ap.endLine == pos.line) = true) (hs : noStar es = true) (hn : es.length < 30) : eval (.Call (.Attribute o m ap) es [] pos) env = (do
      let recv ← eval o env
      standAt ap.atName
      let (fn, own) ← holding [recv] (getMethod recv m (do return (← importBound o env).getD true))
      callWith pos fn own (backTo pos (starEach es env)) (backToKw pos (keywordEach [] env))) := by
  show (do
    let ov ← attributeBase o m env (eval o env)
    standAt ap.atName
    methodCall o m ap pos env ov (es.length + 0) (backTo pos (starEach es env)) (backToKw pos (keywordEach [] env))) = _
  rw [ab_plain h0]
  have few : methodCallForm (es.length + 0) (backTo pos (starEach es env)) (backToKw pos (keywordEach [] env)) = true := by
    unfold methodCallForm
    rw [star_all hs]
    show (true && true && decide (es.length + 0 + 0 < 30)) = true
    rw [decide_eq_true (by omega)]; rfl
  unfold methodCall calleeOf methodCallPos
  rw [few]
  simp only [if_true, Bool.not_true, Bool.false_or, hl, pure_bind]
theorem call_ok (o : EOk G C X W) {E : Expr → DE} (h : ∀ e, PE X e (LE G W (E e))) {f : Expr} {es : List Expr} {kws : List Keyword} {pos : Pos} : PE X (.Call f es kws pos) (LE G W (rdCall E C f es kws pos)) := by
  unfold rdCall
  split
  · rename_i x px
    split
    · exact se_bad
    · rename_i hgx
      obtain ⟨hg, hd⟩ := o.gl hgx
      split
      · rename_i pv l s he hl
        split
        · rename_i b1 b2
          obtain ⟨u, c1, c2, c3⟩ := o.g.hot _ (look_mem hl) (Nat.blt_eq.mp b1)
          have lv : l + 1 ≤ C.lv := Nat.blt_eq.mp b1
          obtain ⟨ht1, ht2⟩ := o.hot _ he
          have cp := c3 X W o.S o.tk ht1 (ht2.mono lv)
          cases es with
          | nil => exact se_call0 hg (by rw [o.S.mg]; exact c1) (by rw [o.S.K]; exact c2) cp hd
          | cons e es =>
            obtain ⟨h1, h2⟩ := noStar_cons b2
            exact se_call hg (by rw [o.S.mg]; exact c1) (by rw [o.S.K]; exact c2) cp (args_ok h _) hd (star_cons h1) (star_any h2)
        · exact se_bad
      split
      · rename_i l s hl he
        split
        · rename_i b1 b2
          obtain ⟨u, c1, c2, c3⟩ := o.g.call _ (look_mem hl) (Nat.blt_eq.mp b1)
          have lv : l + 1 ≤ C.lv := Nat.blt_eq.mp b1
          have cp := c3 X W o.S o.tk ((o.room he).mono lv)
          cases es with
          | nil => exact se_call0 hg (by rw [o.S.mg]; exact c1) (by rw [o.S.K]; exact c2) cp hd
          | cons e es =>
            obtain ⟨h1, h2⟩ := noStar_cons b2
            exact se_call hg (by rw [o.S.mg]; exact c1) (by rw [o.S.K]; exact c2) cp (args_ok h _) hd (star_cons h1) (star_any h2)
        · exact se_bad
      · split
        · rename_i l s he hl
          split
          · rename_i b1 b2
            obtain ⟨u, c1, c2, c3⟩ := o.g.callK _ (look_mem hl) (Nat.blt_eq.mp b1)
            have lv : l + 1 ≤ C.lv := Nat.blt_eq.mp b1
            have cp := c3 X W o.S o.tk ((o.room he).mono lv)
            cases es with
            | nil => exact se_callK0 hg (by rw [o.S.mg]; exact c1) (by rw [o.S.K]; exact c2) cp sk_nil hd rfl rfl rfl
            | cons e es =>
              obtain ⟨h1, h2⟩ := noStar_cons b2
              refine se_callK hg (by rw [o.S.mg]; exact c1) (by rw [o.S.K]; exact c2) cp (args_ok h _) sk_nil hd (star_cons h1) rfl rfl ?_
              rw [star_any b2]; rfl
          · exact se_bad
        · split
          · rename_i hf hi hno
            have hx := beq_iff_eq.mp hi
            subst hx
            exact isi_ok o h
          · rename_i e r hf hi hno
            split
            · rename_i b hb he hs
              exact blt_ok o.S.P o.S.w o.S.K (o.calm he) hb hg (o.free hf) hd hs (args_ok h _)
            · exact se_bad
          · exact se_bad
  · rename_i x px k ks
    split
    · rename_i l s hgx he hl
      obtain ⟨hg, hd⟩ := o.gl hgx
      split
      · rename_i b1 b2 b3
        obtain ⟨u, c1, c2, c3⟩ := o.g.callK _ (look_mem hl) (Nat.blt_eq.mp b1)
        have lv : l + 1 ≤ C.lv := Nat.blt_eq.mp b1
        have cp := c3 X W o.S o.tk ((o.room he).mono lv)
        obtain ⟨k1, k2, k3⟩ := kws_all (pos := pos) (env := X.env) b3
        cases es with
        | nil =>
          refine se_callK0 hg (by rw [o.S.mg]; exact c1) (by rw [o.S.K]; exact c2) cp (kws_ok h _) hd k1 k2 ?_
          rw [k3]; rfl
        | cons e es =>
          obtain ⟨h1, h2⟩ := noStar_cons b2
          refine se_callK hg (by rw [o.S.mg]; exact c1) (by rw [o.S.K]; exact c2) cp (args_ok h _) (kws_ok h _) hd (star_cons h1) k1 k2 ?_
          rw [star_any b2, k3]; rfl
      · exact se_bad
    · exact se_bad
  · rename_i ob m ap
    split
    · rename_i tb hs he hm
      split
      · rename_i b2 b3 b4
        refine pe_some (f := fun q : Nat × DSp => cMeth1 (E ob) q.1 q.2 (rdA E es)) fun q hq => ?_
        obtain ⟨l, hl, lt⟩ := methTb_mem hq
        obtain ⟨fa, M, c3⟩ := o.g.meth _ (look_mem hm) _ hl lt
        have cp := c3 X W o.S o.tk ((o.room he).mono lt)
        have ev := meth_ev (m := m) (env := X.env) b2 b3 hs (Nat.blt_eq.mp b4)
        cases es with
        | nil => exact se_meth0 o.S.K M cp (h ob) ev
        | cons e es =>
          obtain ⟨h1, h2⟩ := noStar_cons hs
          exact se_meth1 o.S.K M cp (h ob) (args_ok h _) (star_cons h1) (star_any h2) ev
      · exact se_bad
    · rename_i p0 tb0 hs he hm
      split
      · rename_i tb hm2 b2 b3 b4
        refine pe_some (f := fun q : Nat × DSp => cMeth1 (E ob) q.1 q.2 (rdA E es)) fun q hq => ?_
        obtain ⟨l, hl, lt⟩ := methTb_mem hq
        obtain ⟨fa, M, c3⟩ := o.g.hotm _ (look_mem hm2) _ hl lt
        obtain ⟨ht1, ht2⟩ := o.hot _ he
        have cp := c3 X W o.S o.tk ht1 (ht2.mono lt)
        have ev := meth_ev (m := m) (env := X.env) b2 b3 hs (Nat.blt_eq.mp b4)
        cases es with
        | nil => exact se_meth0 o.S.K M cp (h ob) ev
        | cons e es =>
          obtain ⟨h1, h2⟩ := noStar_cons hs
          exact se_meth1 o.S.K M cp (h ob) (args_ok h _) (star_cons h1) (star_any h2) ev
      · exact se_bad
    · rename_i he hm
      split
      · rename_i T f b1 b2 b3 b4
        exact meth2_ok o.S.P o.S.w o.S.K (by have := o.un; omega) b1 b2 b3 (Nat.blt_eq.mp b4) he (h ob) (args_ok h es) (fun e => by rw [e]; rfl)
      · exact se_bad
    · exact se_bad
  · exact se_bad

/-! ### targets -/
theorem tgt_ok (o : EOk G C X W) (n : Nat) : (∀ e, PG X e (LG G (rdG C n e).1 (rdG C n e).2)) ∧ ∀ es, noStar es = true → PGs X es (LGs G (rdG.go C n es).1 (rdG.go C n es).2) := by
  have many : ∀ n, (∀ e, PG X e (LG G (rdG C n e).1 (rdG C n e).2)) → ∀ es, noStar es = true → PGs X es (LGs G (rdG.go C n es).1 (rdG.go C n es).2) := by
    intro n h es
    induction es with
    | nil => intro _; unfold rdG.go; exact sgs_nil
    | cons e es ih =>
      intro hs
      obtain ⟨h1, h2⟩ := noStar_cons hs
      unfold rdG.go
      exact sgs_cons (asg_cons h1) (h e) (ih h2)
  have one : ∀ n e, PG X e (LG G (rdG C n e).1 (rdG C n e).2) := by
    intro n
    induction n with
    | zero => intro e; unfold rdG; exact sg_bad
    | succ n ih =>
      intro e
      unfold rdG
      split
      · rename_i x p
        split
        · rename_i i e1 e2
          unfold Cfg.asg at e2
          rw [Bool.or_eq_true, Bool.and_eq_true] at e2
          rcases e2 with e2 | ⟨e2, e3⟩
          · have e2' : C.sc.names.lookup x = some .local := beq_iff_eq.mp e2
            rw [← o.sc] at e2'
            exact sg_name (by rw [o.N]; exact o.nd) (by rw [o.N]; exact ixOf_ok e1) (.inl e2') (.inr e2')
          · have e2' : C.sc.names.lookup x = some .cell := beq_iff_eq.mp e2
            rw [← o.sc] at e2'
            exact sg_name (by rw [o.N]; exact o.nd) (by rw [o.N]; exact ixOf_ok e1) (.inr e2') (.inl (o.fnT x e3))
        · exact sg_bad
      · rename_i es k p
        split
        · rename_i hs he
          exact sg_tup o.S.K (o.calm he) (many n ih es hs) asg_len (asg_star hs)
        · exact sg_bad
      · exact sg_bad
  exact ⟨one n, many n (one n)⟩

/-! ### comprehensions -/
theorem ixOf_none {N : List Str} {x : Str} (h : ixOf N x = none) : x ∉ N := by
  intro m
  obtain ⟨k, hk, e⟩ := List.mem_iff_getElem.mp m
  have hz : (x, k) ∈ N.zip (List.range N.length) := by
    refine List.mem_iff_getElem.mpr ⟨k, by simpa using hk, ?_⟩
    simp [e]
  have key : ∀ {l : List (Str × Nat)}, (x, k) ∈ l → l.lookup x ≠ none := by
    intro l
    induction l with
    | nil => intro m; cases m
    | cons q r ih =>
      intro m
      simp only [List.lookup]
      split
      · intro z; cases z
      · rename_i hb
        rcases List.mem_cons.mp m with e | m
        · rw [← e] at hb
          simp at hb
        · exact ih m
  exact key hz h
theorem blk_ok (hN : X.N = C.N) (hsc : X.env.scope = C.sc) {scope : Scope} (h : blkB C.sc scope = true) : BlkOk X.N X.env.scope scope (ownOf C.N scope.names) := by
  unfold blkB at h
  rw [Bool.and_eq_true, Bool.and_eq_true] at h
  obtain ⟨h1, h2, h3⟩ := h
  refine ⟨of_decide_eq_true h1, fun y hy => of_decide_eq_true (List.all_eq_true.mp h2 y hy), fun p hp => ?_, fun y hy e => ?_, fun y hy e => ?_⟩
  · unfold ownOf at hp
    obtain ⟨q, _, e⟩ := List.mem_filterMap.mp hp
    split at e
    · obtain ⟨i, e1, rfl⟩ := Option.map_eq_some_iff.mp e
      rw [hN]
      exact ixOf_ok e1
    · cases e
  · have := List.all_eq_true.mp h3 y hy
    rw [hsc]
    rw [decide_eq_true e] at this
    have this' : (nkB (C.sc.names.lookup y.1) .cell || nkB (C.sc.names.lookup y.1) .free) = true := this
    rw [Bool.or_eq_true] at this'
    exact this'.imp of_decide_eq_true of_decide_eq_true
  · cases hx : ixOf C.N y.1 with
    | none => exact .inr (by rw [hN]; exact ixOf_none hx)
    | some i =>
      refine .inl (List.mem_map.mpr ⟨(y.1, i), List.mem_filterMap.mpr ⟨y, hy, ?_⟩, rfl⟩)
      have hk : isOwnK y.2 = true := by rcases e with e | e <;> rw [e] <;> rfl
      rw [if_pos hk, hx]; rfl
theorem rel_eq {scope : Scope} {env : Env} : relabel scope env = relS scope env.scope := rfl
theorem EOk.blk (o : EOk G C X W) (he : C.exv = none) (scope : Scope) (s : Shared) (H : Hp) (A : Addr) (cl : List (Str × Addr)) (fp : List Addr) : EOk G (C.blk scope) (X.blk s H scope (compEnvC scope cl A X.env) fp) (fun _ _ _ _ => False) where
  S := ⟨o.S.K, o.S.P, o.S.w, o.S.mg, o.S.base⟩
  g := o.g
  N := o.N
  nd := o.nd
  sc := by
    show relabel scope X.env = relS scope C.sc
    rw [rel_eq, o.sc]
  tk := takesN
  room := o.room
  un := o.un
  calm := o.calm
  fnT := fun x h => h
  ex := fun a x e => by
    have e' : C.exv = some (a, x) := e
    rw [he] at e'
    cases e'
  hot := fun p e => by
    have e' : C.exv = some p := e
    rw [he] at e'
    cases e'
  gn := fun e => Bool.noConfusion (show false = true from e)
theorem EOk.blkH (o : EOk G C X W) {p : Addr × DX} (he : C.exv = some p) (scope : Scope) (s : Shared) (H : Hp) (A : Addr) (cl : List (Str × Addr)) (fp : List Addr) : EOk G (C.blkH scope) (Cx_blkH X s H scope (compEnvC scope cl A X.env) fp) (fun _ _ _ _ => False) where
  S := ⟨o.S.K, o.S.P, o.S.w, o.S.mg, o.S.base⟩
  g := o.g
  N := o.N
  nd := o.nd
  sc := by
    show relabel scope X.env = relS scope C.sc
    rw [rel_eq, o.sc]
  tk := takesN
  room := fun e => nomatch (show some ((0 : Addr), (⟨0, some []⟩ : DX)) = none from e)
  un := o.un
  calm := fun e => nomatch (show some ((0 : Addr), (⟨0, some []⟩ : DX)) = none from e)
  fnT := fun x h => h
  ex := fun a x e hn => by
    have e' : some ((0 : Addr), (⟨0, some []⟩ : DX)) = some (a, x) := e
    cases e'
    cases hn
  hot := fun q _ => o.hot p he
  gn := fun e => Bool.noConfusion (show false = true from e)
/-- what is true of a pair of readings -/
structure RdOk (r : Rd) : Prop where
  E : ∀ {G : Pg} {C : Cfg} {X : Cx} {W : WX}, EOk G C X W → ∀ e, PE X e (LE G W (r.E C e))
  T : ∀ {G : Pg} {C : Cfg} {X : Cx} {W : WX}, EOk G C X W → ∀ e, PT X e (LT G W (r.T C e))
theorem iter_ok {r : Rd} (ro : RdOk r) (o : EOk G C X W) (tg iter : Expr) : PI X tg iter (LI G W (rdI r C tg iter)) := by
  have pl : ∀ e, PI X tg e (LI G W (iSeq (r.E C e))) := fun e => si_seq o.S.K (ro.E o e)
  have as : ∀ es, PA X es (LA G W (rdA (r.E C) es)) := args_ok (ro.E o)
  unfold rdI
  split
  · rename_i x p es pos
    split
    · rename_i a hh
      rw [Bool.and_eq_true] at hh
      obtain ⟨hg, hd⟩ := o.gl hh.1
      have hm := o.free hh.2
      split
      · rename_i hx; have hx' := beq_iff_eq.mp hx; subst hx'
        split
        · exact si_bad
        · rename_i hs
          exact si_rng1 hg hm (star_cons (by simpa using hs)) (as _)
      split
      · rename_i hx; have hx' := beq_iff_eq.mp hx; subst hx'
        split
        · exact si_bad
        · rename_i hs
          simp only [Bool.or_eq_true, not_or, Bool.not_eq_true, Bool.not_eq_false'] at hs
          cases tg <;> first | (exfalso; exact Bool.false_ne_true hs.2) | skip
          exact si_enum o.S.K hg hm (star_cons hs.1) (as _)
      split
      · rename_i hx; have hx' := beq_iff_eq.mp hx; subst hx'
        split
        · exact si_bad
        · rename_i hs
          exact si_rev o.S.K hg hm (star_cons (by simpa using hs)) (ro.E o a)
      · exact pl _
    · rename_i a b hh
      rw [Bool.and_eq_true] at hh
      obtain ⟨hg, hd⟩ := o.gl hh.1
      have hm := o.free hh.2
      split
      · rename_i hx; have hx' := beq_iff_eq.mp hx; subst hx'
        split
        · exact si_bad
        · rename_i hs
          simp only [Bool.or_eq_true, not_or, Bool.not_eq_true] at hs
          refine si_rng2 hg hm ?_ (star_cons hs.2) (as _)
          rw [star_cons hs.1, star_cons hs.2]; rfl
      split
      · rename_i hx; have hx' := beq_iff_eq.mp hx; subst hx'
        split
        · exact si_bad
        · rename_i hs
          simp only [Bool.or_eq_true, not_or, Bool.not_eq_true, Bool.not_eq_false'] at hs
          cases tg <;> first | (exfalso; exact Bool.false_ne_true hs.2) | skip
          refine si_zip o.S.K hg hm (star_cons hs.1.1) (star_any ?_) (as _)
          show (!isStar b && true) = true
          rw [hs.1.2]; rfl
      · exact pl _
    · exact pl _
  · exact pl _
theorem lt_yes : ∀ σ H Q, LT G W tYesD σ H Q → tYes σ H Q := by
  rintro σ H Q ⟨e, h, P, R, re, rh, t, fin, x⟩
  exact fin true h H t (TupLe.refl H) rh
theorem ifs_ok {T : Expr → DT} (h : ∀ e, PT X e (LT G W (T e))) : ∀ ifs : List Expr, PTs X ifs (LT G W (rdIfs T ifs))
  | [] => ⟨fun pins s σ H Q I l => pts_nil.run pins s σ H Q I (lt_yes σ H Q l)⟩
  | [c] => pts_one (h c)
  | a :: b :: r => ⟨fun _ _ _ _ _ _ ⟨_, _, _, _, _, _, z, _⟩ => z.elim⟩
/-- what a list comprehension's reading says -/
theorem lc_parts {r : Rd} (ro : RdOk r) (o : EOk G C X W) (hx : C.exv = none) {elt : Expr} {gs : List Comprehension} {scope : Scope} : rdLc r C elt gs scope = cBad ∨ (∃ tg iter ifs, gs = [⟨tg, iter, ifs, 0⟩] ∧ C.exv = none ∧ BlkOk X.N X.env.scope scope (ownOf C.N scope.names) ∧ (∀ i ∈ (rdG (C.blk scope) 5 tg).1, i ∈ (ownOf C.N scope.names).map (·.2)) ∧ isSet iter = false ∧
    rdLc r C elt gs scope = cLc (rdI r C tg iter) (rdG (C.blk scope) 5 tg).2 (rdIfs (r.T (C.blk scope)) ifs) (r.E (C.blk scope) elt) ((ownOf C.N scope.names).map (·.2))) ∨
    ∃ tg iter ifs tg1 iter1 ifs1, gs = [⟨tg, iter, ifs, 0⟩, ⟨tg1, iter1, ifs1, 0⟩] ∧ C.exv = none ∧ BlkOk X.N X.env.scope scope (ownOf C.N scope.names) ∧ (∀ i ∈ (rdG (C.blk scope) 5 tg).1, i ∈ (ownOf C.N scope.names).map (·.2)) ∧ (∀ i ∈ (rdG (C.blk scope) 5 tg1).1, i ∈ (ownOf C.N scope.names).map (·.2)) ∧ isSet iter = false ∧ isSet iter1 = false ∧
    rdLc r C elt gs scope = cLc2 (rdI r C tg iter) (rdG (C.blk scope) 5 tg).2 (rdIfs (r.T (C.blk scope)) ifs) (rdI r (C.blk scope) tg1 iter1) (rdG (C.blk scope) 5 tg1).2 (rdIfs (r.T (C.blk scope)) ifs1) (r.E (C.blk scope) elt) ((ownOf C.N scope.names).map (·.2)) (rdG (C.blk scope) 5 tg1).1 := by
  unfold rdLc
  split
  · rename_i tg iter ifs a he
    split
    · rename_i hh
      rw [Bool.and_eq_true, Bool.and_eq_true, Bool.and_eq_true] at hh
      obtain ⟨h0, h1, h2, h3⟩ := hh
      have h0' := of_decide_eq_true h0
      subst h0'
      exact .inr (.inl ⟨tg, iter, ifs, rfl, he, blk_ok o.N o.sc h1, fun i hi => by simpa using List.all_eq_true.mp h2 i hi, by simpa using h3, rfl⟩)
    · exact .inl rfl
  · rename_i tg iter ifs a tg1 iter1 ifs1 a1 he
    split
    · rename_i hh
      rw [Bool.and_eq_true, Bool.and_eq_true, Bool.and_eq_true, Bool.and_eq_true, Bool.and_eq_true, Bool.and_eq_true] at hh
      obtain ⟨h0, h0b, h1, h2, h2b, h3, h3b⟩ := hh
      have h0' := of_decide_eq_true h0
      have h0b' := of_decide_eq_true h0b
      subst h0' h0b'
      exact .inr (.inr ⟨tg, iter, ifs, tg1, iter1, ifs1, rfl, he, blk_ok o.N o.sc h1, fun i hi => by simpa using List.all_eq_true.mp h2 i hi, fun i hi => by simpa using List.all_eq_true.mp h2b i hi, by simpa using h3, by simpa using h3b, rfl⟩)
    · exact .inl rfl
  · rename_i q he
    rw [hx] at he
    cases he
  · exact .inl rfl
theorem srtA_ok {e b : Expr} (h : srtA e = some b) : ∃ p pos, e = .Call (.Name ("sorted" : Str) p) [b] [] pos ∧ isStar b = false := by
  unfold srtA at h
  split at h
  · split at h
    · rename_i c
      rw [Bool.and_eq_true, Bool.not_eq_true'] at c
      cases h
      rw [beq_iff_eq.mp c.1]
      exact ⟨_, _, rfl, c.2⟩
    · cases h
  · cases h
theorem lc_hot {r : Rd} (ro : RdOk r) (o : EOk G C X W) {p : Addr × DX} (hx : C.exv = some p) {elt : Expr} {gs : List Comprehension} {scope : Scope} {pos : Pos} : PE X (.ListComp elt gs scope pos) (LE G W (rdLc r C elt gs scope)) := by
  unfold rdLc
  split
  · rename_i he
    rw [hx] at he
    cases he
  · rename_i he
    rw [hx] at he
    cases he
  · rename_i tg iter a q he
    split
    · rename_i b hb hh
      simp only [Bool.and_eq_true] at hh
      obtain ⟨h0, h1, h2, h3, h4⟩ := hh
      have h0' := of_decide_eq_true h0
      subst h0'
      obtain ⟨p1, pos1, rfl, sb⟩ := srtA_ok hb
      obtain ⟨hg, _⟩ := o.gl h1
      have hm := o.free h2
      obtain ⟨ht1, _⟩ := o.hot _ hx
      exact pe_imp (pe_lcH (fun σ H Q z => lt_yes (G := G) (W := fun _ _ _ _ => False) σ H Q z) ht1 (by rw [o.N]; exact o.nd) (si_srtH o.S.K ht1 hg hm (star_cons sb) (by have z := args_ok (ro.E o) [b]; simpa only [rdA, sb] using z)) (blk_ok o.N o.sc h3) (fun s H A cl fp => (tgt_ok (o.blkH hx scope s H A cl fp) 5).1 tg)
        (fun s H A cl fp => ro.E (o.blkH hx scope s H A cl fp) elt) fun x => set_plain rfl) (le_lc fun i hi => by simpa using List.all_eq_true.mp h4 i hi)
    · exact se_bad
  · exact se_bad
theorem lc_ok {r : Rd} (ro : RdOk r) (o : EOk G C X W) {elt : Expr} {gs : List Comprehension} {scope : Scope} {pos : Pos} : PE X (.ListComp elt gs scope pos) (LE G W (rdLc r C elt gs scope)) := by
  cases hx : C.exv with
  | some p => exact lc_hot ro o hx
  | none =>
  rcases lc_parts (elt := elt) (gs := gs) (scope := scope) ro o hx with e | ⟨tg, iter, ifs, rfl, he, hb, hS, hi, e⟩ | ⟨tg, iter, ifs, tg1, iter1, ifs1, rfl, he, hb, hS, hS1, hi, hi1, e⟩
  · rw [e]; exact se_bad
  · rw [e]
    exact se_lc (o.calm he) (by rw [o.N]; exact o.nd) hS (iter_ok ro o tg iter) hb (fun s H A cl fp => (tgt_ok (o.blk he scope s H A cl fp) 5).1 tg) (fun s H A cl fp => ifs_ok (ro.T (o.blk he scope s H A cl fp)) ifs)
      (fun s H A cl fp => ro.E (o.blk he scope s H A cl fp) elt) fun x => set_plain hi
  · rw [e]
    exact se_lc2 (o.calm he) (by rw [o.N]; exact o.nd) hS (fun _ z => z) hS1 (iter_ok ro o tg iter) hb (fun s H A cl fp => (tgt_ok (o.blk he scope s H A cl fp) 5).1 tg) (fun s H A cl fp => ifs_ok (ro.T (o.blk he scope s H A cl fp)) ifs)
      (fun s H A cl fp => iter_ok ro (o.blk he scope s H A cl fp) tg1 iter1) (fun s H A cl fp => (tgt_ok (o.blk he scope s H A cl fp) 5).1 tg1) (fun s H A cl fp => ifs_ok (ro.T (o.blk he scope s H A cl fp)) ifs1)
      (fun s H A cl fp => ro.E (o.blk he scope s H A cl fp) elt) (fun x => set_plain hi) fun env x => set_plain hi1
/-! ### all expressions -/
theorem part_ok {E : Expr → DE} (h : ∀ e, PE X e (LE G W (E e))) (lo : Option Expr) : (lo = none ∧ rdPart E lo = cNoPart) ∨ ∃ e d, lo = some e ∧ rdPart E lo = cPart d ∧ PE X e (LE G W d) := by
  cases lo with
  | none => exact .inl ⟨rfl, rfl⟩
  | some e => exact .inr ⟨e, E e, rfl, rfl, h e⟩
theorem spc_ok (o : EOk G C X W) {m : Str} {tb : List (Nat × Nat × DSp)} (e : C.g.meth.lookup m = some tb) (he : C.exv = none) : ∀ q ∈ methTb C.lv tb, SpcG G X m q := fun q hq => by
  obtain ⟨l, hl, lt⟩ := methTb_mem hq
  obtain ⟨f, M, c⟩ := o.g.meth _ (look_mem e) _ hl lt
  exact ⟨f, M, c X W0 o.S takesN ((o.room he).mono lt)⟩
theorem spc_in (o : EOk G C X W) {m : Str} {tb : List (Nat × Nat × DSp)} (e : C.g.meth.lookup m = some tb) (he : C.exv = none) : ∀ q ∈ methTb (C.lv - 1) tb, SpcG G (cxIn X) m q := fun q hq => by
  obtain ⟨l, hl, lt⟩ := methTb_mem hq
  have lt' : l < C.lv - 1 := lt
  obtain ⟨f, M, c⟩ := o.g.meth _ (look_mem e) _ hl (show l < C.lv by omega)
  refine ⟨f, M, c (cxIn X) W0 ⟨o.S.K, o.S.P, o.S.w, o.S.mg, o.S.base⟩ takesN ?_⟩
  exact Room.in1 (k := l + 1) ((o.room he).mono (by omega))
theorem spc_hot (o : EOk G C X W) {m : Str} {tb : List (Nat × Nat × DSp)} (e : C.g.hotm.lookup m = some tb) {p : Addr × DX} (he : C.exv = some p) : ∀ q ∈ methTb (C.lv - 1) tb, SpcG G (cxIn X) m q := fun q hq => by
  obtain ⟨l, hl, lt⟩ := methTb_mem hq
  have lt' : l < C.lv - 1 := lt
  obtain ⟨f, M, c⟩ := o.g.hotm _ (look_mem e) _ hl (show l < C.lv by omega)
  obtain ⟨⟨p, h1, h2⟩, rm⟩ := o.hot _ he
  have r2 : L2H.RoomH (l + 1) (cxIn X).A := ⟨by have := rm.dp; show X.A.depth + 3 * (l + 1) + 5 < _; omega, by have := rm.un; show X.A.units + 1 + 16 * (l + 1) + 200 < _; omega⟩
  exact ⟨f, M, c (cxIn X) W0 ⟨o.S.K, o.S.P, o.S.w, o.S.mg, o.S.base⟩ takesN ⟨p, h1, h2⟩ r2⟩
theorem cmpO_ok (o : EOk G C X W) (op : CmpOp) (b : Expr) : ∃ rr, OpR X (compareOp op) rr ∧ OpD G (cmpO C op (cmpX op b)) rr := by
  obtain ⟨rr, h1, h2⟩ := cmpX_ok (G := G) (X := X) op b o.S.P o.S.w o.un
  have h2' := h2 o.S.K
  have hu := o.un
  unfold cmpO
  split
  · rename_i he
    split
    · rename_i tb e
      exact ⟨_, or_eqO (by omega) o.S.K h1 h2' (spc_ok o e he), od_of⟩
    · exact ⟨rr, h1, h2'⟩
  · rename_i he
    split
    · rename_i tb e
      exact ⟨_, or_neO (by omega) o.S.K h1 h2' (spc_in o e he), od_of⟩
    · exact ⟨rr, h1, h2'⟩
  · rename_i he
    split
    · rename_i tb e
      exact ⟨_, or_inO (.inl ⟨rfl, rfl⟩) o.S.K h1 h2' (spc_ok o e he), od_of⟩
    · exact ⟨rr, h1, h2'⟩
  · rename_i he
    split
    · rename_i tb e
      exact ⟨_, or_inO (.inr ⟨rfl, rfl⟩) o.S.K h1 h2' (spc_ok o e he), od_of⟩
    · exact ⟨rr, h1, h2'⟩
  · exact ⟨rr, h1, h2'⟩
theorem call2_ok (o : EOk G C X W) {E : Expr → DE} (h : ∀ e, PE X e (LE G W (E e))) {f : Expr} {es : List Expr} {kws : List Keyword} {pos : Pos} : PE X (.Call f es kws pos) (LE G W (rdCall2 E C f es kws pos)) := by
  unfold rdCall2
  split
  · rename_i a ea
    obtain ⟨p, p2, q, rfl, rfl, rfl⟩ := lenSetA_ok ea
    split
    · rename_i hb he
      simp only [Bool.and_eq_true, Bool.not_eq_true'] at hb
      obtain ⟨b1, b2, b3, b4, b5⟩ := hb
      exact se_lenS o.S.K (o.calm he) (by have := o.un; omega) (o.gl b1).1 (o.free b2) (o.gl b3).1 (o.free b4) (h a) (star_cons b5)
    · exact se_bad
  · split
    · rename_i a tb e
      have e2 : ∃ p, f = .Name "len" p ∧ es = [a] ∧ kws = [] ∧ ∀ q ∈ methTb (C.lv - 1) tb, SpcG G (cxIn X) ("__len__" : Str) q := by
        unfold ownLen at e
        split at e
        · rename_i x px a'
          split at e
          · rename_i tb' hx hm he
            cases e
            rw [beq_iff_eq.mp hx]
            exact ⟨_, rfl, rfl, rfl, spc_in o hm he⟩
          · rename_i ad hx he
            split at e
            · rename_i tb' hm
              cases e
              rw [beq_iff_eq.mp hx]
              exact ⟨_, rfl, rfl, rfl, spc_hot o hm he⟩
            · cases e
          · cases e
        · cases e
      obtain ⟨p, rfl, rfl, rfl, hsp⟩ := e2
      split
      · rename_i hb
        simp only [Bool.and_eq_true, Bool.not_eq_true'] at hb
        obtain ⟨b1, b2, b3⟩ := hb
        exact se_B (cr_lenO o.S.K cr_lenA (by rw [o.S.K]; exact ob_len) hsp) ob_of (o.gl b1).1 (o.free b2) boot_len (by decide) (o.gl b1).2 (star_cons b3) rfl (args_ok h _)
      · exact se_bad
    · exact call_ok o h
def SpOk (f : Expr) (es : List Expr) (pos : Pos) : SpF → Prop
  | .set0 => ∃ p, f = .Name "set" p ∧ es = []
  | .items e => ∃ p ap cp, f = .Name "list" p ∧ es = [.Call (.Attribute e "items" ap) [] [] cp] ∧ (ap.endLine == cp.line) = true
  | .add o e => ∃ ap, f = .Attribute o "add" ap ∧ es = [e] ∧ (ap.endLine == pos.line) = true
theorem spF_ok {f : Expr} {es : List Expr} {kws : List Keyword} {pos : Pos} {z : SpF} (h : spF f es kws pos = some z) : kws = [] ∧ SpOk f es pos z := by
  unfold spF at h
  split at h
  · split at h
    · rename_i hb
      have hb' := beq_iff_eq.mp hb
      subst hb'
      cases h
      exact ⟨rfl, _, rfl, rfl⟩
    · cases h
  · split at h
    · rename_i hb
      rw [Bool.and_eq_true, Bool.and_eq_true] at hb
      obtain ⟨b1, b2, b3⟩ := hb
      have b1' := beq_iff_eq.mp b1
      have b2' := beq_iff_eq.mp b2
      subst b1' b2'
      cases h
      exact ⟨rfl, _, _, _, rfl, rfl, b3⟩
    · cases h
  · split at h
    · rename_i hb
      rw [Bool.and_eq_true] at hb
      obtain ⟨b1, b3⟩ := hb
      have b1' := beq_iff_eq.mp b1
      subst b1'
      cases h
      exact ⟨rfl, _, rfl, rfl, b3⟩
    · cases h
  · cases h
theorem callI_ok (o : EOk G C X W) {E : Expr → DE} (h : ∀ e, PE X e (LE G W (E e))) {f : Expr} {es : List Expr} {kws : List Keyword} {pos : Pos} : PE X (.Call f es kws pos) (LE G W (rdCallI E C f es kws pos)) := by
  unfold rdCallI
  split
  · rename_i ea
    obtain ⟨rfl, p, rfl, rfl⟩ := spF_ok ea
    split
    · rename_i hb
      rw [Bool.and_eq_true] at hb
      exact se_set0 o.S.P o.S.w (o.gl hb.1).1 (o.free hb.2)
    · exact se_bad
  · rename_i e ea
    obtain ⟨rfl, p, ap, cp, rfl, rfl, hl⟩ := spF_ok ea
    split
    · rename_i hb he _
      simp only [Bool.and_eq_true, Bool.not_eq_true'] at hb
      obtain ⟨b1, b2, b3⟩ := hb
      exact se_items (o.calm he) (h e) (o.gl b1).1 (o.free b2) (ab_plain b3) hl (star_cons rfl)
    · exact call2_ok o h
  · rename_i ob e ea
    obtain ⟨rfl, ap, rfl, rfl, hl⟩ := spF_ok ea
    split
    · rename_i hb _
      rw [Bool.and_eq_true, Bool.not_eq_true', Bool.not_eq_true'] at hb
      obtain ⟨b1, b2⟩ := hb
      refine se_sadd o.S.P o.S.w (h ob) (args_ok h _) (ab_plain b1) ?_ hl (star_cons b2) rfl
      rw [star_all (by unfold noStar; simp [b2])]
      rfl
    · exact call2_ok o h
  · exact call2_ok o h
theorem fold_plain {iter : Expr} {env : Env} {x : Value} (h : notLS iter = true) : genFold iter env x = pure x := by
  cases iter <;> first | rfl | cases h
theorem sumGA_ok {f : Expr} {es : List Expr} {kws : List Keyword} {i : Int} {x : Str} {it : Expr} {sc : Scope} (h : sumGA f es kws = some (i, x, it, sc)) :
    ∃ p0 p1 j p2 p3 px gpos, f = .Name "sum" p0 ∧ es = [.GeneratorExp (.Subscript (.Name x p1) (.Constant (.int i) j p2) p3) [⟨.Name x px, it, [], 0⟩] sc gpos] ∧ kws = [] := by
  unfold sumGA at h
  split at h
  · split at h
    · rename_i hb
      simp only [Bool.and_eq_true, decide_eq_true_eq, beq_iff_eq] at hb
      obtain ⟨rfl, rfl, rfl⟩ := hb
      cases h
      exact ⟨_, _, _, _, _, _, _, rfl, rfl, rfl⟩
    · cases h
  · cases h
theorem genS_ok {sc : Scope} {x : Str} {env : Env} (h : genSB sc x = true) : GxR.GenS env sc x ∧ (x == ("__debug__" : Str)) = false := by
  unfold genSB genSB.nkB0 at h
  simp only [Bool.and_eq_true, decide_eq_true_eq, Bool.not_eq_true', List.all_eq_true, decide_eq_false_iff_not] at h
  obtain ⟨h1, h2, h3, h4, h5, h6⟩ := h
  exact ⟨⟨h1, h2, fun y hy => (h3 y hy).1, h4, h5, fun y hy e => ((h3 y hy).2 e).elim⟩, h6⟩
theorem call3_ok (o : EOk G C X W) {E : Expr → DE} (h : ∀ e, PE X e (LE G W (E e))) {f : Expr} {es : List Expr} {kws : List Keyword} {pos : Pos} : PE X (.Call f es kws pos) (LE G W (rdCall3 E C f es kws pos)) := by
  unfold rdCall3
  split
  · rename_i i x it sc ea
    obtain ⟨p0, p1, j, p2, p3, px, gpos, rfl, rfl, rfl⟩ := sumGA_ok ea
    split
    · rename_i hb he hgn
      simp only [Bool.and_eq_true, decide_eq_true_eq] at hb
      obtain ⟨b1, b2, b3, b4, b5, b6⟩ := hb
      obtain ⟨c, hcode, TB⟩ := o.gn hgn
      obtain ⟨S, hd⟩ := genS_ok (env := X.env) b4
      obtain ⟨n, rfl⟩ := Int.eq_ofNat_of_zero_le b5
      exact se_sumG rfl (pe_sumG (o.room he) (o.gl b1).1 (o.free b2) TB hcode S (h it) (elt_at b6 S.kind S.loc hd) (fun v => fold_plain b3))
    · exact se_bad
  · exact callI_ok o h
theorem lenScA_ok {f : Expr} {es : List Expr} {kws : List Keyword} {elt : Expr} {gs : List Comprehension} {scope : Scope} (h : lenScA f es kws = some (elt, gs, scope)) : ∃ p q, f = .Name ("len" : Str) p ∧ es = [.SetComp elt gs scope q] ∧ kws = [] := by
  unfold lenScA at h
  split at h
  · rename_i x p elt' gs' sc' q
    split at h
    · rename_i hx
      cases h
      exact ⟨p, q, by rw [eq_of_beq hx], rfl, rfl⟩
    · cases h
  · cases h
theorem lenSc_ok {r : Rd} (ro : RdOk r) (o : EOk G C X W) {f : Expr} {es : List Expr} {kws : List Keyword} {pos : Pos} {elt : Expr} {gs : List Comprehension} {scope : Scope} (h : lenScA f es kws = some (elt, gs, scope)) : PE X (.Call f es kws pos) (LE G W (rdLenSc r C elt gs scope)) := by
  obtain ⟨p, q, rfl, rfl, rfl⟩ := lenScA_ok h
  unfold rdLenSc
  split
  · rename_i tg iter a he
    split
    · rename_i hh
      rw [Bool.and_eq_true, Bool.and_eq_true, Bool.and_eq_true, Bool.and_eq_true, Bool.and_eq_true] at hh
      obtain ⟨h0, b1, b2, h1, h2, h3⟩ := hh
      have h0' := of_decide_eq_true h0
      subst h0'
      have hi : isSet iter = false := by simpa using h3
      exact se_lenSc o.S.P o.S.w o.S.K (o.calm he) (by have := o.un; omega) (by rw [o.N]; exact o.nd) (o.gl b1).1 (o.free b2) (fun i hi => by simpa using List.all_eq_true.mp h2 i hi) (iter_ok ro o tg iter) (blk_ok o.N o.sc h1) (fun s H A cl fp => (tgt_ok (o.blk he scope s H A cl fp) 5).1 tg)
        (fun s H A cl fp => ro.E (o.blk he scope s H A cl fp) elt) fun x => set_plain hi
    · exact se_bad
  · exact se_bad
theorem rdE_ok {r : Rd} (ro : RdOk r) (o : EOk G C X W) (e : Expr) : PE X e (LE G W (rdE r C e)) := by
  have hE := ro.E o
  have hT := ro.T o
  have hu : X.A.units + 1 < cLine := by have := o.un; omega
  unfold rdE
  split
  · split
    · exact se_val pe_int fun _ => rep_int
    · exact se_val pe_bl fun _ => rep_bl
    · exact se_val pe_non fun _ => rep_non
    · exact se_val pe_str fun _ => rep_str
    · exact se_bad
  · exact name_ok o
  · split
    · rename_i f e1
      obtain ⟨rr, h1, h2⟩ := op_ok (G := G) (X := X) e1
      exact se_bin h1 (h2 o.S.K) (hE _) (hE _)
    · exact se_bad
  · exact se_not (hE _)
  · exact se_neg (hE _)
  · exact boolV_ok hE _
  · exact se_ifE (hT _) (hE _) (hE _)
  · split
    · exact se_bad
    · rename_i hs
      obtain ⟨rr, h1, h2⟩ := cmpO_ok o _ _
      exact se_cmp h1 h2 (behind_no (by simpa using hs)) (hE _) (hE _)
  · split
    · exact se_bad
    · rename_i hs
      obtain ⟨rr, h1, h2⟩ := cmp_ok (G := G) (X := X) _ o.S.P o.S.w o.un
      obtain ⟨rr', h1', h2'⟩ := cmp_ok (G := G) (X := X) _ o.S.P o.S.w o.un
      exact se_chain h1 h1' (h2 o.S.K) (h2' o.S.K) (last_no (by simpa using hs)) (hE _) (hE _) (hE _)
  · split
    · exact se_bad
    · rename_i hs
      obtain ⟨rr, h1, h2⟩ := cmp_ok (G := G) (X := X) _ o.S.P o.S.w o.un
      obtain ⟨rr', h1', h2'⟩ := cmp_ok (G := G) (X := X) _ o.S.P o.S.w o.un
      obtain ⟨rr3, h13, h23⟩ := cmp_ok (G := G) (X := X) _ o.S.P o.S.w o.un
      exact se_chain3 h1 h1' h13 (h2 o.S.K) (h2' o.S.K) (h23 o.S.K) (last_no3 (by simpa using hs)) (hE _) (hE _) (hE _) (hE _)
  · exact se_tup (args_ok hE _)
  · exact se_lst (args_ok hE _)
  · split
    · split
      · exact se_slice o.S.K (hE _) (part_ok hE _) (part_ok hE _)
      · split
        · rename_i st hst lo hi hm
          unfold isM1 at hm
          split at hm
          · exact se_rev o.S.K (hE _)
          · cases hm
        · exact se_bad
    · split
      · exact se_bad
      · rename_i hs
        exact se_ix o.S.P o.S.w o.S.K hu (ix_plain (by simpa using hs)) (hE _) (hE _)
  · split
    · rename_i ix h0 hf
      exact se_fld o.S.K (o.g.fld _ (look_mem hf)) (ab_plain h0) (hE _)
    · rename_i h0 hf
      split
      · rename_i tb hp he
        refine pe_some (f := fun q : Nat × DSp => cProp1 (r.E C _) q.1 q.2) fun q hq => ?_
        obtain ⟨l, hl, lt⟩ := methTb_mem hq
        obtain ⟨k, f, p, fd, ps, c1, c2, c3, c4, c5⟩ := o.g.prop _ (look_mem hp) _ hl lt
        exact se_prop1 o.S c1 c2 c3 c4 ((o.room he).mono (Nat.succ_le_of_lt (Nat.lt_of_le_of_lt c5 lt))) (ab_plain h0) (hE _)
      · exact se_bad
    · exact se_bad
  · exact se_dict0
  · exact se_dict1 o.S.P o.S.w o.S.K (by have := o.un; omega) (hE _) (hE _)
  · split
    · rename_i ea
      exact lenSc_ok ro o ea
    · exact call3_ok o hE
  · exact lc_ok ro o
  · exact se_bad
theorem rdT_ok {r : Rd} (ro : RdOk r) (o : EOk G C X W) (e : Expr) : PT X e (LT G W (rdT r C e)) := by
  have hE := ro.E o
  have hT := ro.T o
  unfold rdT
  split
  · exact st_not (hT _)
  · exact (bool_ok hT _).pt
  · split
    · exact st_bad
    · rename_i hs
      obtain ⟨rr, h1, h2⟩ := cmpO_ok o _ _
      exact st_cmp h1 h2 (behind_no (by simpa using hs)) (hE _) (hE _)
  · split
    · exact st_bad
    · rename_i hs
      obtain ⟨rr, h1, h2⟩ := cmp_ok (G := G) (X := X) _ o.S.P o.S.w o.un
      obtain ⟨rr', h1', h2'⟩ := cmp_ok (G := G) (X := X) _ o.S.P o.S.w o.un
      exact st_chain h1 h1' (h2 o.S.K) (h2' o.S.K) (last_no (by simpa using hs)) (hE _) (hE _) (hE _)
  · split
    · exact st_bad
    · rename_i hs
      obtain ⟨rr, h1, h2⟩ := cmp_ok (G := G) (X := X) _ o.S.P o.S.w o.un
      obtain ⟨rr', h1', h2'⟩ := cmp_ok (G := G) (X := X) _ o.S.P o.S.w o.un
      obtain ⟨rr3, h13, h23⟩ := cmp_ok (G := G) (X := X) _ o.S.P o.S.w o.un
      exact st_chain3 h1 h1' h13 (h2 o.S.K) (h2' o.S.K) (h23 o.S.K) (last_no3 (by simpa using hs)) (hE _) (hE _) (hE _) (hE _)
  · exact st_bad
  · exact st_bad
  · rename_i n1 n2 n3 n4 n5 n6 n7
    refine st_tru o.S.K (hE _) fun w => true_plain ?_
    cases e <;> first | rfl | exact absurd rfl (n7 _ _ _ _) | exact absurd rfl (n6 _ _ _ _) | exact absurd rfl (n2 _ _ _) | skip
    case UnaryOp op a p => cases op <;> first | rfl | exact absurd rfl (n1 _ _)
theorem rd_ok : ∀ n, RdOk (rd n)
  | 0 => ⟨fun _ _ => se_bad, fun _ _ => st_bad⟩
  | n + 1 => ⟨fun o e => rdE_ok (rd_ok n) o e, fun o e => rdT_ok (rd_ok n) o e⟩
end
end DW

/-! DW, part 13: the readings are true (statements), defs keep their promises. -/
namespace DW
open PySem L2 PySem.Spec PyProof.Rows
structure SOk (G : Pg) (C : Cfg) (X : Cx) (W : WX) : Prop where
  e : EOk G C X W
  st : X.stack = X.env :: X.outer
  fr : X.env.frame = some X.env.locals
  ps : PassesOwn (model X.prog X.w) X.A X.env X.xe
def SsOk (SS : SsR) : Prop := ∀ {G : Pg} {C : Cfg} {X : Cx} {W : WX}, SOk G C X W → ∀ ss, PSs X ss (LS G W (SS C ss))
theorem sole {t v : Expr} {l : Nat} {env : Env} {b : Bool} (h : swapsWith v (some t) l env = pure b) : swapsWithSole [t] v l env = pure b := by
  show swapsWith v (some t) l env = pure b
  exact h
section
variable {G : Pg} {C : Cfg} {X : Cx} {W : WX}
theorem rdE_lc {n : Nat} {elt : Expr} {gs : List Comprehension} {scope : Scope} {p : Pos} : (rd (n + 1)).E C (.ListComp elt gs scope p) = rdLc (rd n) C elt gs scope := rfl
theorem ss_par2 {i j : Nat} {x y : Str} {a b : Expr} {t : DA} {px py pt pos : Pos} {kt k2 pt2} (hc : X.calm = true) (hN : X.N.Nodup) (hi : X.N[i]? = some x) (hj : X.N[j]? = some y) (hij : i ≠ j)
    (hx : X.env.scope.names.lookup x = some .local) (hy : X.env.scope.names.lookup y = some .local) (ha : PA X [a, b] (LA G W t))
    (hw : swappedStores [.Tuple [.Name x px, .Name y py] kt pt] (.Tuple [a, b] k2 pt2) X.env = pure (some [x, y])) :
    PS X (.Assign [.Tuple [.Name x px, .Name y py] kt pt] (.Tuple [a, b] k2 pt2) pos) (LS G W (sPar2 i j t)) := ps_imp (ps_par hc hN hi hj hij hx hy ha hw) (by
  rintro D σ H ⟨e, h, D', re, rh, z, l⟩
  refine LA.mk re rh z (l.x re) fun ds h1 vs H1 t1 tl1 rh1 r1 re1 x1 => ?_
  obtain ⟨u, v, rfl, q⟩ := t1
  obtain ⟨v1, r, rfl, p1, r⟩ := r1.cons_
  obtain ⟨v2, r', rfl, p2, r⟩ := r.cons_
  rw [r.nil_]
  exact ⟨v1, v2, rfl, l.nx _ h1 _ H1 q tl1 rh1 ((re1.set p1).set p2)⟩)
theorem ss_par3 {i j k : Nat} {x y z : Str} {a b c : Expr} {t : DA} {px py pz pt pos : Pos} {kt k2 pt2} (hc : X.calm = true) (hN : X.N.Nodup) (hi : X.N[i]? = some x) (hj : X.N[j]? = some y) (hk : X.N[k]? = some z) (hij : i ≠ j) (hik : i ≠ k) (hjk : j ≠ k)
    (hx : X.env.scope.names.lookup x = some .local) (hy : X.env.scope.names.lookup y = some .local) (hz : X.env.scope.names.lookup z = some .local) (ha : PA X [a, b, c] (LA G W t))
    (hw : swappedStores [.Tuple [.Name x px, .Name y py, .Name z pz] kt pt] (.Tuple [a, b, c] k2 pt2) X.env = pure (some [x, y, z])) :
    PS X (.Assign [.Tuple [.Name x px, .Name y py, .Name z pz] kt pt] (.Tuple [a, b, c] k2 pt2) pos) (LS G W (sPar3 i j k t)) := ps_imp (ps_par3 hc hN hi hj hk hij hik hjk hx hy hz ha hw) (by
  rintro D σ H ⟨e, h, D', re, rh, z, l⟩
  refine LA.mk re rh z (l.x re) fun ds h1 vs H1 t1 tl1 rh1 r1 re1 x1 => ?_
  obtain ⟨u, v, w, rfl, q⟩ := t1
  obtain ⟨v1, r, rfl, p1, r⟩ := r1.cons_
  obtain ⟨v2, r', rfl, p2, r⟩ := r.cons_
  obtain ⟨v3, r'', rfl, p3, r⟩ := r.cons_
  rw [r.nil_]
  exact ⟨v1, v2, v3, rfl, l.nx _ h1 _ H1 q tl1 rh1 (((re1.set p1).set p2).set p3)⟩)
theorem noStarred {vs : List Expr} (h : noStar vs = true) : (vs.any fun | .Starred .. => true | _ => false) = false := by
  rw [List.any_eq_false]
  intro e he
  have := List.all_eq_true.mp h e he
  cases e <;> first | (exact Bool.noConfusion this) | simp
theorem par_ok (n : Nat) (so : SOk G C X W) {t v : Expr} {pos : Pos} : PS X (.Assign [t] v pos) (LS G W (rdPar (rd n) C t v)) := by
  have o := so.e
  have hE := (rd_ok n).E o
  have kd : ∀ x, X.env.kindOf x = C.kind x := fun x => by show X.env.scope.names.lookup x = _; rw [o.sc]; rfl
  unfold rdPar
  split
  · rename_i x px y py k1 pt a b k2 pt2 he
    split
    · rename_i i j h1 h2 h3
      simp only [Bool.and_eq_true, decide_eq_true_eq, Bool.not_eq_true', plainVs] at h3
      obtain ⟨⟨e1, e2, e3, e4⟩, e5, e0, e6, e7⟩ := h3
      have hx : X.env.scope.names.lookup x = some .local := by rw [o.sc]; exact e1
      have hy : X.env.scope.names.lookup y = some .local := by rw [o.sc]; exact e2
      have nxy : x ≠ y := fun z => by rw [z] at e4; simp at e4
      have i1 : X.N[i]? = some x := by rw [o.N]; exact ixOf_ok h1
      have i2 : X.N[j]? = some y := by rw [o.N]; exact ixOf_ok h2
      refine ss_par2 (o.calm he) (by rw [o.N]; exact o.nd) i1 i2 (fun z => by rw [z, i2] at i1; exact nxy (Option.some.inj i1).symm) hx hy (args_ok hE _) ?_
      have k1 : X.env.kindOf x = some .local := hx
      have k2 : X.env.kindOf y = some .local := hy
      have bk : X.env.blockKind = .function := by
        unfold Env.blockKind
        rw [o.sc, e0]
        rfl
      have ns := noStarred e5
      unfold swappedStores
      have nyx : (y == x) = false := by rw [beq_eq_false_iff_ne]; exact fun z => nxy z.symm
      obtain ⟨sa, sb⟩ := noStar_cons e5
      obtain ⟨sb, _⟩ := noStar_cons sb
      simp [bk, k1, k2, e3, e6, e7, nxy, nyx, Expr.pos, List.eraseDups, List.eraseDupsBy, List.eraseDupsBy.loop]
      intro q
      exfalso
      rcases q with q | q
      · cases a <;> first | exact Bool.noConfusion q | exact Bool.noConfusion sa
      · cases b <;> first | exact Bool.noConfusion q | exact Bool.noConfusion sb
    · exact ss_bad
  · rename_i x px y py z pz k1 pt a b c k2 pt2 he
    split
    · rename_i i j k h1 h2 h3 h4
      simp only [Bool.and_eq_true, decide_eq_true_eq, Bool.not_eq_true', plainVs] at h4
      obtain ⟨⟨e1, e2, e3, e4, e5, e6, e7, e8⟩, e9, e0, e10, e11⟩ := h4
      have hx : X.env.scope.names.lookup x = some .local := by rw [o.sc]; exact e1
      have hy : X.env.scope.names.lookup y = some .local := by rw [o.sc]; exact e2
      have hz : X.env.scope.names.lookup z = some .local := by rw [o.sc]; exact e3
      have nxy : x ≠ y := fun z => by rw [z] at e6; simp at e6
      have nxz : x ≠ z := fun z => by rw [z] at e7; simp at e7
      have nyz : y ≠ z := fun z => by rw [z] at e8; simp at e8
      have i1 : X.N[i]? = some x := by rw [o.N]; exact ixOf_ok h1
      have i2 : X.N[j]? = some y := by rw [o.N]; exact ixOf_ok h2
      have i3 : X.N[k]? = some z := by rw [o.N]; exact ixOf_ok h3
      refine ss_par3 (o.calm he) (by rw [o.N]; exact o.nd) i1 i2 i3 (fun z => by rw [z, i2] at i1; exact nxy (Option.some.inj i1).symm) (fun z => by rw [z, i3] at i1; exact nxz (Option.some.inj i1).symm) (fun z => by rw [z, i3] at i2; exact nyz (Option.some.inj i2).symm) hx hy hz (args_ok hE _) ?_
      have k1 : X.env.kindOf x = some .local := hx
      have k2 : X.env.kindOf y = some .local := hy
      have k3 : X.env.kindOf z = some .local := hz
      have bk : X.env.blockKind = .function := by
        unfold Env.blockKind
        rw [o.sc, e0]
        rfl
      have ns := noStarred e9
      unfold swappedStores
      have nyx : (y == x) = false := by rw [beq_eq_false_iff_ne]; exact fun z => nxy z.symm
      have nzx : (z == x) = false := by rw [beq_eq_false_iff_ne]; exact fun q => nxz q.symm
      have nzy : (z == y) = false := by rw [beq_eq_false_iff_ne]; exact fun q => nyz q.symm
      obtain ⟨sa, sb⟩ := noStar_cons e9
      obtain ⟨sb, sc⟩ := noStar_cons sb
      obtain ⟨sc, _⟩ := noStar_cons sc
      simp [bk, k1, k2, k3, e4, e5, e10, e11, nxy, nyx, nzx, nzy, Expr.pos, List.eraseDups, List.eraseDupsBy, List.eraseDupsBy.loop]
      intro q
      exfalso
      rcases q with q | q | q
      · cases a <;> first | exact Bool.noConfusion q | exact Bool.noConfusion sa
      · cases b <;> first | exact Bool.noConfusion q | exact Bool.noConfusion sb
      · cases c <;> first | exact Bool.noConfusion q | exact Bool.noConfusion sc
    · exact ss_bad
  · exact ss_bad
theorem asg_ok (n : Nat) (so : SOk G C X W) {t v : Expr} {pos : Pos} : PS X (.Assign [t] v pos) (LS G W (rdAsg (rd n) C t v)) := by
  have o := so.e
  have hE := (rd_ok n).E o
  have hu : X.A.units + 1 < cLine := by have := o.un; omega
  unfold rdAsg
  split
  · rename_i x p
    have h1 : ∀ v, swappedStores [.Name x p] v X.env = pure none := fun v => stores_t (fun _ _ _ z => nomatch z) (fun _ _ z => nomatch z)
    split
    · rename_i hc
      exact ss_asg rfl (sole (swaps_no hc)) (h1 _) (hE _) ((tgt_ok o 1).1 _)
    · rename_i elt gs scope lpos he hc
      split
      · rename_i i hi1 hl0
        have hl : X.env.scope.names.lookup x = some .local := by rw [o.sc]; exact beq_iff_eq.mp hl0
        have hi1' : X.N[i]? = some x := by rw [o.N]; exact ixOf_ok hi1
        have hnd : X.N.Nodup := by rw [o.N]; exact o.nd
        have sw : ∃ b : Bool, swapsWith (.ListComp elt gs scope lpos) (some (.Name x p)) pos.line X.env = pure b := ⟨_, rfl⟩
        obtain ⟨b, e1⟩ := sw
        cases b with
        | false => exact ss_asg rfl (sole e1) (h1 _) (hE _) (sg_name hnd hi1' (.inl hl) (.inr hl))
        | true =>
          cases n with
          | zero => exact ⟨fun _ _ _ _ _ _ ⟨_, _, _, _, _, z, _⟩ => z.elim⟩
          | succ n =>
            rw [rdE_lc]
            rcases lc_parts (elt := elt) (gs := gs) (scope := scope) (rd_ok n) o he with e | ⟨tg, iter, ifs, rfl, he, hb, hS, hi, e⟩ | ⟨tg, iter, ifs, tg1, iter1, ifs1, rfl, he, hb, hS, hS1, hi, hi1, e⟩
            · rw [e]; exact ⟨fun _ _ _ _ _ _ ⟨_, _, _, _, _, z, _⟩ => z.elim⟩
            · rw [e]
              exact ss_lc (o.calm he) hnd hi1' hl e1 hS (iter_ok (rd_ok n) o tg iter) hb (fun s H A cl fp => (tgt_ok (o.blk he scope s H A cl fp) 5).1 tg)
                (fun s H A cl fp => ifs_ok ((rd_ok n).T (o.blk he scope s H A cl fp)) ifs) (fun s H A cl fp => (rd_ok n).E (o.blk he scope s H A cl fp) elt) fun x => set_plain hi
            · rw [e]
              exact ss_lc2 (o.calm he) hnd hi1' hl e1 hS (fun _ z => z) hS1 (iter_ok (rd_ok n) o tg iter) hb (fun s H A cl fp => (tgt_ok (o.blk he scope s H A cl fp) 5).1 tg) (fun s H A cl fp => ifs_ok ((rd_ok n).T (o.blk he scope s H A cl fp)) ifs)
                (fun s H A cl fp => iter_ok (rd_ok n) (o.blk he scope s H A cl fp) tg1 iter1) (fun s H A cl fp => (tgt_ok (o.blk he scope s H A cl fp) 5).1 tg1) (fun s H A cl fp => ifs_ok ((rd_ok n).T (o.blk he scope s H A cl fp)) ifs1)
                (fun s H A cl fp => (rd_ok n).E (o.blk he scope s H A cl fp) elt) (fun x => set_plain hi) fun env x => set_plain hi1
      · split
        · rename_i hk
          have hl : X.env.scope.names.lookup x = some .cell := by rw [o.sc]; exact beq_iff_eq.mp hk
          have e1 : swapsWith (.ListComp elt gs scope lpos) (some (.Name x p)) pos.line X.env = pure false := by
            show (pure (X.env.blockKind == .function && X.env.kindOf x == some .local && p.line == lpos.line && !(scope.names.any fun (n, k) => n == x && (k == .local || k == .cell))) : Sem Bool) = pure false
            have e2 : (X.env.kindOf x == some .local) = false := by
              show (X.env.scope.names.lookup x == some .local) = false
              rw [hl]; rfl
            rw [e2, Bool.and_false, Bool.false_and, Bool.false_and]
          exact ss_asg rfl (sole e1) (h1 _) (hE _) ((tgt_ok o 1).1 _)
        · exact ss_bad
    · exact ss_bad
  · rename_i es k p
    split
    · exact par_ok n so
    · rename_i hv
      exact ss_asg rfl (sole (swaps_notName fun _ _ z => nomatch z)) (stores_v (by simpa using hv)) (hE v) ((tgt_ok o 5).1 _)
  · rename_i ob f p
    split
    · rename_i ix hf h0
      exact ss_fld o.S.K (o.g.fld _ (look_mem hf)) o.g.sm (swaps_notName fun _ _ z => nomatch z) (hE _) (hE _)
    · exact ss_bad
  · rename_i ob i p
    split
    · exact ss_bad
    · rename_i hs
      exact ss_sub o.S.P o.S.w o.S.K hu (sole (swaps_notName fun _ _ z => nomatch z)) (stores_t (fun _ _ _ z => nomatch z) (fun _ _ z => nomatch z)) (fun a b c => pg_sub a b c (asg_sub (by simpa using hs))) (hE _) (hE _) (hE _)
  · exact ss_bad
theorem SOk.tr (so : SOk G C X W) {W' : WX} {pn : List (Addr × Obj)} {xe : Value → Shared → Prop} (he : C.exv = none) (tk : L2N.Takes (X.tr pn xe) W') (ps : PassesOwn (model X.prog X.w) X.A X.env xe) : SOk G C (X.tr pn xe) W' :=
  ⟨⟨⟨so.e.S.K, so.e.S.P, so.e.S.w, so.e.S.mg, so.e.S.base⟩, so.e.g, so.e.N, so.e.nd, so.e.sc, tk, so.e.room, so.e.un, so.e.calm, so.e.fnT, fun a x e => (by rw [he] at e; cases e), fun p e => (by rw [he] at e; cases e), so.e.gn⟩, so.st, so.fr, ps⟩
theorem SOk.suite (so : SOk G C X W) (he : C.exv = none) {a : Addr} {oe : Obj} {pn : List (Addr × Obj)} {xx : DX} {d : Option Addr} (hz : L2N.Zn (.ref (G.ca xx.c)) d oe) (hd : xx.fs = none → d = none) (hf : ∃ vs, oe.data = .fields vs) :
    SOk G { C with exv := some (a, xx) } (X.suite a ((a, oe) :: pn)) (fun _ _ _ _ => False) :=
  ⟨⟨⟨so.e.S.K, so.e.S.P, so.e.S.w, so.e.S.mg, so.e.S.base⟩, so.e.g, so.e.N, so.e.nd, so.e.sc, takesN, (fun e => nomatch e), so.e.un, (fun e => nomatch e), so.e.fnT, fun a' x' e hn hc => by
      have e' : (a, xx) = (a', x') := Option.some.inj e
      cases e'
      have hz' : L2N.Zn (.ref (G.ca xx.c)) none oe := by rw [← hd hn]; exact hz
      exact call_isE (X := X) (pn := pn) (by rw [so.e.S.K]; exact hc) hz'.zc hf, fun p e => by
      obtain ⟨vs, e1⟩ := hf
      exact ⟨⟨(a, oe), ⟨rfl, vs, e1, hz.2.2 vs e1⟩, List.mem_cons_self⟩, ⟨(so.e.room he).dp, (so.e.room he).un⟩⟩, so.e.gn⟩, so.st, so.fr, PassesOwn.never⟩
theorem cl_ok {SS : SsR} (sso : SsOk SS) (so : SOk G C X W) (he : C.exv = none) {hd : ExceptHandler} {q : DCl} (h : rdCl SS C hd = some q) : ClD G X hd q := by
  have o := so.e
  have nm : ∀ {x : Str} {u : Value}, C.isG x = true → ClsN G x u → Names X x u := fun {x u} hg c => by
    obtain ⟨h1, h2⟩ := o.gl hg
    exact ⟨h1, h2, by rw [o.S.mg]; exact c⟩
  unfold rdCl at h
  split at h
  · split at h
    · rename_i x np b bs pos _ _ k hg hk
      cases h
      obtain ⟨u, cv, c1, c2, c3, c4⟩ := o.g.exk _ (look_mem hk)
      exact ⟨x, u, b, bs, np, pos, none, rfl, nm hg c1, fun m b hb => (c4 m b hb).1, trivial, fun a oe xx d pn hz hn hf => sso (so.suite he hz hn hf) _⟩
    · cases h
  · split at h
    · rename_i x np n b bs pos _ _ _ _ k i hg hk hi hl
      cases h
      obtain ⟨u, cv, c1, c2, c3, c4⟩ := o.g.exk _ (look_mem hk)
      refine ⟨x, u, b, bs, np, pos, some n, rfl, nm hg c1, fun m b hb => (c4 m b hb).1, ⟨by rw [o.N]; exact ixOf_ok hi, ?_⟩, fun a oe xx d pn hz hn hf => sso (so.suite he hz hn hf) _⟩
      show X.env.scope.names.lookup n = some .local
      rw [o.sc]; exact beq_iff_eq.mp hl
    · cases h
  · cases h
theorem cls_ok {SS : SsR} (sso : SsOk SS) (so : SOk G C X W) (he : C.exv = none) : ∀ {hs : List ExceptHandler} {qs : List DCl}, rdCls SS C hs = some qs → Paired (ClD G X) hs qs
  | [], qs, h => by cases h; exact .nil
  | hd :: hs, qs, h => by
    unfold rdCls at h
    split at h
    · rename_i q qs h1 h2
      cases h
      exact .cons (cl_ok sso so he h1) (cls_ok sso so he h2)
    · cases h
theorem rdS_ok (n : Nat) {SS : SsR} (sso : SsOk SS) (so : SOk G C X W) (s : Stmt) : PS X s (LS G W (rdS (rd n) SS C s)) := by
  have o := so.e
  have hE := (rd_ok n).E o
  have hT := (rd_ok n).T o
  unfold rdS
  split
  · split
    · rename_i hdoc
      unfold docS at hdoc
      split at hdoc
      · exact ss_doc
      · cases hdoc
    · split
      · rename_i hc
        exact ss_drop (swaps_no hc) (hE _)
      · exact ss_bad
  · split
    · exact ss_ret (hE _)
    · exact ss_retN
  · exact ss_if (hT _) (sso so _) (sso so _)
  · exact asg_ok n so
  · unfold rdAug
    split
    · split
      · rename_i ix hf
        exact ss_augF in_add (fun i j H Q q => ⟨i, j, rfl, rfl, q⟩) o.S.K (o.g.fld _ (look_mem hf)) o.g.sm (hE _) (hE _)
      · rename_i ix hf
        exact ss_augF in_sub (fun i j H Q q => ⟨i, j, rfl, rfl, q⟩) o.S.K (o.g.fld _ (look_mem hf)) o.g.sm (hE _) (hE _)
      · exact ss_bad
    · split
      · rename_i i hi1 hl0
        exact ss_augN ip_add (by rw [o.N]; exact o.nd) (by rw [o.N]; exact ixOf_ok hi1) (by rw [o.sc]; exact beq_iff_eq.mp hl0) (hE _)
      · rename_i i hi1 hl0
        exact ss_augN ip_sub (by rw [o.N]; exact o.nd) (by rw [o.N]; exact ixOf_ok hi1) (by rw [o.sc]; exact beq_iff_eq.mp hl0) (hE _)
      · exact ss_bad
    · exact ss_bad
  · exact ss_delL (hE _) (hE _)
  · exact ss_while so.ps (hT _) (sso so _)
  · split
    · rename_i he hi
      exact ss_for so.ps (o.calm he) (iter_ok (rd_ok n) o _ _) ((tgt_ok o 5).1 _) (sso so _) fun x => set_plain hi
    · exact ss_bad
  · unfold rdRaise
    split
    · rename_i x p es pos he
      split
      · rename_i c hg hx hs
        obtain ⟨h1, h2⟩ := o.gl hg
        obtain ⟨c1, c2⟩ := o.g.exc _ (look_mem hx)
        cases es with
        | nil => exact ss_raise0 (o.calm he) o.tk o.S.K c2 (by rw [o.S.mg]; exact c1) h1 h2
        | cons e es =>
          obtain ⟨k1, k2⟩ := noStar_cons hs
          exact ss_raise (o.calm he) o.tk o.S.K c2 (by rw [o.S.mg]; exact c1) h1 (args_ok hE _) h2 (star_cons k1) (star_any k2)
      · exact ss_bad
    · exact ss_bad
  · split
    · rename_i b hs pos _ _ q qs he hq
      cases hs with
      | nil => cases hq
      | cons h hs => exact ss_try o.S.K so.st so.fr (by rw [o.N]; exact o.nd) o.tk (fun W pn xe tk ps => sso (so.tr he tk ps) _) (cls_ok sso so he hq)
    · exact ss_bad
  · exact ss_pass
  · exact ss_brk
  · exact ss_cnt
  · exact ss_bad
end
theorem lk_ok {G : Pg} {C : Cfg} {X : Cx} {W : WX} {s : Stmt} {t : DS} (h : PS X s (LS G W t)) : PS X s (LS G W (lkS C s t)) := by
  unfold lkS
  split
  · exact ss_lk h
  · exact h
theorem rdSs_ok {S : Cfg → Stmt → DS} (h : ∀ {G : Pg} {C : Cfg} {X : Cx} {W : WX}, SOk G C X W → ∀ s, PS X s (LS G W (S C s))) : SsOk (rdSs S) := by
  intro G C X W so ss
  induction ss with
  | nil => exact sss_nil
  | cons s r ih =>
    cases r with
    | nil => exact sss_one (lk_ok (h so s))
    | cons b r =>
      show PSs X _ (LS G W (sSeq (lkS C s (S C s)) (rdSs S C (b :: r))))
      exact sss_cons (lk_ok (h so s)) ih
theorem rdSt_ok (m : Nat) : ∀ n, SsOk (rdSt m n)
  | 0 => fun _ _ => sss_bad
  | n + 1 => rdSs_ok fun so s => rdS_ok m (rdSt_ok m n) so s

/-! ### a def's promise -/
def Fgt (P : KD) : KD := fun d h' => ∃ h'', Sub h'' h' ∧ P d h''
def FgtX (R : KX) : KX := fun x h' => ∃ h'', Sub h'' h' ∧ R x h''
/-- a def with n parameters, m names, this body: what is needed at its call -/
def mkFn (n m : Nat) (body : DS) : DSp := fun ds h P R => ds.length = n ∧ body { nx := fun _ h' => Fgt P .non h', rt := Fgt P, ex := fun x _ h' => FgtX R x h' } (ds.map some ++ List.replicate (m - n) none) h
theorem start_re {K : PySem.W.Frag} {H : Hp} {N : List Str} {ds : List D} {vs : List V} (r : Reps K H ds vs) : RE K H (ds.map some ++ List.replicate (N.length - ds.length) none) (L2.start N vs) := by
  have hl := r.length
  refine ⟨by unfold L2.start; simp [hl], fun i d e => ?_⟩
  by_cases hi : i < ds.length
  · rw [List.getElem?_append_left (by simpa using hi), List.getElem?_map] at e
    cases z : ds[i]? with
    | none => rw [z] at e; cases e
    | some d' =>
      rw [z] at e
      cases e
      obtain ⟨v, h1, h2⟩ := r.get z
      refine ⟨v, ?_, h2⟩
      unfold L2.start
      rw [List.getElem?_append_left (by simp [hl]; exact hi), List.getElem?_map, h1]
      rfl
  · rw [List.getElem?_append_right (by simpa using hi), List.getElem?_replicate] at e
    split at e <;> cases e
theorem mkFn_len {G : Pg} {n m : Nat} {b : DS} {ps : List Str} (hn : ps.length = n) : ∀ vs H Q E, LSp G (mkFn n m b) vs H Q E → vs.length = ps.length := fun vs H Q E ⟨ds, h, P, R, rs, rh, s, _⟩ => by
  rw [rs.length, s.1, hn]
/-- THE RULE for a def (with or without defaults) -/
theorem fn_ok {G : Pg} {g : Gt} {l m n : Nat} {N ps : List Str} {x qual : Str} {params : Arguments} {body : List Stmt} {scope : Scope} {dvs : List V} {kws : List (Str × V)} {f : Addr} {fd : FuncData} {t : DS}
    (F : FunD G.K x qual params body scope dvs kws f fd) (S : FnScope N ps scope) (go : GOk G g l) (ht : rdSt m n ⟨g, l, N, scope, none, none, false⟩ body = t) : FnOk G.P G.w G.K G.mg G.base (L2N.CX G.P G.w) (l + 1) f fd ps (LSp G (mkFn ps.length N.length t)) := by
  refine F.ok S (mkFn_len rfl) fun cdv A outer s H vs Q E hr h => ?_
  obtain ⟨ds, dh, P, R, rs, rh, sp, fin, finx⟩ := h
  refine ⟨LS G (fun cls d _ H' => E cls d H') t, ?_, ?_⟩
  · rw [← ht]
    refine rdSt_ok m n ⟨⟨⟨rfl, rfl, rfl, rfl, rfl⟩, go, rfl, S.nd, rfl, L2N.takes_of rfl rfl rfl rfl, fun _ => hr, ?_, fun _ => rfl, (fun _ _ => rfl), (fun _ _ e => by cases e), (fun _ e => by cases e), (fun e => by cases e)⟩, rfl, rfl, passes_of rfl⟩ body
    have := hr.un
    show (A.deeper _).units + 65 < cLine
    omega
  · obtain ⟨hl, hb⟩ := sp
    have e1 : (mkFn ps.length N.length t) = mkFn ds.length N.length t := by rw [hl]
    refine ⟨_, dh, _, start_re rs, rh, (by rw [hl]; exact hb), ?_⟩
    refine ⟨fun e' h' σ' H' z tl rh' re' => ?_, fun d h' v H' z tl rh' r => ?_, fun _ _ _ _ z => z.elim, fun _ _ _ _ z => z.elim, fun xx e' h' cls dd σ' H' z tl rh' re' rx => ?_⟩
    · obtain ⟨h'', sb, p⟩ := z
      exact fin _ h'' _ H' p tl (rh'.sub sb) rep_non
    · obtain ⟨h'', sb, p⟩ := z
      exact fin d h'' v H' p tl (rh'.sub sb) r
    · obtain ⟨h'', sb, p⟩ := z
      exact finx xx h'' cls dd H' p tl (rh'.sub sb) rx
/-- THE RULE for a def with a generator expression -/
theorem fn_okG {G : Pg} {g : Gt} {l m n : Nat} {N ps : List Str} {x qual : Str} {params : Arguments} {body : List Stmt} {scope : Scope} {dvs : List V} {kws : List (Str × V)} {f : Addr} {fd : FuncData} {t : DS}
    (F : FunD G.K x qual params body scope dvs kws f fd) (S : FnScope N ps scope) (go : GOk G g l) {p : He.Defn} (ef : f = He.fAd G.K p) (et : G.tab = (He.cT G.K p).2) (TB : GxR.TabB G.base G.mg (He.cT G.K p).1 (He.cT G.K p).2) (ht : rdSt m n ⟨g, l, N, scope, none, none, true⟩ body = t) : FnOk G.P G.w G.K G.mg G.base (L2N.CX G.P G.w) (l + 1) f fd ps (LSp G (mkFn ps.length N.length t)) := by
  obtain ⟨oc, od, dV, kV, doc, pm, an, cdv, ct, osl, rfl, lk, hcd, _, _⟩ := F.ex
  obtain ⟨c, rfl⟩ := He.codeIn_ref hcd
  have ec : (He.cT G.K p).1 = c := by
    subst ef
    exact He.codeOf_eq lk rfl
  rw [ec, ← et] at TB
  refine fn_of lk hcd S (mkFn_len rfl) fun A outer s H vs Q E hr h => ?_
  obtain ⟨ds, dh, P, R, rs, rh, sp, fin, finx⟩ := h
  refine ⟨LS G (fun cls d _ H' => E cls d H') t, ?_, ?_⟩
  · rw [← ht]
    refine rdSt_ok m n ⟨⟨⟨rfl, rfl, rfl, rfl, rfl⟩, go, rfl, S.nd, rfl, L2N.takes_of rfl rfl rfl rfl, fun _ => hr, ?_, fun _ => rfl, (fun _ _ => rfl), (fun _ _ e => by cases e), (fun _ e => by cases e), (fun _ => ⟨c, rfl, TB⟩)⟩, rfl, rfl, passes_of rfl⟩ body
    have := hr.un
    show (A.deeper _).units + 65 < cLine
    omega
  · obtain ⟨hl, hb⟩ := sp
    have e1 : (mkFn ps.length N.length t) = mkFn ds.length N.length t := by rw [hl]
    refine ⟨_, dh, _, start_re rs, rh, (by rw [hl]; exact hb), ?_⟩
    refine ⟨fun e' h' σ' H' z tl rh' re' => ?_, fun d h' v H' z tl rh' r => ?_, fun _ _ _ _ z => z.elim, fun _ _ _ _ z => z.elim, fun xx e' h' cls dd σ' H' z tl rh' re' rx => ?_⟩
    · obtain ⟨h'', sb, p⟩ := z
      exact fin _ h'' _ H' p tl (rh'.sub sb) rep_non
    · obtain ⟨h'', sb, p⟩ := z
      exact fin d h'' v H' p tl (rh'.sub sb) r
    · obtain ⟨h'', sb, p⟩ := z
      exact finx xx h'' cls dd H' p tl (rh'.sub sb) rx
/-- THE RULE for a def that is called while an exception is handled -/
theorem fn_okH {G : Pg} {g : Gt} {l m n : Nat} {N ps : List Str} {x qual : Str} {params : Arguments} {body : List Stmt} {scope : Scope} {dvs : List V} {kws : List (Str × V)} {f : Addr} {fd : FuncData} {t : DS}
    (F : FunD G.K x qual params body scope dvs kws f fd) (S : FnScope N ps scope) (go : GOk G g l) (ht : rdSt m n ⟨g, l, N, scope, some (0, ⟨0, some []⟩), none, false⟩ body = t) : L2H.FnH G.P G.w G.K G.mg G.base (L2N.CX G.P G.w) (l + 1) f fd ps (LSp G (mkFn ps.length N.length t)) := by
  obtain ⟨oc, od, dV, kV, doc, pm, an, cdv, ct, osl, rfl, lk, hcd, _, _⟩ := F.ex
  refine L2H.fn_ofH lk hcd S (mkFn_len rfl) fun A outer s H vs Q E p hot hr h => ?_
  obtain ⟨ds, dh, P, R, rs, rh, sp, fin, finx⟩ := h
  refine ⟨LS G (fun cls d _ H' => E cls d H') t, ?_, ?_⟩
  · rw [← ht]
    refine rdSt_ok m n ⟨⟨⟨rfl, rfl, rfl, rfl, rfl⟩, go, rfl, S.nd, rfl, L2N.takes_of rfl rfl rfl rfl, (fun e => by cases e), ?_, (fun e => by cases e), (fun _ _ => rfl), (fun a x e hn => by cases e; cases hn), (fun _ _ => ⟨⟨p, ⟨hot.1, hot.2⟩, List.mem_singleton.mpr rfl⟩, hr⟩), (fun e => by cases e)⟩, rfl, rfl, passes_of rfl⟩ body
    have := hr.un
    show (A.deeper _).units + 65 < cLine
    omega
  · obtain ⟨hl, hb⟩ := sp
    refine ⟨_, dh, _, start_re rs, rh, (by rw [hl]; exact hb), ?_⟩
    refine ⟨fun e' h' σ' H' z tl rh' re' => ?_, fun d h' v H' z tl rh' r => ?_, fun _ _ _ _ z => z.elim, fun _ _ _ _ z => z.elim, fun xx e' h' cls dd σ' H' z tl rh' re' rx => ?_⟩
    · obtain ⟨h'', sb, p⟩ := z
      exact fin _ h'' _ H' p tl (rh'.sub sb) rep_non
    · obtain ⟨h'', sb, p⟩ := z
      exact fin d h'' v H' p tl (rh'.sub sb) r
    · obtain ⟨h'', sb, p⟩ := z
      exact finx xx h'' cls dd H' p tl (rh'.sub sb) rx
end DW

/-! DW, part 14: what the module is, checked of its top; the chain of the defs. -/
namespace DW
open PySem L2 PySem.Spec He
structure Mod where
  cls : List Str := []
  fn : List (List Str) := []
  free : List Str := []
  mints : List (Str × Int) := []
  mstrs : List (Str × Str) := []
  tups : List (Str × List Dv) := []
  kits : List (Str × Option String × List (Tag × Bool)) := []
  exks : List (Str × Option String × List (Nat × Bool)) := []
  excs : List (Str × Nat) := []
  flds : List (Str × List (Nat × Nat)) := []
  lks : List Nat := []
  gen : Defn := ("total", none)
def Mod.cn (m : Mod) (c : Nat) : Str := m.cls.getD c ""
def Mod.fs (m : Mod) (c : Nat) : List Str := m.fn.getD c []
def Mod.pg (m : Mod) (P : Program) (w : World) (K : PySem.W.Frag) (mg : Str → Option Value) (base : Heap) : Pg := ⟨P, w, K, mg, base, fun c => ga K (m.cn c), m.fs, (cT K m.gen).2⟩
def uOf (K : PySem.W.Frag) (x : Str) : Option String → Value
  | none => .ref (ga K x)
  | some T => .type T
def dvD : Dv → Option D
  | .non => some .non
  | .bl b => some (.bl b)
  | .int i => some (.int i)
  | .str s => some (.str s)
  | _ => none
def dvsD : List Dv → List D
  | [] => []
  | v :: vs => ((dvD v).getD .non) :: dvsD vs
def tabK (tb : List (Tag × Bool)) : Kit := fun t => tb.lookup t
def tabX (tb : List (Nat × Bool)) : Nat → Option Bool := fun t => tb.lookup t
/-- the tables of a module; the rest: its defs -/
def Mod.gt (m : Mod) (call : List (Str × Nat × DSp)) (callK : List ((Str × Nat × List Str) × Nat × DSp2)) (meth prop : List (Str × List (Nat × Nat × DSp))) : Gt where
  free := m.free
  val := (m.mints.map fun q => (q.1, .int q.2)) ++ ((m.mstrs.map fun q => (q.1, .str q.2)) ++ m.tups.map fun q => (q.1, .ktup (dvsD q.2)))
  call := call
  callK := callK
  kit := m.kits.map fun q => (q.1, tabK q.2.2)
  exk := m.exks.map fun q => (q.1, tabX q.2.2)
  exc := m.excs
  fld := m.flds
  meth := meth
  prop := prop
  lk := m.lks
/-! ### the checks -/
def eqV1 (a b : Option Bool) : Bool := decide (a = b)
def eqV2 (a b : Option Value) : Bool := decide (a = b)
def clsB (K : PySem.W.Frag) (C : Addr) : Bool := PySem.W.plainGet K C Str.empty && (PySem.W.hasDictIn K C && (PySem.W.plainOver K C && eqO (PySem.W.findIn K (.ref C) "__setattr__") (some (some (.builtin "object.__setattr__")))))
theorem clsB_ok {K : PySem.W.Frag} {C : Addr} (h : clsB K C = true) : Cls K C := by
  obtain ⟨c1, c⟩ := ba h
  obtain ⟨c2, c⟩ := ba c
  obtain ⟨c3, c4⟩ := ba c
  exact ⟨c1, c2, c3, eqO_ok c4⟩
def insB (K : PySem.W.Frag) (C : Addr) : Bool := clsB K C && (eqO (PySem.W.findIn K (.ref C) "__class__") (some (some (.builtin "object.__class__"))) && (eqO (PySem.W.specialIn K (.builtin "object.__class__") "__get__") (some (some (.builtin "getset_descriptor.__get__"))) &&
  (eqV1 (PySem.W.takesIn K (.builtin "object.__class__")) (some true) && eqV1 (PySem.W.mroIn K C (.type "object")) (some true))))
theorem insB_ok {K : PySem.W.Frag} {C : Addr} (h : insB K C = true) : InsOk K C := by
  obtain ⟨c1, c⟩ := ba h
  obtain ⟨c2, c⟩ := ba c
  obtain ⟨c3, c⟩ := ba c
  obtain ⟨c4, c5⟩ := ba c
  exact ⟨clsB_ok c1, eqO_ok c2, eqO_ok c3, of_decide_eq_true c4, of_decide_eq_true c5⟩
def excCB (K : PySem.W.Frag) (D : Addr) : Bool := eqO (PySem.W.findIn K (.ref D) "__getattribute__") (some (some (.builtin "BaseException.__getattribute__"))) && (eqO (PySem.W.findIn K (.ref D) "__getattr__") (some none) && (eqV1 (PySem.W.subIn K (.ref D) (.type "BaseException")) (some true) &&
  (PySem.W.hasDictIn K D && (eqO (PySem.W.findIn K (.ref D) "__class__") (some (some (.builtin "object.__class__"))) && (eqO (PySem.W.specialIn K (.builtin "object.__class__") "__get__") (some (some (.builtin "getset_descriptor.__get__"))) &&
  (eqV1 (PySem.W.takesIn K (.builtin "object.__class__")) (some true) && eqV1 (PySem.W.mroIn K D (.type "object")) (some true)))))))
theorem excCB_ok {K : PySem.W.Frag} {D : Addr} (h : excCB K D = true) : ExcC K D := by
  obtain ⟨c1, c⟩ := ba h
  obtain ⟨c2, c⟩ := ba c
  obtain ⟨c3, c⟩ := ba c
  obtain ⟨c4, c⟩ := ba c
  obtain ⟨c5, c⟩ := ba c
  obtain ⟨c6, c⟩ := ba c
  obtain ⟨c7, c8⟩ := ba c
  exact ⟨eqO_ok c1, eqO_ok c2, of_decide_eq_true c3, c4, eqO_ok c5, eqO_ok c6, of_decide_eq_true c7, of_decide_eq_true c8⟩
def nameB (K : PySem.W.Frag) (x : Str) : Option String → Bool
  | none => eqO (PySem.W.nsIn K mainGlobals x) (some (some (.ref (ga K x))))
  | some T => eqO (PySem.W.nsIn K mainGlobals x) (some none) && (eqV2 (bootBuiltins x) (some (.type T)) && !(x == ("__name__" : Str)))
def tagV (m : Mod) (K : PySem.W.Frag) : Tag → Value
  | .ty n => .type n
  | .own c => .ref (ga K (m.cn c))
def kitB (m : Mod) (K : PySem.W.Frag) (q : Str × Option String × List (Tag × Bool)) : Bool := nameB K q.1 q.2.1 && q.2.2.all fun z => eqV1 (PySem.W.kitOne K (tagV m K z.1) (uOf K q.1 q.2.1)) (some z.2) && (match z.1 with
  | .own c => insB K (ga K (m.cn c))
  | _ => true)
def exkB (m : Mod) (K : PySem.W.Frag) (q : Str × Option String × List (Nat × Bool)) : Bool := nameB K q.1 q.2.1 && q.2.2.all fun z => eqV1 (PySem.W.exmOne K (.ref (ga K (m.cn z.1))) (uOf K q.1 q.2.1)) (some z.2) && (eqV1 (PySem.W.kitOne K (.ref (ga K (m.cn z.1))) (uOf K q.1 q.2.1)) (some z.2) && excCB K (ga K (m.cn z.1)))
def excB (m : Mod) (K : PySem.W.Frag) (q : Str × Nat) : Bool := decide (q.1 = m.cn q.2) && (nameB K q.1 none && (PySem.W.excIn K (ga K q.1) veBase "ValueError.__new__" && (PySem.W.keepIn K (.ref (ga K q.1)) && (eqV1 (PySem.W.subIn K (.ref (ga K q.1)) (.type "BaseException")) (some true) && eqV2 (PySem.W.typeIn K (.ref (ga K q.1))) (some (.type "type"))))))
def fldB (m : Mod) (K : PySem.W.Frag) (q : Str × List (Nat × Nat)) : Bool := q.2.all fun z => clsB K (ga K (m.cn z.1)) && (eqO (PySem.W.findIn K (.ref (ga K (m.cn z.1))) q.1) (some none) && decide ((m.fs z.1)[z.2]? = some q.1))
def intB (K : PySem.W.Frag) (q : Str × Int) : Bool := (Fa.int q.1 q.2).ok K
def strB (K : PySem.W.Frag) (q : Str × Str) : Bool := (Fa.str q.1 q.2).ok K
def tupsB (K : PySem.W.Frag) (q : Str × List Dv) : Bool := nameB K q.1 none && (tupB K q.1 q.2 && q.2.all fun v => (dvD v).isSome)
def Mod.ok (m : Mod) (K : PySem.W.Frag) : Bool := (m.free.all fun x => eqO (PySem.W.nsIn K mainGlobals x) (some none)) && (m.mints.all (intB K) && (m.mstrs.all (strB K) && (m.tups.all (tupsB K) && (m.kits.all (kitB m K) && (m.exks.all (exkB m K) && (m.excs.all (excB m K) && m.flds.all (fldB m K)))))))
/-- what holds of the names alone -/
def Mod.self (m : Mod) : Bool := m.fn.all fun l => decide l.Nodup && Nat.blt l.length 1000
theorem Mod.self_nd {m : Mod} (h : m.self = true) (c : Nat) : (m.fs c).Nodup ∧ (m.fs c).length < 1000 := by
  unfold Mod.fs
  rw [List.getD_eq_getElem?_getD]
  cases e : m.fn[c]? with
  | none => exact ⟨List.nodup_nil, by decide⟩
  | some l =>
    obtain ⟨h1, h2⟩ := ba (List.all_eq_true.mp h l (List.mem_of_getElem? e))
    exact ⟨of_decide_eq_true h1, Nat.blt_eq.mp h2⟩
/-- the tables' part that rests on no def -/
structure GSt (G : Pg) (g : Gt) : Prop where
  free : ∀ x, x ∈ g.free → G.mg x = none
  val : ∀ q ∈ g.val, ∃ v u, G.mg q.1 = some u ∧ L2.RelV v u ∧ ∀ H, Rep G.K H q.2 v
  kit : ∀ q ∈ g.kit, ∃ (u : Value) (cv : V), ClsN G q.1 u ∧ L2.RelV cv u ∧ ClsV cv u ∧ KitOk G q.2 u ∧ ∀ c b, q.2 (.own c) = some b → InsOk G.K (G.ca c)
  exk : ∀ q ∈ g.exk, ∃ (u : Value) (cv : V), ClsN G q.1 u ∧ L2.RelV cv u ∧ ClsV cv u ∧ ∀ m b, q.2 m = some b → PySem.W.exmOne G.K (.ref (G.ca m)) u = some b ∧ PySem.W.kitOne G.K (.ref (G.ca m)) u = some b ∧ ExcC G.K (G.ca m)
  exc : ∀ q ∈ g.exc, G.mg q.1 = some (.ref (G.ca q.2)) ∧ RaiseOk G q.2
  fld : ∀ q ∈ g.fld, FldOk G q.1 q.2
  sm : ∀ c, (G.fn c).length < 1000
structure FSt (G : Pg) (g : Gt) (j : Nat) : Prop where
  call : ∀ q ∈ g.call, q.2.1 < j → CallG G q.2.1 q.1 q.2.2
  callK : ∀ q ∈ g.callK, q.2.1 < j → CallKG G q.2.1 q.1.1 q.1.2.2 q.2.2
  meth : ∀ q ∈ g.meth, ∀ z ∈ q.2, z.2.1 < j → MethG G z.2.1 q.1 z.1 z.2.2
  prop : ∀ q ∈ g.prop, ∀ z ∈ q.2, z.2.1 < j → PropG G z.2.1 q.1 z.1 z.2.2
  hot : ∀ q ∈ g.hot, q.2.1 < j → HotG G q.2.1 q.1 q.2.2
  hotm : ∀ q ∈ g.hotm, ∀ z ∈ q.2, z.2.1 < j → HotM G z.2.1 q.1 z.1 z.2.2
theorem GOk.of {G : Pg} {g : Gt} {j : Nat} (s : GSt G g) (f : FSt G g j) : GOk G g j := ⟨s.free, s.val, f.call, f.callK, s.kit, s.exk, s.exc, s.fld, f.meth, f.prop, s.sm, f.hot, f.hotm⟩
section
variable {m : Mod} {P : Program} {w : World} {K : PySem.W.Frag} {mg : Str → Option Value} {base h : Heap}
theorem name_cls (X : K.In h) (G : h.Ns mainGlobals mg) {x : Str} {o : Option String} (c : nameB K x o = true) : ∃ cv : V, ClsN (m.pg P w K mg base) x (uOf K x o) ∧ L2.RelV cv (uOf K x o) ∧ ClsV cv (uOf K x o) := by
  cases o with
  | none => exact ⟨.ref (ga K x), .inl (PySem.W.mg_of X G (eqO_ok c)), rfl, .own _⟩
  | some T =>
    obtain ⟨c1, c⟩ := ba c
    obtain ⟨c2, c3⟩ := ba c
    refine ⟨.ty T, .inr ⟨PySem.W.mg_none_of X G (eqO_ok c1), of_decide_eq_true c2, fun z => ?_⟩, rfl, .ty T⟩
    rw [z] at c3
    simp at c3
theorem rel_rep {H : Hp} : ∀ {vs : List Dv}, (vs.all fun v => (dvD v).isSome) = true → Reps K H (dvsD vs) (vs.map (Dv.v K))
  | [], _ => reps_nil
  | v :: vs, h => by
    obtain ⟨h1, h2⟩ := ba (show ((dvD v).isSome && vs.all fun v => (dvD v).isSome) = true from h)
    refine reps_cons ?_ (rel_rep h2)
    cases v <;> first | (exfalso; exact Bool.false_ne_true h1) | skip
    · exact rep_non
    · exact rep_bl
    · exact rep_int
    · exact rep_str
theorem Mod.stat (X : K.In h) (G : h.Ns mainGlobals mg) (hs : m.self = true) (c : m.ok K = true) (call : List (Str × Nat × DSp)) (callK : List ((Str × Nat × List Str) × Nat × DSp2)) (meth prop : List (Str × List (Nat × Nat × DSp))) :
    GSt (m.pg P w K mg base) (m.gt call callK meth prop) := by
  obtain ⟨c1, c⟩ := ba c
  obtain ⟨c2, c⟩ := ba c
  obtain ⟨c3, c⟩ := ba c
  obtain ⟨c4, c⟩ := ba c
  obtain ⟨c5, c⟩ := ba c
  obtain ⟨c6, c⟩ := ba c
  obtain ⟨c7, c8⟩ := ba c
  refine ⟨fun x hx => PySem.W.mg_none_of X G (eqO_ok (List.all_eq_true.mp c1 x hx)), fun q hq => ?_, fun q hq => ?_, fun q hq => ?_, fun q hq => ?_, fun q hq => ?_, fun c => (m.self_nd hs c).2⟩
  · rcases List.mem_append.mp hq with hq | hq
    · obtain ⟨z, hz, rfl⟩ := List.mem_map.mp hq
      obtain ⟨t, e⟩ := int_ok X G (List.all_eq_true.mp c2 z hz)
      exact ⟨.int z.2, _, e, ⟨t, rfl⟩, fun H => rep_int⟩
    · rcases List.mem_append.mp hq with hq | hq
      · obtain ⟨z, hz, rfl⟩ := List.mem_map.mp hq
        obtain ⟨t, e⟩ := str_ok X G (List.all_eq_true.mp c3 z hz)
        exact ⟨.str z.2, _, e, ⟨t, rfl⟩, fun H => rep_str⟩
      · obtain ⟨z, hz, rfl⟩ := List.mem_map.mp hq
        obtain ⟨h1, h2⟩ := ba (List.all_eq_true.mp c4 z hz)
        obtain ⟨h2, h3⟩ := ba h2
        refine ⟨.ref (ga K z.1), _, PySem.W.mg_of X G (eqO_ok h1), rfl, fun H => ?_⟩
        have t := tupB_ok h2 (fun _ => none)
        rcases t with (t | ⟨_, t⟩) | t
        · cases t
        · cases t
        · exact rep_ktup t (rel_rep h3)
  · obtain ⟨z, hz, rfl⟩ := List.mem_map.mp hq
    obtain ⟨h1, h2⟩ := ba (List.all_eq_true.mp c5 z hz)
    obtain ⟨cv, k1, k2, k3⟩ := name_cls (m := m) (P := P) (w := w) (base := base) X G h1
    refine ⟨_, cv, k1, k2, k3, fun t b e => ?_, fun c b e => ?_⟩
    · obtain ⟨y1, y2⟩ := ba (List.all_eq_true.mp h2 _ (look_mem e))
      have := of_decide_eq_true y1
      cases t <;> exact this
    · obtain ⟨y1, y2⟩ := ba (List.all_eq_true.mp h2 _ (look_mem e))
      exact insB_ok y2
  · obtain ⟨z, hz, rfl⟩ := List.mem_map.mp hq
    obtain ⟨h1, h2⟩ := ba (List.all_eq_true.mp c6 z hz)
    obtain ⟨cv, k1, k2, k3⟩ := name_cls (m := m) (P := P) (w := w) (base := base) X G h1
    refine ⟨_, cv, k1, k2, k3, fun c b e => ?_⟩
    obtain ⟨y1, y2⟩ := ba (List.all_eq_true.mp h2 _ (look_mem e))
    obtain ⟨y2, y3⟩ := ba y2
    exact ⟨of_decide_eq_true y1, of_decide_eq_true y2, excCB_ok y3⟩
  · obtain ⟨y0, y⟩ := ba (List.all_eq_true.mp c7 q hq)
    obtain ⟨y1, y⟩ := ba y
    obtain ⟨y2, y⟩ := ba y
    obtain ⟨y3, y⟩ := ba y
    obtain ⟨y4, y5⟩ := ba y
    have e := of_decide_eq_true y0
    have ec : (m.pg P w K mg base).ca q.2 = ga K q.1 := by show ga K (m.cn q.2) = _; rw [← e]
    refine ⟨by rw [ec]; exact PySem.W.mg_of X G (eqO_ok y1), ?_⟩
    refine ⟨⟨_, _, _, _, PySem.F.excBase_ValueError, by rw [ec]; exact y2⟩, by rw [ec]; exact y3, by rw [ec]; exact of_decide_eq_true y4, by rw [ec]; exact of_decide_eq_true y5⟩
  · intro c i e
    obtain ⟨y1, y⟩ := ba (List.all_eq_true.mp (List.all_eq_true.mp c8 q hq) _ (look_mem e))
    obtain ⟨y2, y3⟩ := ba y
    exact ⟨clsB_ok y1, eqO_ok y2, of_decide_eq_true y3, (m.self_nd hs c).1⟩
end
/-! ### the chain -/
section
variable {G : Pg} {l j k : Nat} {x : Str} {f : Addr} {fd : FuncData} {ps : List Str} {s : DSp} {c : Nat}
theorem callG_fn (hm : G.mg x = some (.ref f)) (hk : PySem.W.keepIn G.K (.ref f) = true) (hb : Binds G.K fd ps []) (F : FnOk G.P G.w G.K G.mg G.base (L2N.CX G.P G.w) (l + 1) f fd ps (LSp G s)) : CallG G l x s :=
  ⟨.ref f, hm, hk, fun X W S tk hr => call_fnP S tk hr F hb⟩
theorem callG_mk (hm : G.mg x = some (.ref (G.ca c))) (M : Mk G.K (G.ca c) f) (hb : Binds G.K fd ps []) (F : FnOk G.P G.w G.K G.mg G.base (L2N.CX G.P G.w) l f fd ps (LSp G s)) : CallG G l x (mkSp c s) :=
  ⟨.ref (G.ca c), hm, M.kp, fun X W S tk hr => call_mkP S tk M hr F hb⟩
theorem hotG_fn (hm : G.mg x = some (.ref f)) (hk : PySem.W.keepIn G.K (.ref f) = true) (hb : Binds G.K fd ps []) (F : L2H.FnH G.P G.w G.K G.mg G.base (L2N.CX G.P G.w) (l + 1) f fd ps (LSp G s)) : HotG G l x s :=
  ⟨.ref f, hm, hk, fun X W S tk hc hr => call_hotP S tk hr hc F hb⟩
theorem GSt.hot {g : Gt} (st : GSt G g) (hs : List (Str × Nat × DSp)) (hm : List (Str × List (Nat × Nat × DSp))) : GSt G { g with hot := hs, hotm := hm } := ⟨st.free, st.val, st.kit, st.exk, st.exc, st.fld, st.sm⟩
theorem hotM_of {m : Str} (M : MethOk G m c f) (hb : Binds G.K fd ps []) (F : L2H.FnH G.P G.w G.K G.mg G.base (L2N.CX G.P G.w) (l + 1) f fd ps (LSp G s)) : HotM G l m c s := ⟨f, M, fun X W S tk hc hr => call_hotP S tk hr hc F hb⟩
theorem methG_of {m : Str} (M : MethOk G m c f) (hb : Binds G.K fd ps []) (F : FnOk G.P G.w G.K G.mg G.base (L2N.CX G.P G.w) (l + 1) f fd ps (LSp G s)) : MethG G l m c s := ⟨f, M, fun X W S tk hr => call_fnP S tk hr F hb⟩
end
end DW

/-! DW, part 15: the end: the law's promise at the script. -/
namespace DW
open PySem L2 PySem.Spec PyProof.Rows
theorem all_nil {α : Type} {P : α → Prop} : ∀ q ∈ ([] : List α), P q := fun _ h => nomatch h
theorem all_cons {α : Type} {P : α → Prop} {a : α} {l : List α} (h : P a) (t : ∀ q ∈ l, P q) : ∀ q ∈ a :: l, P q := fun q hq => (List.mem_cons.mp hq).elim (fun e => e ▸ h) (t q)
def h0 : DH := fun _ => none
theorem rh0 {G : Pg} {H : Hp} : RH G H h0 := fun _ _ e => nomatch e
/-- what a law's promise must say: at each script it answers True -/
def LawOk (n : Nat) (sp : DSp) : Prop := ∀ ns : List Int, ns.length ≤ n → sp [.rol (ns.map D.int)] h0 (fun d _ => d = .bl true) (fun _ _ => False)
theorem walk_end {l : PySem.W.OpenLaw} {n k : Nat} {q : Program} {loose : List Str} {XP : (Str → Option Value) → Heap → Prop} {YP : World → Heap → Prop} {d : DefRec} {sp : DSp} {x : Str} (pg : Program → World → PySem.W.Frag → (Str → Option Value) → Heap → Pg)
    (hpK : ∀ P w K mg base, (pg P w K mg base).K = K) (hpb : ∀ P w K mg b b', LSp (pg P w K mg b) sp = LSp (pg P w K mg b') sp)
    (hn : l.most = some n) (hn2 : n ≤ sizeLine) (hdf : d.params.defaults = []) (hr : Room k callerA) (hl : LawOk n sp)
    (F : ∀ (w : World) (mg : Str → Option Value) (fa : Addr) (h : Heap), YP w h → h.Ns mainGlobals mg → mg d.name = some (.ref fa) →
      ∃ (K : PySem.W.Frag) (fd : FuncData), K.In h ∧ (∀ (s : Shared) (u : Value), BindsTo s fd ⟨[u], []⟩ [(x, u)]) ∧ ∀ base : Heap, FnOk l.prog w K mg base (L2N.CX l.prog w) k fa fd [x] (LSp (pg l.prog w K mg base) sp)) :
    PySem.W.WalkO q loose XP YP l.row.toRowW d [] (fun f vs => PySem.call f vs) := by
  refine Att.attach_call hn hdf fun w s₀ s₁ mg mb fa o pm cd doc a vs ns G Y ho hd hcd hmg hobj hints hlen hg => ?_
  obtain ⟨K, fd, KX, hb, hF⟩ := F w mg fa _ Y G.T.g hmg
  refine law_call (sp := LSp (pg l.prog w K mg s₁.heap) sp) KX G.T.g G.T.b G.T.builtins G.T.nolimit hg hobj hints (Nat.le_trans hlen hn2) hr (fun base _ _ => by rw [hpb _ _ _ _ _ base]; exact hF base) hb (fun H hO hS => ?_) fun H e s' c => ?_
  · have hR : RoL K H a (ns.map V.int) := by
      rcases hS with (hS | hS) | hS
      · rcases hO a with e | ⟨_, _, e⟩
        · rw [e] at hS; cases hS
        · rw [e] at hS; cases hS
      · exact .inl hS
      · exact .inr hS
    refine ⟨[.rol (ns.map D.int)], h0, _, _, ?_, rh0, hl ns hlen, fun d h' v H' p tl rh r => ?_, fun _ _ _ _ _ z => z.elim⟩
    · rw [hpK]
      exact reps_cons (rep_rol hR (reps_ints ns)) reps_nil
    · subst p
      exact r.bl_
  · obtain ⟨_, _, _, _, _, _, _, _, _, _, _, _, z⟩ := c
    exact z
/-! ### with the table of one def's code object -/
def LawOkT (n : Nat) (sp : DSp) : Prop := ∀ ns : List Int, ns.length ≤ n → ∀ P : Addr, sp [.rol (ns.map D.int)] (up h0 P .tab) (fun d _ => d = .bl true) (fun _ _ => False)
/-- a list that is held as one that may change is as good as one that does not -/
def lstSp (sp : Sp) : Sp := fun vs H Q E => sp vs H Q E ∨ ∃ (a : Addr) (xs : List V), vs = [.ref a] ∧ H a = some (.lst xs) ∧ ∀ o : Obj, sp vs (L2.upd H a (.frz o (.lst xs))) Q fun _ _ _ => False
theorem fn_lst {P : Program} {w : World} {K : PySem.W.Frag} {mg : Str → Option Value} {base : Heap} {k : Nat} {f : Addr} {fd : FuncData} {ps : List Str} {sp : Sp} (F : FnOk P w K mg base (L2N.CX P w) k f fd ps sp) : FnOk P w K mg base (L2N.CX P w) k f fd ps (lstSp sp) where
  len := fun vs H Q E h => h.elim (fun z => F.len _ _ _ _ z) fun ⟨_, _, _, _, z⟩ => F.len _ _ _ _ (z { cls := .none })
  run := fun A outer s H args us vs Q E hr e0 hb r h => by
    rcases h with h | ⟨a, xs, rfl, ea, h⟩
    · exact F.run A outer s H args us vs Q E hr e0 hb r h
    · obtain ⟨z, its, n, rv, e⟩ := e0.hok a _ ea
      generalize ho : ({ cls := .type "list", data := .seq its.toArray n } : Obj) = o at e
      have ne : ∀ {b : Addr}, H b = none → b ≠ a := fun {b} q w => by rw [w, ea] at q; cases q
      have same : ∀ {b : Addr}, H b = none → L2.upd H a (.frz o (.lst xs)) b = none := fun {b} q => by rw [upd_ne (ne q)]; exact q
      have stay : ∀ {b : Addr} {u : HO}, H b = some u → (∀ ys, u ≠ .lst ys) → L2.upd H a (.frz o (.lst xs)) b = some u := fun {b u} q hu => by
        rw [upd_ne (fun w => by rw [w, ea] at q; exact hu xs (Option.some.inj q).symm)]; exact q
      have e1 : Env0 P w K mg base A outer s (L2.upd H a (.frz o (.lst xs))) := ⟨e0.frames, e0.mod, fun b ob q => ⟨(e0.bs b ob q).1, same (e0.bs b ob q).2⟩, e0.bsz, e0.funs, fun b q => same (e0.frf b q), fun b u q => by
        by_cases hba : b = a
        · subst hba
          rw [upd_same] at q
          cases q
          exact ⟨e, z, its, n, rv, by rw [ho]; exact e⟩
        · rw [upd_ne hba] at q
          exact (e0.hok b u q).stay (fun _ _ _ q => q) (fun c q => stay q fun _ w => (nomatch w)) fun c ys q => stay q fun _ w => (nomatch w), e0.bare⟩
      refine codeAny_mono (F.run A outer s _ args us _ Q _ hr e1 hb r (h o)) fun rr s' hh => ?_
      cases rr with
      | error x =>
        obtain ⟨_, _, _, _, _, _, _, _, _, _, _, _, q⟩ := hh
        exact q.elim
      | ok fl =>
        cases fl with
        | next => exact False.elim hh
        | brk => exact False.elim hh
        | cont => exact False.elim hh
        | ret u =>
          obtain ⟨v, H2, os, bare, un, hok2, r2, q⟩ := hh
          exact ⟨v, H2, os, bare, ⟨fun b ob q1 q2 => un.keep b ob q1 (same q2), fun b ob q1 q2 => un.slot b ob q1 (same q2), fun b ob q1 q2 => un.free b ob q1 (same q2), un.there,
            fun b ys q1 => un.tups b ys (stay q1 fun _ w => (nomatch w)), fun b ob u q1 => un.frzs b ob u (stay q1 fun _ w => (nomatch w)), fun b ps q1 => un.tbls b ps (stay q1 fun _ w => (nomatch w))⟩, hok2, r2, q⟩
theorem walk_endT {l : PySem.W.OpenLaw} {n k : Nat} {q : Program} {loose : List Str} {XP : (Str → Option Value) → Heap → Prop} {YP : World → Heap → Prop} {d : DefRec} {sp : DSp} {x : Str} {gn : He.Defn} (pg : Program → World → PySem.W.Frag → (Str → Option Value) → Heap → Pg)
    (hpK : ∀ P w K mg base, (pg P w K mg base).K = K) (hpt : ∀ P w K mg base, (pg P w K mg base).tab = (He.cT K gn).2) (hpb : ∀ P w K mg b b', LSp (pg P w K mg b) sp = LSp (pg P w K mg b') sp)
    (hn : l.most = some n) (hn2 : n ≤ sizeLine) (hdf : d.params.defaults = []) (hr : Room k callerA) (hl : LawOkT n sp)
    (F : ∀ (w : World) (mg : Str → Option Value) (fa : Addr) (h : Heap), YP w h → h.Ns mainGlobals mg → mg d.name = some (.ref fa) →
      ∃ (K : PySem.W.Frag) (fd : FuncData), K.In h ∧ h.get? (He.cT K gn).2 = some { cls := .none, data := .fields #[] } ∧ K.lookup (He.cT K gn).2 = none ∧ PySem.W.codeHdIn K (He.cT K gn).1 (He.cT K gn).2 = true ∧
        (∀ (s : Shared) (u : Value), BindsTo s fd ⟨[u], []⟩ [(x, u)]) ∧ ∀ base : Heap, K.In base → GxR.TabB base mg (He.cT K gn).1 (He.cT K gn).2 → FnOk l.prog w K mg base (L2N.CX l.prog w) k fa fd [x] (LSp (pg l.prog w K mg base) sp)) :
    PySem.W.WalkO q loose XP YP l.row.toRowW d [] (fun f vs => PySem.call f vs) := by
  refine Att.attach_callB hn hdf fun w s₀ s₁ mg mb fa o pm cd doc a vs ns G Y ho hd hcd hmg hobj hints hlen hbits hg => ?_
  obtain ⟨K, fd, KX, hT, nT, hC, hb, hF⟩ := F w mg fa _ Y G.T.g hmg
  refine LamX.law_callTs (sp := lstSp (LSp (pg l.prog w K mg s₁.heap) sp)) (cs := [He.cT K gn]) (CX := L2N.CX l.prog w) KX G.T.g G.T.b G.T.builtins G.T.nolimit hg (fun p hp => ?_) (fun p hp => ?_) (fun p hp => ?_) G.T.bmain hobj hints (Nat.le_trans hlen hn2) hr
    (fun base kb _ tb => ?_) hb (fun H hH hS => ?_) fun H e s' c => ?_
  · rw [List.mem_singleton.mp hp]; exact hT
  · rw [List.mem_singleton.mp hp]; exact nT
  · rw [List.mem_singleton.mp hp]; exact PySem.W.codeHd_of_K KX hC
  · rw [hpb _ _ _ _ _ base]
    have t := tb _ (List.mem_singleton.mpr rfl)
    exact fn_lst (hF base kb ⟨t.code, t.bm, t.gP⟩)
  · have eT : H (He.cT K gn).2 = some (.tbl #[]) := hH _ (List.mem_singleton.mpr rfl)
    have key : ∀ H' : Hp, H' (He.cT K gn).2 = some (.tbl #[]) → RoL K H' a (ns.map V.int) → LSp (pg l.prog w K mg s₁.heap) sp [.ref a] H' (fun v _ => v = .bl true) fun _ _ _ => False := fun H' eT hR => by
      refine ⟨[.rol (ns.map D.int)], up h0 (He.cT K gn).2 .tab, _, _, ?_, fun b o e => ?_, hl ns hlen _, fun d h' v H' p tl rh r => ?_, fun _ _ _ _ _ z => z.elim⟩
      · rw [hpK]
        exact reps_cons (rep_rol hR (reps_ints ns)) reps_nil
      · by_cases n : b = (He.cT K gn).2
        · subst n
          rw [up_same] at e
          cases e
          exact ⟨(hpt _ _ _ _ _).symm, #[], eT, trivial⟩
        · rw [up_ne n] at e
          cases e
      · subst p
        exact r.bl_
    rcases hS with (hS | hS) | hS
    · refine .inr ⟨a, _, rfl, hS, fun o => key _ ?_ (.inl ⟨o, upd_same⟩)⟩
      rw [upd_ne (fun w => by rw [w, hS] at eT; cases eT)]
      exact eT
    · exact .inl (key H eT (.inl hS))
    · exact .inl (key H eT (.inr hS))
  · obtain ⟨_, _, _, _, _, _, _, _, _, _, _, _, z⟩ := c
    exact z
end DW

/-! DW, part 16: words for the plain part. -/
namespace DW
open PySem L2
theorem mul_l {i j : Int} (h : -(2 ^ 64) < i) (h' : i < 2 ^ 64) : MulOk i j := .inl (.inl ⟨h, h'⟩)
theorem mul_r {i j : Int} (h : -(2 ^ 64) < j) (h' : j < 2 ^ 64) : MulOk i j := .inl (.inr ⟨h, h'⟩)
theorem div_ok {i j : Int} (h : 0 < j) (h' : j.natAbs < 2 ^ 200) : CDivW i j := wide_div h h' (by decide) (by decide)
theorem div_small {i j : Int} (h : 0 < j) (h' : j < 2 ^ 64) : CDivW i j := div_ok h (by omega)
theorem p15 : (10 : Int) ^ (15 : Int).toNat = 1000000000000000 := by decide
theorem p12 : (10 : Int) ^ (12 : Int).toNat = 1000000000000 := by decide
theorem p9 : (10 : Int) ^ (9 : Int).toNat = 1000000000 := by decide
theorem cp15 : CPow 10 15 := by unfold CPow; decide
theorem cp12 : CPow 10 12 := by unfold CPow; decide
theorem cp9 : CPow 10 9 := by unfold CPow; decide
theorem le1000 {n : Nat} (h : n ≤ 1000) : n ≤ sizeLine := Nat.le_of_lt (small1000 h)
theorem fgt {P : KD} {d : D} {h : DH} (p : P d h) : Fgt P d h := ⟨h, Sub.refl h, p⟩
theorem fgtS {P : KD} {d : D} {h h' : DH} (s : Sub h h') (p : P d h) : Fgt P d h' := ⟨h, s, p⟩
theorem fgtX {R : KX} {x : DX} {h : DH} (p : R x h) : FgtX R x h := ⟨h, Sub.refl h, p⟩
theorem fgtXS {R : KX} {x : DX} {h h' : DH} (s : Sub h h') (p : R x h) : FgtX R x h' := ⟨h, s, p⟩
/-! ### where branches meet again: names for what is to come -/
def kIf (t u : DS) (E : DEnds) (e : DSt) : Bool → DH → Prop := fun b h => if b = true then t E e h else u E e h
def kAsg (g : DG) (E : DEnds) (e : DSt) : KD := fun d h => g d e h E.nx
def kNx (r : DS) (E : DEnds) : DSt → DH → Prop := fun e h => r E e h
def kRt (P : KD) : KD := P
def onB (d : D) (X Y : Prop) : Prop := match d with
  | .bl true => X
  | .bl false => Y
  | _ => False
def onT (d : D) (X : Bool → Prop) : Prop := match d with
  | .bl b => X b
  | _ => False
def kT (Q : Bool → DH → Prop) : KD := fun d h => onT d fun b => Q b h
def kTru (Q : Bool → DH → Prop) : KD := fun d h => tRu d h fun b => Q b h
def kAnd (U : DT) (e : DSt) (Q : Bool → DH → Prop) (R : KX) : Bool → DH → Prop := fun b h => if b = true then U e h Q R else Q false h
def kOr (U : DT) (e : DSt) (Q : Bool → DH → Prop) (R : KX) : Bool → DH → Prop := fun b h => if b = true then Q true h else U e h Q R
def kNot (Q : Bool → DH → Prop) : Bool → DH → Prop := fun b h => Q (!b) h
def kAndV (a : DE) (e : DSt) (P : KD) (R : KX) : KD := fun x h => onB x (a e h P R) (P (.bl false) h)
def kOrV (a : DE) (e : DSt) (P : KD) (R : KX) : KD := fun x h => onB x (P (.bl true) h) (a e h P R)
def kNotV (P : KD) : KD := fun x h => onT x fun b => P (.bl (!b)) h
def kCh (c : DE) (e : DSt) (g : DO) (y : D) (P : KD) (R : KX) : KD := fun z h => onB z (c e h (fun w h1 => g y w h1 P) R) (P (.bl false) h)
def kCh3 (c d : DE) (e : DSt) (g k : DO) (y : D) (P : KD) (R : KX) : KD := fun z h => onB z (c e h (fun w h1 => g y w h1 (kCh d e k w P R)) R) (P (.bl false) h)
def kIfE (a b : DE) (e : DSt) (P : KD) (R : KX) : Bool → DH → Prop := fun c h => if c = true then a e h P R else b e h P R
def kCs (A : DA) (e : DSt) (Q : List D → DH → Prop) (R : KX) : KD := fun x h => A e h (fun xs h2 => Q (x :: xs) h2) R
/-- a new list -/
def kNew (xs : List D) (P : KD) (h : DH) : Prop := ∀ p, h p = none → P (.ref p) (up h p (.lst xs))
def kIsiX (ad : Addr) (o : Option Bool) (P : KD) : KD := fun x h => (match x with
  | .ref b => b = ad
  | _ => False) ∧ ∃ b, o = some b ∧ P (.bl b) h
def kIsi (k : Kit) (P : KD) : KD := fun x h => ∃ t b, tagOf h x = some t ∧ k t = some b ∧ P (.bl b) h
def kRng1 (PP : List D → (DH → Prop) → DH → Prop) : KD := fun d h => match d with
  | .int j => (-(2 ^ 62) ≤ j ∧ j < 2 ^ 62) ∧ PP (rangeD 0 j.toNat) (fun _ => True) h
  | _ => False
def kRng2 (PP : List D → (DH → Prop) → DH → Prop) (i : Int) : KD := fun d h => match d with
  | .int j => (-(2 ^ 62) ≤ i ∧ i < 2 ^ 62 ∧ -(2 ^ 62) ≤ j ∧ j < 2 ^ 62) ∧ PP (rangeD i (j - i).toNat) (fun _ => True) h
  | _ => False
section
variable {t u : DS} {E : DEnds} {e : DSt} {h : DH} {P : KD} {R : KX} {a b c : DE} {f g : DO} {i j : Int} {x y : D} {k : Bool} {X Y : Prop} {T U : DT} {Q : Bool → DH → Prop} {A : DA} {PA : List D → DH → Prop} {p q : Prop} [Decidable p]
theorem w_seq : sSeq t u E e h = t { E with nx := kNx u E } e h := propext Iff.rfl
theorem w_next : sNext E e h = E.nx e h := propext Iff.rfl
theorem w_brk : sBrk E e h = E.bk e h := propext Iff.rfl
theorem w_cnt : sCnt E e h = E.ct e h := propext Iff.rfl
theorem w_drop : sDrop a E e h = a e h (fun _ h1 => E.nx e h1) (fun x h1 => E.ex x e h1) := propext Iff.rfl
theorem w_ret : sRet a E e h = a e h (kRt E.rt) (fun x h1 => E.ex x e h1) := propext Iff.rfl
theorem w_retN : sRetN E e h = E.rt .non h := propext Iff.rfl
theorem w_if : sIf T t u E e h = T e h (kIf t u E e) (fun x h1 => E.ex x e h1) := propext Iff.rfl
theorem w_asg {g : DG} : sAsg a g E e h = a e h (kAsg g E e) (fun x h1 => E.ex x e h1) := propext Iff.rfl
theorem w_var {n : Nat} : cVar n e h P R = match lk e n with
  | some d => P d h
  | none => False := propext Iff.rfl
theorem w_D : cD x e h P R = P x h := propext Iff.rfl
theorem w_bin : cBin f a b e h P R = a e h (fun x h1 => b e h1 (fun y h2 => f x y h2 P) R) R := propext Iff.rfl
theorem onB_eq {d : D} {X Y : Prop} : onB d X Y = (match d with
  | .bl true => X
  | .bl false => Y
  | _ => False) := propext Iff.rfl
theorem w_chain : cChain f g a b c e h P R = a e h (fun x h1 => b e h1 (fun y h2 => f x y h2 (kCh c e g y P R)) R) R := propext Iff.rfl
theorem w_chain3 {k : DO} {d : DE} : cChain3 f g k a b c d e h P R = a e h (fun x h1 => b e h1 (fun y h2 => f x y h2 (kCh3 c d e g k y P R)) R) R := propext Iff.rfl
theorem w_nil : cNil e h PA R = PA [] h := propext Iff.rfl
theorem w_cons : cCons a A e h PA R = a e h (fun x h1 => A e h1 (fun xs h2 => PA (x :: xs) h2) R) R := propext Iff.rfl
theorem w_tup : cTup A e h P R = A e h (fun xs h1 => xs.length ≤ sizeLine ∧ P (.tup xs) h1) R := propext Iff.rfl
theorem w_lst : cLst A e h P R = A e h (fun xs h1 => xs.length ≤ sizeLine ∧ kNew xs P h1) R := propext Iff.rfl
theorem w_tru : cTru a e h Q R = a e h (kTru Q) R := propext Iff.rfl
theorem w_tst : cTst a e h Q R = a e h (kT Q) R := propext Iff.rfl
theorem w_and : cAnd T U e h Q R = T e h (kAnd U e Q R) R := propext Iff.rfl
theorem w_or : cOr T U e h Q R = T e h (kOr U e Q R) R := propext Iff.rfl
theorem w_not : cNot T e h Q R = T e h (kNot Q) R := propext Iff.rfl
theorem w_andV : cAndV a b e h P R = a e h (kAndV b e P R) R := propext Iff.rfl
theorem w_orV : cOrV a b e h P R = a e h (kOrV b e P R) R := by
  unfold cOrV kOrV
  congr
  funext x h1
  cases x <;> first | rfl | skip
  rename_i k
  cases k <;> rfl
theorem w_notV : cNotV a e h P R = a e h (kNotV P) R := propext Iff.rfl
theorem w_ifE : cIfE T a b e h P R = T e h (kIfE a b e P R) R := propext Iff.rfl
theorem w_neg : cNeg a e h P R = a e h (fun x h1 => match x with
  | .int i => P (.int (-i)) h1
  | _ => False) R := propext Iff.rfl
theorem w_onB : onB (.bl k) X Y = if k = true then X else Y := by cases k <;> rfl
theorem w_onT {X : Bool → Prop} : onT (.bl k) X = X k := propext Iff.rfl
theorem w_call {s : DSp} : cCall s A e h P R = A e h (fun ds h1 => s ds h1 P R) R := propext Iff.rfl
theorem w_B {bb : DB} : cB bb A e h P R = A e h (fun ds h1 => bb ds h1 P) R := propext Iff.rfl
theorem w_raise {n : Nat} : sRaise n A E e h = A e h (fun ds h1 => ds.length ≤ sizeLine ∧ E.ex ⟨n, none⟩ e h1) (fun x h1 => E.ex x e h1) := propext Iff.rfl
theorem w_try {l : List DCl} : sTry t l E e h = t { E with ex := exCl E l } e h := propext Iff.rfl
theorem w_for {it : DI} {tg : DG} : sFor it tg t E e h = it e h (fun ds still h1 => forS still tg t ds E e h1) (fun x h1 => E.ex x e h1) := propext Iff.rfl
theorem w_gN {n : Nat} {e : DSt} {Q : DSt → DH → Prop} : gN n x e h Q = Q (e.set n (some x)) h := propext Iff.rfl
/-! operators at ints, truth values -/
theorem w_add : doAdd (.int i) (.int j) h P = P (.int (i + j)) h := propext Iff.rfl
theorem w_sub : doSub (.int i) (.int j) h P = P (.int (i - j)) h := propext Iff.rfl
theorem w_mul : doMul (.int i) (.int j) h P = (MulOk i j ∧ P (.int (i * j)) h) := propext Iff.rfl
theorem w_div : doDiv (.int i) (.int j) h P = (CDivW i j ∧ P (.int (i / j)) h) := propext Iff.rfl
theorem w_mod : doMod (.int i) (.int j) h P = (0 < j ∧ P (.int (i % j)) h) := propext Iff.rfl
theorem w_pow : doPow (.int i) (.int j) h P = (CPow i j ∧ P (.int (i ^ j.toNat)) h) := propext Iff.rfl
theorem w_lt : doLt (.int i) (.int j) h P = P (.bl (decide (i < j))) h := propext Iff.rfl
theorem w_ltIB {a b : Bool} : doLt (.tup [.int i, .bl a]) (.tup [.int j, .bl b]) h P = P (.bl (ltIB i a j b)) h := propext Iff.rfl
theorem w_le : doLe (.int i) (.int j) h P = P (.bl (decide (i ≤ j))) h := propext Iff.rfl
theorem w_gt : doGt (.int i) (.int j) h P = P (.bl (decide (j < i))) h := propext Iff.rfl
theorem w_ge : doGe (.int i) (.int j) h P = P (.bl (decide (j ≤ i))) h := propext Iff.rfl
theorem w_eqI : doEq (.int i) (.int j) h P = P (.bl (decide (i = j))) h := propext Iff.rfl
theorem w_neI : doNe (.int i) (.int j) h P = P (.bl (!decide (i = j))) h := propext Iff.rfl
theorem w_bInt : bInt [.int i] h P = P (.int i) h := propext Iff.rfl
theorem w_lenR {ds : List D} : bLen [.rol ds] h P = P (.int (ds.length : Nat)) h := propext ⟨fun ⟨_, e, q⟩ => by cases e; exact q, fun q => ⟨_, rfl, q⟩⟩
theorem w_lenT {ds : List D} : bLen [.tup ds] h P = P (.int (ds.length : Nat)) h := propext ⟨fun ⟨_, e, q⟩ => by cases e; exact q, fun q => ⟨_, rfl, q⟩⟩
theorem w_lenK {ds : List D} : bLen [.ktup ds] h P = P (.int (ds.length : Nat)) h := propext ⟨fun ⟨_, e, q⟩ => by cases e; exact q, fun q => ⟨_, rfl, q⟩⟩
theorem w_lenL {a : Addr} {ds : List D} (he : h a = some (.lst ds)) : bLen [.ref a] h P = P (.int (ds.length : Nat)) h := by
  have e : lenD h (.ref a) = some ds.length := by unfold lenD; simp only [he]
  exact propext ⟨fun ⟨_, e', q⟩ => by rw [e] at e'; cases e'; exact q, fun q => ⟨_, e, q⟩⟩
theorem w_ixR {ds : List D} : doIx (.rol ds) (.int i) h P = ∃ d, L2.atI ds i = some d ∧ P d h := propext Iff.rfl
theorem w_ixT {ds : List D} : doIx (.tup ds) (.int i) h P = ∃ d, L2.atI ds i = some d ∧ P d h := propext Iff.rfl
theorem w_ixK {ds : List D} : doIx (.ktup ds) (.int i) h P = ∃ d, L2.atI ds i = some d ∧ P d h := propext Iff.rfl
theorem w_ixL {a : Addr} {ds : List D} (he : h a = some (.lst ds)) : doIx (.ref a) (.int i) h P = ∃ d, L2.atI ds i = some d ∧ P d h := by
  have e1 : isDict h a = false := by unfold isDict; simp only [he]
  have e2 : lstOf h (.ref a) = some ds := by unfold lstOf; simp only [he]
  refine propext ⟨fun q => ?_, fun ⟨d, e, q⟩ => ?_⟩
  · unfold doIx at q
    simp only [e1] at q
    rw [if_neg Bool.false_ne_true] at q
    obtain ⟨ds', i', d, e3, e4, e5, q⟩ := q
    rw [e2] at e3
    cases e3
    cases e4
    exact ⟨d, e5, q⟩
  · unfold doIx
    simp only [e1]
    rw [if_neg Bool.false_ne_true]
    exact ⟨ds, i, d, e2, rfl, e, q⟩
theorem w_kIfT : kIf t u E e true h = t E e h := propext Iff.rfl
theorem w_kIfF : kIf t u E e false h = u E e h := propext Iff.rfl
theorem w_ixU {a : Addr} {ds : List D} : doIx (.ref a) (.int i) (up h a (.lst ds)) P = ∃ d, L2.atI ds i = some d ∧ P d (up h a (.lst ds)) := w_ixL up_same
theorem w_lenU {a : Addr} {ds : List D} : bLen [.ref a] (up h a (.lst ds)) P = P (.int (ds.length : Nat)) (up h a (.lst ds)) := w_lenL up_same
theorem w_isiX {ad : Addr} {o : Option Bool} : cIsiX a ad o e h P R = a e h (kIsiX ad o P) R := propext Iff.rfl
theorem w_kIsiX {ad : Addr} {o : Option Bool} : kIsiX ad o P (.ref ad) h = ∃ b, o = some b ∧ P (.bl b) h := propext ⟨fun q => q.2, fun q => ⟨rfl, q⟩⟩
theorem w_exO {k : Nat → Option Bool} {n : Nat} : exO k ⟨n, none⟩ = k n := by
  unfold exO
  exact Eq.trans (Eq.refl _) (Eq.refl _)
theorem w_isi {kt : Kit} : cIsi a kt e h P R = a e h (kIsi kt P) R := propext Iff.rfl
theorem w_isiI {kt : Kit} : kIsi kt P (.int i) h = ∃ b, kt (.ty "int") = some b ∧ P (.bl b) h := propext ⟨fun ⟨t, b, e, q⟩ => by cases e; exact ⟨b, q⟩, fun ⟨b, q⟩ => ⟨_, b, rfl, q⟩⟩
theorem w_isiB {kt : Kit} : kIsi kt P (.bl k) h = ∃ b, kt (.ty "bool") = some b ∧ P (.bl b) h := propext ⟨fun ⟨t, b, e, q⟩ => by cases e; exact ⟨b, q⟩, fun ⟨b, q⟩ => ⟨_, b, rfl, q⟩⟩
theorem w_isiT {kt : Kit} {ds : List D} : kIsi kt P (.tup ds) h = ∃ b, kt (.ty "tuple") = some b ∧ P (.bl b) h := propext ⟨fun ⟨t, b, e, q⟩ => by cases e; exact ⟨b, q⟩, fun ⟨b, q⟩ => ⟨_, b, rfl, q⟩⟩
theorem w_isiR {kt : Kit} {ds : List D} : kIsi kt P (.rol ds) h = ∃ b, kt (.ty "list") = some b ∧ P (.bl b) h := propext ⟨fun ⟨t, b, e, q⟩ => by cases e; exact ⟨b, q⟩, fun ⟨b, q⟩ => ⟨_, b, rfl, q⟩⟩
theorem w_isiN {kt : Kit} : kIsi kt P .non h = ∃ b, kt (.ty "NoneType") = some b ∧ P (.bl b) h := propext ⟨fun ⟨t, b, e, q⟩ => by cases e; exact ⟨b, q⟩, fun ⟨b, q⟩ => ⟨_, b, rfl, q⟩⟩
theorem w_isiS {kt : Kit} {z : Str} : kIsi kt P (.str z) h = ∃ b, kt (.ty "str") = some b ∧ P (.bl b) h := propext ⟨fun ⟨t, b, e, q⟩ => by cases e; exact ⟨b, q⟩, fun ⟨b, q⟩ => ⟨_, b, rfl, q⟩⟩
theorem w_isiL {kt : Kit} {ad : Addr} {ds : List D} (he : h ad = some (.lst ds)) : kIsi kt P (.ref ad) h = ∃ b, kt (.ty "list") = some b ∧ P (.bl b) h := by
  have e1 : tagOf h (.ref ad) = some (.ty "list") := by unfold tagOf; simp only [he]
  exact propext ⟨fun ⟨t, b, e, q⟩ => by rw [e1] at e; cases e; exact ⟨b, q⟩, fun ⟨b, q⟩ => ⟨_, b, e1, q⟩⟩
theorem w_rng1 {PP : List D → (DH → Prop) → DH → Prop} : iRng1D (cCons a cNil) e h PP R = a e h (kRng1 PP) R := by
  unfold iRng1D cCons cNil
  congr
  funext x h1
  cases x <;> rfl
theorem w_kRng1 {PP : List D → (DH → Prop) → DH → Prop} : kRng1 PP (.int j) h = ((-(2 ^ 62) ≤ j ∧ j < 2 ^ 62) ∧ PP (rangeD 0 j.toNat) (fun _ => True) h) := propext Iff.rfl
theorem w_seqI {PP : List D → (DH → Prop) → DH → Prop} : iSeq a e h PP R = a e h (fun x h1 => itD x h1 PP) R := propext Iff.rfl
theorem w_itT {PP : List D → (DH → Prop) → DH → Prop} {ds : List D} : itD (.tup ds) h PP = PP ds (fun _ => True) h := propext Iff.rfl
theorem w_itK {PP : List D → (DH → Prop) → DH → Prop} {ds : List D} : itD (.ktup ds) h PP = PP ds (fun _ => True) h := propext Iff.rfl
theorem w_itR {PP : List D → (DH → Prop) → DH → Prop} {ds : List D} : itD (.rol ds) h PP = PP ds (fun _ => True) h := propext Iff.rfl
theorem w_itL {PP : List D → (DH → Prop) → DH → Prop} {ad : Addr} {ds : List D} (he : h ad = some (.lst ds)) : itD (.ref ad) h PP = PP ds (fun h' => h' ad = some (.lst ds)) h := by
  unfold itD
  simp only [he]
theorem w_pow15 : doPow (.int 10) (.int 15) h P = P (.int 1000000000000000) h := propext ⟨fun q => (show P (.int ((10 : Int) ^ (15 : Int).toNat)) h from q.2), fun q => ⟨cp15, (show P (.int ((10 : Int) ^ (15 : Int).toNat)) h from q)⟩⟩
theorem w_pow12 : doPow (.int 10) (.int 12) h P = P (.int 1000000000000) h := propext ⟨fun q => (show P (.int ((10 : Int) ^ (12 : Int).toNat)) h from q.2), fun q => ⟨cp12, (show P (.int ((10 : Int) ^ (12 : Int).toNat)) h from q)⟩⟩
theorem w_pow9 : doPow (.int 10) (.int 9) h P = P (.int 1000000000) h := propext ⟨fun q => (show P (.int ((10 : Int) ^ (9 : Int).toNat)) h from q.2), fun q => ⟨cp9, (show P (.int ((10 : Int) ^ (9 : Int).toNat)) h from q)⟩⟩
theorem go_nx (q : t E e h) : kNx t E e h := q
theorem go_asg {g : DG} (q : g x e h E.nx) : kAsg g E e x h := q
theorem go_rt (q : P x h) : kRt P x h := q
theorem go_ifT (q : t E e h) : kIf t u E e true h := q
theorem go_ifF (q : u E e h) : kIf t u E e false h := q
/-! branches that meet -/
theorem m_kIf {x y : Bool} : (if p then kIf t u E e x h else kIf t u E e y h) = kIf t u E e (if p then x else y) h := by split <;> rfl
theorem m_kAnd {x y : Bool} : (if p then kAnd U e Q R x h else kAnd U e Q R y h) = kAnd U e Q R (if p then x else y) h := by split <;> rfl
theorem m_kOr {x y : Bool} : (if p then kOr U e Q R x h else kOr U e Q R y h) = kOr U e Q R (if p then x else y) h := by split <;> rfl
theorem m_kNot {x y : Bool} : (if p then kNot Q x h else kNot Q y h) = kNot Q (if p then x else y) h := by split <;> rfl
theorem m_kIfE {x y : Bool} : (if p then kIfE a b e P R x h else kIfE a b e P R y h) = kIfE a b e P R (if p then x else y) h := by split <;> rfl
theorem m_kAsg {g : DG} : (if p then kAsg g E e x h else kAsg g E e y h) = kAsg g E e (if p then x else y) h := by split <;> rfl
theorem m_kRt : (if p then kRt P x h else kRt P y h) = kRt P (if p then x else y) h := by split <;> rfl
theorem m_kT : (if p then kT Q x h else kT Q y h) = kT Q (if p then x else y) h := by split <;> rfl
theorem m_kTru : (if p then kTru Q x h else kTru Q y h) = kTru Q (if p then x else y) h := by split <;> rfl
theorem m_kAndV : (if p then kAndV a e P R x h else kAndV a e P R y h) = kAndV a e P R (if p then x else y) h := by split <;> rfl
theorem m_kOrV : (if p then kOrV a e P R x h else kOrV a e P R y h) = kOrV a e P R (if p then x else y) h := by split <;> rfl
theorem m_kNotV : (if p then kNotV P x h else kNotV P y h) = kNotV P (if p then x else y) h := by split <;> rfl
theorem m_kCh {z : D} : (if p then kCh c e g z P R x h else kCh c e g z P R y h) = kCh c e g z P R (if p then x else y) h := by split <;> rfl
theorem m_kCh3 {k : DO} {d : DE} {z : D} : (if p then kCh3 c d e g k z P R x h else kCh3 c d e g k z P R y h) = kCh3 c d e g k z P R (if p then x else y) h := by split <;> rfl
theorem m_bl {a b : Bool} : (if p then D.bl a else D.bl b) = D.bl (if p then a else b) := by split <;> rfl
theorem m_int : (if p then D.int i else D.int j) = D.int (if p then i else j) := by split <;> rfl
theorem m_and {a : Bool} : (if p then a else false) = (decide p && a) := by split <;> simp_all
theorem m_or {a : Bool} : (if p then true else a) = (decide p || a) := by split <;> simp_all
theorem m_id {x : Bool} : (if p then x else x) = x := by split <;> rfl
theorem m_tf : (if p then true else false) = decide p := by split <;> simp_all
theorem m_ft : (if p then false else true) = !decide p := by split <;> simp_all
theorem m_or2 {a : Bool} : (if p then a else true) = (!decide p || a) := by split <;> simp_all
theorem m_and2 {a : Bool} : (if p then false else a) = (!decide p && a) := by split <;> simp_all
theorem dec_b {b : Bool} : decide (b = true) = b := by cases b <;> rfl
end
theorem for_ind {still : DH → Prop} {g : DG} {b : DS} {E : DEnds} (I : List D → DSt → DH → Prop) (step : ∀ d r e h (X : DSt → DH → Prop), I (d :: r) e h → (∀ e' h', I r e' h' → X e' h') → still h ∧ g d e h fun e1 h1 => b { E with nx := X, ct := X, bk := E.nx } e1 h1)
    (fin : ∀ e h, I [] e h → still h ∧ E.nx e h) : ∀ ds e h, I ds e h → forS still g b ds E e h
  | [], e, h, i => fin e h i
  | d :: r, e, h, i => step d r e h _ i fun e' h' i' => for_ind I step fin r e' h' i'
theorem rangeD_succ {lo : Int} {n : Nat} : rangeD lo (n + 1) = .int lo :: rangeD (lo + 1) n := by
  unfold rangeD
  rw [List.range_succ_eq_map, List.map_cons, List.map_map]
  congr 1
  · simp
  · refine List.map_congr_left fun x _ => ?_
    simp only [Function.comp]
    congr 1
    push_cast
    omega
theorem for_rngA {g : DG} {b : DS} {E : DEnds} {n : Nat} (I : Nat → DSt → DH → Prop) (step : ∀ k e h (X : DSt → DH → Prop), k < n → I k e h → (∀ e' h', I (k + 1) e' h' → X e' h') → g (.int (k : Nat)) e h fun e1 h1 => b { E with nx := X, ct := X, bk := E.nx } e1 h1)
    (fin : ∀ e h, I n e h → E.nx e h) : ∀ m k e h, m + k = n → I k e h → forS (fun _ => True) g b (rangeD (k : Nat) m) E e h
  | 0, k, e, h, hk, i => ⟨trivial, fin e h (by rw [show n = k by omega]; exact i)⟩
  | m + 1, k, e, h, hk, i => by
    rw [rangeD_succ]
    exact ⟨trivial, step k e h _ (by omega) i fun e' h' i' => for_rngA I step fin m (k + 1) e' h' (by omega) i'⟩
theorem for_rng {g : DG} {b : DS} {E : DEnds} {n : Nat} (I : Nat → DSt → DH → Prop) (step : ∀ k e h (X : DSt → DH → Prop), k < n → I k e h → (∀ e' h', I (k + 1) e' h' → X e' h') → g (.int (k : Nat)) e h fun e1 h1 => b { E with nx := X, ct := X, bk := E.nx } e1 h1)
    (fin : ∀ e h, I n e h → E.nx e h) (e : DSt) (h : DH) (i : I 0 e h) : forS (fun _ => True) g b (rangeD 0 n) E e h := for_rngA I step fin n 0 e h (by omega) i
theorem atI_of {α : Type} {xs : List α} {i : Int} {j : Nat} {x : α} (h : i = j) (e : xs[j]? = some x) : L2.atI xs i = some x := by
  subst h
  have l := (List.getElem?_eq_some_iff.mp e).1
  unfold L2.atI ixN
  rw [if_pos (Int.natCast_nonneg j), if_pos (by omega)]
  exact e
theorem atI_map {xs : List Int} {i : Int} {c : Int} (h : L2.atI xs i = some c) : L2.atI (xs.map D.int) i = some (.int c) := by
  unfold L2.atI at h ⊢
  rw [List.length_map]
  cases z : ixN xs.length i with
  | none => rw [z] at h; cases h
  | some j =>
    rw [z] at h
    show (xs.map D.int)[j]? = _
    rw [List.getElem?_map, show xs[j]? = some c from h]
    rfl
theorem atI_lt {α : Type} {xs : List α} {i : Int} (h0 : 0 ≤ i) (h1 : i < xs.length) : ∃ c, L2.atI xs i = some c ∧ xs[i.toNat]? = some c := by
  have e : ixN xs.length i = some i.toNat := by
    unfold ixN
    first
    | (simp [h0, h1]; done)
    | (simp only [h0, h1]; simp; omega)
    | (split <;> simp_all <;> omega)
  have l : i.toNat < xs.length := by omega
  refine ⟨xs[i.toNat], ?_, List.getElem?_eq_getElem l⟩
  unfold L2.atI
  rw [e]
  exact List.getElem?_eq_getElem l

theorem ex_some {α : Type} {x : α} {P : α → Prop} : (∃ d, some x = some d ∧ P d) = P x := propext ⟨fun ⟨_, e, q⟩ => by cases e; exact q, fun q => ⟨_, rfl, q⟩⟩
section
variable {α : Type} {a0 a1 a2 a3 a4 a5 a6 a7 a8 a9 : α} {l : List α}
theorem at0 : L2.atI (a0 :: l) 0 = some a0 := atI_of (j := 0) rfl rfl
theorem at1 : L2.atI (a0 :: a1 :: l) 1 = some a1 := atI_of (j := 1) rfl rfl
theorem at2 : L2.atI (a0 :: a1 :: a2 :: l) 2 = some a2 := atI_of (j := 2) rfl rfl
theorem at3 : L2.atI (a0 :: a1 :: a2 :: a3 :: l) 3 = some a3 := atI_of (j := 3) rfl rfl
theorem at4 : L2.atI (a0 :: a1 :: a2 :: a3 :: a4 :: l) 4 = some a4 := atI_of (j := 4) rfl rfl
theorem at5 : L2.atI (a0 :: a1 :: a2 :: a3 :: a4 :: a5 :: l) 5 = some a5 := atI_of (j := 5) rfl rfl
theorem at6 : L2.atI (a0 :: a1 :: a2 :: a3 :: a4 :: a5 :: a6 :: l) 6 = some a6 := atI_of (j := 6) rfl rfl
theorem at7 : L2.atI (a0 :: a1 :: a2 :: a3 :: a4 :: a5 :: a6 :: a7 :: l) 7 = some a7 := atI_of (j := 7) rfl rfl
theorem at8 : L2.atI (a0 :: a1 :: a2 :: a3 :: a4 :: a5 :: a6 :: a7 :: a8 :: l) 8 = some a8 := atI_of (j := 8) rfl rfl
theorem at9 : L2.atI (a0 :: a1 :: a2 :: a3 :: a4 :: a5 :: a6 :: a7 :: a8 :: a9 :: l) 9 = some a9 := atI_of (j := 9) rfl rfl
end
section
variable {t u : DS} {E : DEnds} {e : DSt} {h : DH} {P : KD} {R : KX} {a b c : DE} {f g : DO} {i j : Int} {x y : D} {k k' : Bool} {X Y : Prop} {T U : DT} {Q : Bool → DH → Prop} {A : DA} {PA : List D → DH → Prop} {s s' : Str} {ds : List D} {ad : Addr}
theorem eqD_b : eqD h (.bl k) (.bl k') = some (decide (k = k')) := by
  unfold eqD
  simp only [toPy]
  congr 1
theorem w_eqB : doEq (.bl k) (.bl k') h P = P (.bl (decide (k = k'))) h := by
  unfold doEq
  simp only [eqD_b, ex_some]
theorem w_neB : doNe (.bl k) (.bl k') h P = P (.bl (!decide (k = k'))) h := by
  unfold doNe
  simp only [eqD_b, ex_some]
theorem w_eqS : doEq (.str s) (.str s') h P = P (.bl (decide (s = s'))) h := propext Iff.rfl
theorem w_neS : doNe (.str s) (.str s') h P = P (.bl (!decide (s = s'))) h := propext Iff.rfl
theorem w_isN : doIs x .non h P = P (.bl x.isNon) h := by cases x <;> exact propext Iff.rfl
theorem w_isNotN : doIsNot x .non h P = P (.bl (!x.isNon)) h := by cases x <;> exact propext Iff.rfl
theorem w_isB : doIs (.bl k) (.bl k') h P = P (.bl (decide (k = k'))) h := propext Iff.rfl
theorem w_isNotB : doIsNot (.bl k) (.bl k') h P = P (.bl (!decide (k = k'))) h := propext Iff.rfl
theorem isNon_non : D.isNon .non = true := rfl
theorem isNon_int : D.isNon (.int i) = false := rfl
theorem isNon_bl : D.isNon (.bl k) = false := rfl
theorem isNon_str : D.isNon (.str s) = false := rfl
theorem isNon_tup : D.isNon (.tup ds) = false := rfl
theorem isNon_ref : D.isNon (.ref ad) = false := rfl
theorem w_max2 : bMax [.int i, .int j] h P = P (.int (max i j)) h := by
  have e : (if j > i then j else i) = max i j := by omega
  rw [← e]; exact propext Iff.rfl
theorem w_min2 : bMin [.int i, .int j] h P = P (.int (min i j)) h := by
  have e : (if j < i then j else i) = min i j := by omega
  rw [← e]; exact propext Iff.rfl
theorem w_gT {n : Nat} {g : DGs} {Q : DSt → DH → Prop} : gT n g (.tup ds) e h Q = (ds.length = n ∧ g ds e h Q) := propext Iff.rfl
theorem w_gK {n : Nat} {g : DGs} {Q : DSt → DH → Prop} : gT n g (.ktup ds) e h Q = (ds.length = n ∧ g ds e h Q) := propext Iff.rfl
theorem w_gsC {g : DG} {r : DGs} {Q : DSt → DH → Prop} : gsCons g r (x :: ds) e h Q = g x e h (fun e1 h1 => r ds e1 h1 Q) := propext Iff.rfl
theorem w_gsN {Q : DSt → DH → Prop} : gsNil [] e h Q = Q e h := propext ⟨fun q => q.2, fun q => ⟨rfl, q⟩⟩
theorem w_M {T : String} {m : DM} {o : DE} : cM T m o A e h P R = o e h (fun x h1 => tyD T h1 x ∧ A e h1 (fun ds h2 => m x ds h2 P) R) R := propext Iff.rfl
theorem w_tyU : tyD "list" (up h ad (.lst ds)) (.ref ad) = True := by
  unfold tyD
  simp only [up_same]
theorem w_tyL (he : h ad = some (.lst ds)) : tyD "list" h (.ref ad) = True := by
  unfold tyD
  simp only [he]
theorem w_appL (he : h ad = some (.lst ds)) : mAppend (.ref ad) [x] h P = (ds.length < sizeLine ∧ P .non (up h ad (.lst (ds ++ [x])))) := by
  unfold mAppend
  simp only [he]
theorem w_appU : mAppend (.ref ad) [x] (up h ad (.lst ds)) P = (ds.length < sizeLine ∧ P .non (up h ad (.lst (ds ++ [x])))) := by
  rw [w_appL up_same, up_up]
theorem w_fsC {still : DH → Prop} {g : DG} {r : List D} : forS still g t (x :: r) E e h = (still h ∧ g x e h fun e1 h1 => t { E with nx := forS still g t r E, ct := forS still g t r E, bk := E.nx } e1 h1) := propext Iff.rfl
theorem w_fsN {still : DH → Prop} {g : DG} : forS still g t [] E e h = (still h ∧ E.nx e h) := propext Iff.rfl
theorem w_tupL (he : h ad = some (.lst ds)) : bTuple [.ref ad] h P = P (.tup ds) h := by
  have e2 : seqOf h (.ref ad) = some ds := by simp only [seqOf, he]
  unfold bTuple
  simp only [e2, ex_some]
theorem w_tupU : bTuple [.ref ad] (up h ad (.lst ds)) P = P (.tup ds) (up h ad (.lst ds)) := w_tupL up_same
theorem w_tupT : bTuple [.tup ds] h P = P (.tup ds) h := by
  have e2 : seqOf h (.tup ds) = some ds := by simp only [seqOf]
  unfold bTuple
  simp only [e2, ex_some]
theorem w_listL (he : h ad = some (.lst ds)) : bList1 [.ref ad] h P = kNew ds P h := by
  have e2 : allOf h (.ref ad) = some ds := by simp only [allOf, he]
  unfold bList1 kNew
  simp only [e2, ex_some]
theorem w_listU : bList1 [.ref ad] (up h ad (.lst ds)) P = kNew ds P (up h ad (.lst ds)) := w_listL up_same
theorem w_listR : bList1 [.rol ds] h P = kNew ds P h := by
  have e2 : allOf h (.rol ds) = some ds := by simp only [allOf, seqOf]
  unfold bList1 kNew
  simp only [e2, ex_some]
theorem w_listT : bList1 [.tup ds] h P = kNew ds P h := by
  have e2 : allOf h (.tup ds) = some ds := by simp only [allOf, seqOf]
  unfold bList1 kNew
  simp only [e2, ex_some]
theorem w_itU {PP : List D → (DH → Prop) → DH → Prop} : itD (.ref ad) (up h ad (.lst ds)) PP = PP ds (fun h' => h' ad = some (.lst ds)) (up h ad (.lst ds)) := w_itL up_same
theorem w_isiU {kt : Kit} : kIsi kt P (.ref ad) (up h ad (.lst ds)) = ∃ b, kt (.ty "list") = some b ∧ P (.bl b) (up h ad (.lst ds)) := w_isiL up_same
theorem w_rng2 {PP : List D → (DH → Prop) → DH → Prop} : iRng2D (cCons a (cCons b cNil)) e h PP R = a e h (fun x h1 => b e h1 (fun y h2 => match x with
  | .int i => kRng2 PP i y h2
  | _ => False) R) R := by
  unfold iRng2D cCons cNil kRng2
  congr
  funext x h1
  congr
  funext y h2
  cases x <;> cases y <;> rfl
theorem w_kRng2 {PP : List D → (DH → Prop) → DH → Prop} : kRng2 PP i (.int j) h = ((-(2 ^ 62) ≤ i ∧ i < 2 ^ 62 ∧ -(2 ^ 62) ≤ j ∧ j < 2 ^ 62) ∧ PP (rangeD i (j - i).toNat) (fun _ => True) h) := propext Iff.rfl
end
end DW

/-! DW, part 17: words for the plain part: while, equality of data, slices, in. -/
namespace DW
open PySem L2
/-! ### a promise of nothing: for the last call of a def that calls itself -/
def bot : DSp := fun _ _ _ _ => False
theorem callG_bot {G : Pg} {l : Nat} {x : Str} {f : Addr} (hm : G.mg x = some (.ref f)) (hk : PySem.W.keepIn G.K (.ref f) = true) : CallG G l x bot :=
  ⟨.ref f, hm, hk, fun _ _ _ _ _ _ _ _ _ _ _ _ _ _ _ _ _ _ _ _ z _ _ => z.elim⟩
/-! ### keyword-only parameters, all written -/
def arD (ix : List Nat) (ds es : List D) : List D := ds ++ ix.map fun i => es.getD i .non
def arV (ix : List Nat) (us ws : List Value) : List Value := us ++ ix.map fun i => ws.getD i .none
def arL (ix : List Nat) (us ws : List V) : List V := us ++ ix.map fun i => ws.getD i .non
theorem vals_getD {vs : List V} {us : List Value} (r : Vals vs us) : ∀ i : Nat, L2.RelV (vs.getD i .non) (us.getD i .none) := by
  induction r with
  | nil => intro i; exact rfl
  | cons h _ ih =>
    intro i
    cases i with
    | zero => exact h
    | succ i => exact ih i
theorem reps_getD {K : PySem.W.Frag} {H : Hp} : ∀ {ds : List D} {vs : List V}, Reps K H ds vs → ∀ i : Nat, Rep K H (ds.getD i .non) (vs.getD i .non)
  | [], vs, r, i => by rw [r.nil_]; exact rep_non
  | d :: ds, vs, r, i => by
    obtain ⟨v, us, rfl, p, q⟩ := r.cons_
    cases i with
    | zero => exact p
    | succ i => exact reps_getD q i
theorem vals_ar {vs zs : List V} {us ws : List Value} (r : Vals vs us) (r2 : Vals zs ws) (ix : List Nat) : Vals (arL ix vs zs) (arV ix us ws) := by
  refine Vals.append r ?_
  induction ix with
  | nil => exact .nil
  | cons i ix ih => exact .cons (vals_getD r2 i) ih
theorem reps_ar {K : PySem.W.Frag} {H : Hp} {ds es : List D} {vs zs : List V} (r : Reps K H ds vs) (r2 : Reps K H es zs) (ix : List Nat) : Reps K H (arD ix ds es) (arL ix vs zs) := by
  refine Reps.append r ?_
  induction ix with
  | nil => exact reps_nil
  | cons i ix ih => exact reps_cons (reps_getD r2 i) ih
theorem bindD_of {G : Pg} {x qual : Str} {params : Arguments} {body : List Stmt} {scope : Scope} {kws : List (Str × V)} {f : Addr} {fd : FuncData} {ps ks : List Str} {n : Nat} (ix : List Nat) (F : FunD G.K x qual params body scope [] kws f fd)
    (h : ∀ (kV doc pm : Value) (an : Option Addr) (cdv ct : Value) (us ws : List Value), us.length = n → ws.length = ks.length → bindArgs (PySem.W.fnOf x qual params body scope .none kV doc pm an cdv ct) ⟨us, ks.zip ws⟩ = pure (ps.zip (arV ix us ws))) : BindD G fd ps n ks (arD ix) := by
  obtain ⟨oc, od, dV, kV, doc, pm, an, cdv, ct, osl, rfl, lk, hcd, hD, hK⟩ := F.ex
  rcases hD with ⟨_, rfl⟩ | ⟨e, _⟩
  · exact ⟨arV ix, fun s us ws X l1 l2 => BindsTo.of_eq (h kV doc pm an cdv ct us ws l1 l2), fun H ds es vs zs us ws l1 l2 r rz rs rt => ⟨_, vals_ar r rz ix, reps_ar rs rt ix⟩⟩
  · exact absurd rfl e
theorem callKG_mk {G : Pg} {l n c : Nat} {x : Str} {f : Addr} {fd : FuncData} {ps ks : List Str} {s : DSp} {ar : List D → List D → List D} (hm : G.mg x = some (.ref (G.ca c))) (M : Mk G.K (G.ca c) f) (hb : BindD G fd ps (n + 1) ks ar) (F : FnOk G.P G.w G.K G.mg G.base (L2N.CX G.P G.w) l f fd ps (LSp G s)) : CallKG G l x ks (mkSp2 c (arSp (n + 1) ks.length ar s)) :=
  ⟨.ref (G.ca c), hm, M.kp, fun X W S tk hr => call_mkKP S tk M hr F hb⟩
theorem callKG_fn {G : Pg} {l n : Nat} {x : Str} {f : Addr} {fd : FuncData} {ps ks : List Str} {s : DSp} {ar : List D → List D → List D} (hm : G.mg x = some (.ref f)) (hk : PySem.W.keepIn G.K (.ref f) = true) (hb : BindD G fd ps n ks ar) (F : FnOk G.P G.w G.K G.mg G.base (L2N.CX G.P G.w) (l + 1) f fd ps (LSp G s)) : CallKG G l x ks (arSp n ks.length ar s) :=
  ⟨.ref f, hm, hk, fun X W S tk hr => call_fnKP S tk hr F hb⟩
/-! ### new places -/
theorem up_none {h : DH} {p q : Addr} {u : MO} (e : up h p u q = none) : q ≠ p ∧ h q = none := by
  unfold up at e
  split at e
  · cases e
  · rename_i n; exact ⟨n, e⟩
theorem Sub.up {h h' : DH} {q : Addr} {u : MO} (s : Sub h h') : Sub (DW.up h q u) (DW.up h' q u) := fun a o e => by
  unfold DW.up at e ⊢
  split at e
  · rename_i z; rw [if_pos z]; exact e
  · rename_i z; rw [if_neg z]; exact s a o e
theorem ne_new {a p : Addr} {h : DH} {u : MO} (ha : h a = some u) (hp : h p = none) : a ≠ p := fun e => by rw [e, hp] at ha; cases ha
theorem up_at {a p : Addr} {h : DH} {u o : MO} (ha : h a = some u) (hp : h p = none) : DW.up h p o a = some u := by rw [up_ne (ne_new ha hp)]; exact ha
theorem sub_none {h H : DH} {p : Addr} (s : Sub h H) (e : H p = none) : h p = none := by
  cases z : h p with
  | none => rfl
  | some u => rw [s p u z] at e; cases e
section
variable {h H : DH} {xs ys : List D} {P : KD} {p a b : Addr} {u : MO}
theorem go_new (k : ∀ p H, h p = none → Sub h H → H p = some (.lst xs) → P (.ref p) H) : kNew xs P h := fun p hp => k p _ hp (Sub.new hp) up_same
theorem go_newE (k : ∀ p, h p = none → P (.ref p) (DW.up h p (.lst xs))) : kNew xs P h := k
theorem new_ret (ok : kNew xs P h) (S : Sub h H) : kNew xs (Fgt P) H := fun p hp => fgtS (Sub.up S) (ok p (sub_none S hp))
theorem new_k (ok : kNew xs P h) (S : Sub h H) : kNew xs (kRt (Fgt P)) H := new_ret ok S
/-- what a mutated place leaves -/
theorem Sub.set (s : Sub h H) (hp : h p = none) : Sub h (DW.up H p u) := Sub.over s hp
theorem w_catL (ha : h a = some (.lst xs)) (hb : h b = some (.lst ys)) : doAdd (.ref a) (.ref b) h P = (xs.length + ys.length ≤ sizeLine ∧ kNew (xs ++ ys) P h) := by
  unfold doAdd doCatL kNew
  simp only [ha, hb]
theorem w_catT : doAdd (.tup xs) (.tup ys) h P = (xs.length + ys.length ≤ sizeLine ∧ P (.tup (xs ++ ys)) h) := propext Iff.rfl
end
/-! ### while -/
def kWh (b : DS) (E : DEnds) (X : DSt → DH → Prop) (e : DSt) : Bool → DH → Prop := fun k h => if k = true then b { E with nx := X, ct := X, bk := E.nx } e h else E.nx e h
section
variable {c : DT} {b : DS} {E : DEnds} {X : DSt → DH → Prop} {e : DSt} {h : DH} {P : KD} {R : KX}
theorem w_while : sWhile c b E e h = ∃ n, whN c b n E e h := propext Iff.rfl
theorem w_kWhT : kWh b E X e true h = b { E with nx := X, ct := X, bk := E.nx } e h := propext Iff.rfl
theorem w_kWhF : kWh b E X e false h = E.nx e h := propext Iff.rfl
theorem m_kWh {p : Prop} [Decidable p] {x y : Bool} : (if p then kWh b E X e x h else kWh b E X e y h) = kWh b E X e (if p then x else y) h := by split <;> rfl
theorem while_ind (I : Nat → DSt → DH → Prop) (step : ∀ m e h (X : DSt → DH → Prop), I m e h → (∀ m' e' h', m' < m → I m' e' h' → X e' h') → c e h (kWh b E X e) (fun x h1 => E.ex x e h1)) (m : Nat) (e : DSt) (h : DH) (i : I m e h) : sWhile c b E e h := by
  have key : ∀ n m e h, m < n → I m e h → whN c b n E e h := by
    intro n
    induction n with
    | zero => intro m e h z; omega
    | succ n ih =>
      intro m e h l i
      exact step m e h (whN c b n E) i fun m' e' h' l' i' => ih m' e' h' (by omega) i'
  exact ⟨m + 1, key _ m e h (Nat.lt_succ_self m) i⟩
end
/-! ### data -/
structure Da {α : Type} (d : α → D) (p : α → PyData) (n : Nat) : Prop where
  py : ∀ (h : DH) (m : Nat) (a : α), n ≤ m → toPy h m (d a) = some (p a)
  eq : ∀ a b : α, PyData.eqv (p a) (p b) = true ↔ a = b
theorem da_int : Da D.int PyData.int 0 := ⟨fun h m a _ => by cases m <;> rfl, fun a b => by simp [PyData.eqv]⟩
theorem Da.pys {α : Type} {d : α → D} {p : α → PyData} {n : Nat} (D : Da d p n) {h : DH} {m : Nat} (l : n ≤ m) : ∀ xs : List α, toPys (toPy h m) (xs.map d) = some (xs.map p)
  | [] => rfl
  | x :: xs => by
    rw [List.map_cons, List.map_cons]
    show (match toPy h m (d x) with
      | some y => (toPys (toPy h m) (xs.map d)).map (y :: ·)
      | none => none) = _
    rw [D.py h m x l, D.pys l xs]
    rfl
theorem Da.eqs {α : Type} {d : α → DW.D} {p : α → PyData} {n : Nat} (D : Da d p n) : ∀ xs ys : List α, PyData.eqvAll (xs.map p) (ys.map p) = true ↔ xs = ys
  | [], [] => by simp [PyData.eqvAll]
  | [], y :: ys => by simp [PyData.eqvAll]
  | x :: xs, [] => by simp [PyData.eqvAll]
  | x :: xs, y :: ys => by
    rw [List.map_cons, List.map_cons, PyData.eqvAll, Bool.and_eq_true, D.eq, D.eqs xs ys]
    simp
theorem Da.pair {α β : Type} {d : α → D} {p : α → PyData} {n : Nat} {d' : β → D} {p' : β → PyData} {n' : Nat} (A : Da d p n) (B : Da d' p' n') : Da (fun x : α × β => D.tup [d x.1, d' x.2]) (fun x => PyData.tuple [p x.1, p' x.2]) (max n n' + 1) := by
  refine ⟨fun h m a l => ?_, fun a b => ?_⟩
  · cases m with
    | zero => omega
    | succ m => simp [toPy, toPys, A.py h m a.1 (by omega), B.py h m a.2 (by omega)]
  · simp only [PyData.eqv, PyData.eqvAll, Bool.and_true, Bool.and_eq_true, A.eq, B.eq, Prod.ext_iff]
theorem Da.tupL {α : Type} {d : α → D} {p : α → PyData} {n : Nat} (A : Da d p n) : Da (fun x : List α => D.tup (x.map d)) (fun x => PyData.tuple (x.map p)) (n + 1) := by
  refine ⟨fun h m a l => ?_, fun a b => ?_⟩
  · cases m with
    | zero => omega
    | succ m => simp [toPy, A.pys (show n ≤ m by omega)]
  · simp only [PyData.eqv, A.eqs]
theorem Da.rolL {α : Type} {d : α → D} {p : α → PyData} {n : Nat} (A : Da d p n) : Da (fun x : List α => D.rol (x.map d)) (fun x => PyData.list (x.map p)) (n + 1) := by
  refine ⟨fun h m a l => ?_, fun a b => ?_⟩
  · cases m with
    | zero => omega
    | succ m => simp [toPy, A.pys (show n ≤ m by omega)]
  · simp only [PyData.eqv, A.eqs]
/-- what a value of the heap reads as -/
def PyL (h : DH) (a : Addr) (q : PyData) : Prop := ∀ m, 19 ≤ m → toPy h m (.ref a) = some q
theorem Da.pyL {α : Type} {d : α → D} {p : α → PyData} {n : Nat} (A : Da d p n) (hn : n < 19) {h : DH} {a : Addr} {xs : List α} (e : h a = some (.lst (xs.map d))) {m : Nat} (hm : n < m) : toPy h m (.ref a) = some (.list (xs.map p)) := by
  cases m with
  | zero => omega
  | succ m => simp [toPy, e, A.pys (show n ≤ m by omega)]
section
variable {α : Type} {d : α → D} {p : α → PyData} {n : Nat} {h : DH} {P : KD} {xs ys : List α} {a b : Addr} {x : α}
theorem bool_dec {b : Bool} {q : Prop} [Decidable q] (e : b = true ↔ q) : b = decide q := by
  by_cases k : q
  · rw [decide_eq_true k]; exact e.mpr k
  · rw [decide_eq_false k]
    cases b
    · rfl
    · exact absurd (e.mp rfl) k
theorem doEq_of {x y : D} {p q : PyData} {v : Bool} (e1 : toPy h 20 x = some p) (e2 : toPy h 20 y = some q) (e3 : PyData.eqv p q = v) (s : ∀ i j, ¬ (x = .int i ∧ y = .int j)) (s2 : ∀ i j, ¬ (x = .str i ∧ y = .str j)) : doEq x y h P = P (.bl v) h := by
  have e : eqD h x y = some v := by unfold eqD; simp only [e1, e2, e3]
  unfold doEq
  split
  · exact absurd ⟨rfl, rfl⟩ (s _ _)
  · exact absurd ⟨rfl, rfl⟩ (s2 _ _)
  · simp only [e, ex_some]
theorem doNe_of {x y : D} {p q : PyData} {v : Bool} (e1 : toPy h 20 x = some p) (e2 : toPy h 20 y = some q) (e3 : PyData.eqv p q = v) (s : ∀ i j, ¬ (x = .int i ∧ y = .int j)) (s2 : ∀ i j, ¬ (x = .str i ∧ y = .str j)) : doNe x y h P = P (.bl (!v)) h := by
  have e : eqD h x y = some v := by unfold eqD; simp only [e1, e2, e3]
  unfold doNe
  split
  · exact absurd ⟨rfl, rfl⟩ (s _ _)
  · exact absurd ⟨rfl, rfl⟩ (s2 _ _)
  · simp only [e, ex_some]
theorem Da.eqLL [DecidableEq α] (A : Da d p n) (hn : n < 19) (ea : h a = some (.lst (xs.map d))) (eb : h b = some (.lst (ys.map d))) : doEq (.ref a) (.ref b) h P = P (.bl (decide (xs = ys))) h :=
  doEq_of (A.pyL hn ea (by omega)) (A.pyL hn eb (by omega)) (bool_dec (by rw [PyData.eqv]; exact A.eqs _ _)) (fun _ _ z => by cases z.1) (fun _ _ z => by cases z.1)
theorem Da.neLL [DecidableEq α] (A : Da d p n) (hn : n < 19) (ea : h a = some (.lst (xs.map d))) (eb : h b = some (.lst (ys.map d))) : doNe (.ref a) (.ref b) h P = P (.bl (!decide (xs = ys))) h :=
  doNe_of (A.pyL hn ea (by omega)) (A.pyL hn eb (by omega)) (bool_dec (by rw [PyData.eqv]; exact A.eqs _ _)) (fun _ _ z => by cases z.1) (fun _ _ z => by cases z.1)
/-- two tuples of two lists -/
theorem Da.ne2 [DecidableEq α] {a' b' : Addr} {xs' ys' : List α} (A : Da d p n) (hn : n < 18) (ea : h a = some (.lst (xs.map d))) (eb : h b = some (.lst (ys.map d))) (ea' : h a' = some (.lst (xs'.map d))) (eb' : h b' = some (.lst (ys'.map d))) :
    doNe (.tup [.ref a, .ref a']) (.tup [.ref b, .ref b']) h P = P (.bl (!decide (xs = ys ∧ xs' = ys'))) h := by
  have t : ∀ {a a' : Addr} {xs xs' : List α}, h a = some (.lst (xs.map d)) → h a' = some (.lst (xs'.map d)) → toPy h 20 (.tup [.ref a, .ref a']) = some (.tuple [.list (xs.map p), .list (xs'.map p)]) := by
    intro a a' xs xs' e e'
    simp [toPy, toPys, e, e', A.pys (show n ≤ 18 by omega)]
  refine doNe_of (t ea ea') (t eb eb') (bool_dec ?_) (fun _ _ z => by cases z.1) (fun _ _ z => by cases z.1)
  simp only [PyData.eqv, PyData.eqvAll, Bool.and_true, Bool.and_eq_true, A.eqs]
theorem isDict_lst {ds : List D} (e : h a = some (.lst ds)) : isDict h a = false := by unfold isDict; simp only [e]
theorem lstOf_lst {ds : List D} (e : h a = some (.lst ds)) : lstOf h (.ref a) = some ds := by unfold lstOf; simp only [e]
theorem Da.mem [DecidableEq α] (A : Da d p n) (hn : n < 19) : memL h (d x) (xs.map d) = some (decide (x ∈ xs)) := by
  unfold memL
  rw [A.py h 19 x (by omega), A.pys (show n ≤ 19 by omega)]
  show some _ = some _
  congr 1
  refine bool_dec ?_
  rw [List.any_map, List.any_eq_true]
  constructor
  · rintro ⟨y, m, e⟩
    have := (A.eq y x).mp e
    rw [← this]; exact m
  · intro m
    exact ⟨x, m, (A.eq x x).mpr rfl⟩
theorem Da.inL [DecidableEq α] (A : Da d p n) (hn : n < 19) (e : h a = some (.lst (xs.map d))) : doIn (d x) (.ref a) h P = P (.bl (decide (x ∈ xs))) h := by
  unfold doIn doInB
  simp only [isDict_lst e, lstOf_lst e, A.mem hn, if_neg Bool.false_ne_true, ex_some]
  refine propext ⟨fun z => ?_, fun q => .inl ⟨_, _, rfl, A.mem hn, q⟩⟩
  rcases z with ⟨_, _, e1, e2, q⟩ | ⟨_, _, _, e1, _⟩
  · cases e1; rw [A.mem hn] at e2; cases e2; exact q
  · rw [e] at e1; cases e1
theorem Da.ninL [DecidableEq α] (A : Da d p n) (hn : n < 19) (e : h a = some (.lst (xs.map d))) : doNotIn (d x) (.ref a) h P = P (.bl (!decide (x ∈ xs))) h := by
  unfold doNotIn doInB
  simp only [isDict_lst e, lstOf_lst e, A.mem hn, if_neg Bool.false_ne_true, ex_some]
  refine propext ⟨fun z => ?_, fun q => .inl ⟨_, _, rfl, A.mem hn, q⟩⟩
  rcases z with ⟨_, _, e1, e2, q⟩ | ⟨_, _, _, e1, _⟩
  · cases e1; rw [A.mem hn] at e2; cases e2; exact q
  · rw [e] at e1; cases e1
end
/-! ### list comprehensions -/
def kLcY (L : Addr) (acc : List D) (X : List D → DH → Prop) : KD := fun y h3 => h3 L = some (.lst acc) ∧ acc.length < sizeLine ∧ X (acc ++ [y]) (up h3 L (.lst (acc ++ [y])))
def kLcB (te : DE) (L : Addr) (acc : List D) (X : List D → DH → Prop) (e1 : DSt) : Bool → DH → Prop := fun b h2 => if b = true then te e1 h2 (kLcY L acc X) (fun _ _ => False) else h2 L = some (.lst acc) ∧ X acc h2
def kLc (g : DG) (tt : DT) (te : DE) (vs : List Nat) (e : DSt) (P : KD) : List D → (DH → Prop) → DH → Prop := fun ds still h1 => ∀ L, h1 L = none → lcS L still g tt te (wipeD e vs) vs ds [] (up h1 L (.lst [])) P
section
variable {i : DI} {g : DG} {tt : DT} {te : DE} {vs : List Nat} {e : DSt} {h : DH} {P : KD} {R : KX} {L : Addr} {acc : List D} {X : List D → DH → Prop} {y : D} {Q : Bool → DH → Prop}
theorem w_lc : cLc i g tt te vs e h P R = i e h (kLc g tt te vs e P) R := propext Iff.rfl
theorem w_yes : tYesD e h Q R = Q true h := propext Iff.rfl
theorem w_kLcT : kLcB te L acc X e true h = te e h (kLcY L acc X) (fun _ _ => False) := propext Iff.rfl
theorem w_kLcF : kLcB te L acc X e false h = (h L = some (.lst acc) ∧ X acc h) := propext Iff.rfl
theorem m_kLcB {p : Prop} [Decidable p] {x y : Bool} : (if p then kLcB te L acc X e x h else kLcB te L acc X e y h) = kLcB te L acc X e (if p then x else y) h := by split <;> rfl
theorem w_kLcYU : kLcY L acc X y (up h L (.lst acc)) = (acc.length < sizeLine ∧ X (acc ++ [y]) (up h L (.lst (acc ++ [y])))) := by
  unfold kLcY
  rw [up_same, up_up]
  exact propext ⟨fun q => q.2, fun q => ⟨rfl, q⟩⟩
theorem w_wipe0 : wipeD e [] = e := rfl
theorem w_wipe {v : Nat} : wipeD e (v :: vs) = (wipeD e vs).set v none := by
  show (wipeD e vs).set v none = _
  exact Eq.trans rfl rfl
theorem lcS_eq {still : DH → Prop} {d : D} {r : List D} : lcS L still g tt te e vs (d :: r) acc h P = (still h ∧ g d e h fun e1 h1 => tt e1 h1 (kLcB te L acc (fun acc' h' => lcS L still g tt te e vs r acc' h' P) e1) (fun _ _ => False)) := propext Iff.rfl
theorem lc_ind {still : DH → Prop} (J : List D → List D → DH → Prop)
    (step : ∀ d r acc h (X : List D → DH → Prop), J (d :: r) acc h → (∀ acc' h', J r acc' h' → X acc' h') → still h ∧ g d e h fun e1 h1 => tt e1 h1 (kLcB te L acc X e1) (fun _ _ => False))
    (fin : ∀ acc h, J [] acc h → still h ∧ P (.ref L) h) : ∀ ds acc h, J ds acc h → lcS L still g tt te e vs ds acc h P
  | [], acc, h, j => fin acc h j
  | d :: r, acc, h, j => by
    rw [lcS_eq]
    exact step d r acc h _ j fun acc' h' j' => lc_ind J step fin r acc' h' j'
/-- a comprehension; the new list stands at L all the while -/
theorem go_lc {still : DH → Prop} {ds : List D} (J : Addr → List D → List D → DH → Prop) (h0 : ∀ L, h L = none → J L ds [] (up h L (.lst [])))
    (step : ∀ L d r acc h' (X : List D → DH → Prop), h L = none → J L (d :: r) acc h' → (∀ acc' h'', J L r acc' h'' → X acc' h'') → still h' ∧ g d (wipeD e vs) h' fun e1 h1 => tt e1 h1 (kLcB te L acc X e1) (fun _ _ => False))
    (fin : ∀ L acc h', h L = none → J L [] acc h' → still h' ∧ P (.ref L) h') : kLc g tt te vs e P ds still h :=
  fun L hL => lc_ind (J L) (fun d r acc h' X j k => step L d r acc h' X hL j k) (fun acc h' j => fin L acc h' hL j) ds [] _ (h0 L hL)
/-- a comprehension that is a map, of what leaves the heap as it is -/
theorem go_lcM {still : DH → Prop} {ds : List D} (f : D → D) (hlen : ds.length ≤ sizeLine) (st : ∀ L acc, h L = none → still (up h L (.lst acc)))
    (step : ∀ L acc d (X : List D → DH → Prop), h L = none → d ∈ ds → acc.length < sizeLine → X (acc ++ [f d]) (up h L (.lst (acc ++ [f d]))) → g d (wipeD e vs) (up h L (.lst acc)) fun e1 h1 => tt e1 h1 (kLcB te L acc X e1) (fun _ _ => False))
    (ok : kNew (ds.map f) P h) : kLc g tt te vs e P ds still h := by
  refine go_lc (fun L r acc h' => h' = up h L (.lst acc) ∧ acc ++ r.map f = ds.map f ∧ ∃ pre, ds = pre ++ r) (fun L hL => ⟨rfl, rfl, [], rfl⟩) (fun L d r acc h' X hL j k => ?_) (fun L acc h' hL j => ?_)
  · obtain ⟨rfl, e1, pre, e2⟩ := j
    refine ⟨st L acc hL, step L acc d X hL (by rw [e2]; simp) ?_ (k _ _ ⟨rfl, by rw [List.append_assoc]; exact e1, pre ++ [d], by rw [e2]; simp⟩)⟩
    have := congrArg List.length e1
    simp only [List.length_append, List.length_map, List.length_cons] at this
    omega
  · obtain ⟨rfl, e1, _⟩ := j
    refine ⟨st L acc hL, ?_⟩
    rw [List.map_nil, List.append_nil] at e1
    rw [e1]
    exact ok L hL
end
/-! ### sums and such -/
section
variable {h : DH} {P : KD} {a : Addr} {bs : List Bool} {ns : List Int}
theorem blsD_map : ∀ bs : List Bool, blsD (bs.map D.bl) = some bs
  | [] => rfl
  | b :: bs => by
    show (blsD (bs.map D.bl)).map (b :: ·) = _
    rw [blsD_map bs]; rfl
theorem intsD_map : ∀ ns : List Int, intsD (ns.map D.int) = some ns
  | [] => rfl
  | b :: bs => by
    show (intsD (bs.map D.int)).map (b :: ·) = _
    rw [intsD_map bs]; rfl
theorem w_allL (he : h a = some (.lst (bs.map D.bl))) : bAll [.ref a] h P = P (.bl (bs.all id)) h := by
  unfold bAll onBls
  refine propext ⟨fun ⟨xs, ns, e1, e2, q⟩ => ?_, fun q => ⟨_, _, lstOf_lst he, blsD_map bs, q⟩⟩
  rw [lstOf_lst he] at e1
  cases e1
  rw [blsD_map] at e2
  cases e2
  exact q
theorem w_anyL (he : h a = some (.lst (bs.map D.bl))) : bAny [.ref a] h P = P (.bl (bs.any id)) h := by
  unfold bAny onBls
  refine propext ⟨fun ⟨xs, ns, e1, e2, q⟩ => ?_, fun q => ⟨_, _, lstOf_lst he, blsD_map bs, q⟩⟩
  rw [lstOf_lst he] at e1
  cases e1
  rw [blsD_map] at e2
  cases e2
  exact q
theorem w_sumL (he : h a = some (.lst (ns.map D.int))) : bSum [.ref a] h P = P (.int ns.sum) h := by
  unfold bSum onInts
  refine propext ⟨fun ⟨xs, ns, e1, e2, q⟩ => ?_, fun q => ⟨_, _, lstOf_lst he, intsD_map ns, q⟩⟩
  rw [lstOf_lst he] at e1
  cases e1
  rw [intsD_map] at e2
  cases e2
  exact q
end
/-! ### iterations -/
def kIRev (PP : List D → (DH → Prop) → DH → Prop) : KD := fun x h1 => match x with
  | .tup ds => PP ds.reverse (fun _ => True) h1
  | .ktup ds => PP ds.reverse (fun _ => True) h1
  | _ => ∃ xs, lstOf h1 x = some xs ∧ PP xs.reverse (stillL x xs) h1
def kIEnum (PP : List D → (DH → Prop) → DH → Prop) : KD := fun x h1 => (∃ xs, lstOf h1 x = some xs ∧ PP (enumD xs) (stillL x xs) h1) ∨ ∃ xs, x = .tup xs ∧ PP (enumD xs) (fun _ => True) h1
section
variable {a : DE} {e : DSt} {h : DH} {R : KX} {PP : List D → (DH → Prop) → DH → Prop} {ad : Addr} {xs : List D}
theorem w_iRev : iRevD a e h PP R = a e h (kIRev PP) R := propext Iff.rfl
theorem w_iRevT : kIRev PP (.tup xs) h = PP xs.reverse (fun _ => True) h := propext Iff.rfl
theorem w_iRevL (he : h ad = some (.lst xs)) : kIRev PP (.ref ad) h = PP xs.reverse (fun h' => h' ad = some (.lst xs)) h :=
  propext ⟨fun ⟨ys, e1, q⟩ => by rw [lstOf_lst he] at e1; cases e1; exact q, fun q => ⟨xs, lstOf_lst he, q⟩⟩
theorem w_iEnum : iEnumD (cCons a cNil) e h PP R = a e h (kIEnum PP) R := propext Iff.rfl
theorem w_iEnumL (he : h ad = some (.lst xs)) : kIEnum PP (.ref ad) h = PP (enumD xs) (fun h' => h' ad = some (.lst xs)) h := by
  refine propext ⟨fun z => ?_, fun q => .inl ⟨xs, lstOf_lst he, q⟩⟩
  rcases z with ⟨ys, e1, q⟩ | ⟨ys, e1, _⟩
  · rw [lstOf_lst he] at e1; cases e1; exact q
  · cases e1
theorem w_iEnumT : kIEnum PP (.tup xs) h = PP (enumD xs) (fun _ => True) h := by
  refine propext ⟨fun z => ?_, fun q => .inr ⟨xs, rfl, q⟩⟩
  rcases z with ⟨ys, e1, q⟩ | ⟨ys, e1, q⟩
  · cases e1
  · cases e1; exact q
def kIZip (PP : List D → (DH → Prop) → DH → Prop) (x : D) : KD := fun y h1 => (∃ xs ys, lstOf h1 x = some xs ∧ lstOf h1 y = some ys ∧ PP (zipD xs ys) (fun h => stillL x xs h ∧ stillL y ys h) h1) ∨ ∃ xs ys, x = .tup xs ∧ y = .tup ys ∧ PP (zipD xs ys) (fun _ => True) h1
theorem w_iZip {b : DE} : iZipD (cCons a (cCons b cNil)) e h PP R = a e h (fun x h1 => b e h1 (kIZip PP x) R) R := propext Iff.rfl
theorem go_iZipL {bd : Addr} {ys : List D} (ha : h ad = some (.lst xs)) (hb : h bd = some (.lst ys)) (q : PP (zipD xs ys) (fun h' => h' ad = some (.lst xs) ∧ h' bd = some (.lst ys)) h) : kIZip PP (.ref ad) (.ref bd) h := .inl ⟨xs, ys, lstOf_lst ha, lstOf_lst hb, q⟩
theorem go_iZipT {ys : List D} (q : PP (zipD xs ys) (fun _ => True) h) : kIZip PP (.tup xs) (.tup ys) h := .inr ⟨xs, ys, rfl, rfl, q⟩
end
/-! ### slices -/
def kSl (lo hi : DO1) (e : DSt) (P : KD) (R : KX) : KD := fun x h1 => lo e h1 (fun l h2 => hi e h2 (fun u h3 => slD x l u h3 P) R) R
def kPart (Q : Option Int → DH → Prop) : KD := fun x h => match x with
  | .int i => Q (some i) h
  | _ => False
def kRev (P : KD) : KD := fun x h1 => ∃ ds, lstOf h1 x = some ds ∧ ∀ p, h1 p = none → P (.ref p) (up h1 p (.lst ds.reverse))
section
variable {E : DEnds} {e : DSt} {h : DH} {P : KD} {R : KX} {a : DE} {i : Int} {x : D} {ds : List D} {ad : Addr} {lo hi : DO1} {Q : Option Int → DH → Prop} {l u : Option Int}
theorem w_sl : cSl a lo hi e h P R = a e h (kSl lo hi e P R) R := propext Iff.rfl
theorem w_kSl : kSl lo hi e P R x h = lo e h (fun l h2 => hi e h2 (fun u h3 => slD x l u h3 P) R) R := propext Iff.rfl
theorem w_part : cPart a e h Q R = a e h (kPart Q) R := propext Iff.rfl
theorem w_kPart : kPart Q (.int i) h = Q (some i) h := propext Iff.rfl
theorem w_noPart : cNoPart e h Q R = Q none h := propext Iff.rfl
theorem w_slT : slD (.tup ds) l u h P = P (.tup (cutD ds l u)) h := propext Iff.rfl
theorem w_slR : slD (.rol ds) l u h P = kNew (cutD ds l u) P h := propext Iff.rfl
theorem w_slL (he : h ad = some (.lst ds)) : slD (.ref ad) l u h P = kNew (cutD ds l u) P h := by
  unfold slD kNew
  simp only [he]
theorem w_slU : slD (.ref ad) l u (up h ad (.lst ds)) P = kNew (cutD ds l u) P (up h ad (.lst ds)) := w_slL up_same
theorem w_rev : cRev a e h P R = a e h (kRev P) R := propext Iff.rfl
theorem w_revL (he : h ad = some (.lst ds)) : kRev P (.ref ad) h = kNew ds.reverse P h := by
  unfold kRev kNew
  simp only [lstOf_lst he, ex_some]
theorem w_revU : kRev P (.ref ad) (up h ad (.lst ds)) = kNew ds.reverse P (up h ad (.lst ds)) := w_revL up_same
end
theorem cut_from {xs : List D} {i : Int} (h : 0 ≤ i) : cutD xs (some i) none = xs.drop i.toNat := by
  unfold cutD
  obtain ⟨k, rfl⟩ := Int.eq_ofNat_of_zero_le h
  rw [HT.sIx_none, HT.sIx_nat, Int.toNat_natCast]
  by_cases z : k ≤ xs.length
  · rw [Nat.min_eq_left z, List.take_of_length_le (by simp)]
  · rw [Nat.min_eq_right (by omega), List.drop_of_length_le (by omega), List.take_nil, List.drop_of_length_le (by omega)]
theorem cut_to {xs : List D} {i : Int} (h : 0 ≤ i) : cutD xs none (some i) = xs.take i.toNat := by
  unfold cutD
  obtain ⟨k, rfl⟩ := Int.eq_ofNat_of_zero_le h
  rw [HT.sIx_none, HT.sIx_nat, Int.toNat_natCast, List.drop_zero, Nat.sub_zero]
  by_cases z : k ≤ xs.length
  · rw [Nat.min_eq_left z]
  · rw [Nat.min_eq_right (by omega), List.take_of_length_le (by omega), List.take_of_length_le (by omega)]
theorem cut_mid {xs : List D} {i j : Int} (h : 0 ≤ i) (h' : i ≤ j) : cutD xs (some i) (some j) = (xs.drop i.toNat).take (j - i).toNat := by
  unfold cutD
  obtain ⟨k, rfl⟩ := Int.eq_ofNat_of_zero_le h
  obtain ⟨m, rfl⟩ := Int.eq_ofNat_of_zero_le (Int.le_trans h h')
  rw [HT.sIx_nat, HT.sIx_nat, Int.toNat_natCast]
  have e : ((m : Int) - (k : Int)).toNat = m - k := by omega
  rw [e]
  by_cases z : k ≤ xs.length
  · rw [Nat.min_eq_left z]
    by_cases z2 : m ≤ xs.length
    · rw [Nat.min_eq_left z2]
    · rw [Nat.min_eq_right (by omega), List.take_of_length_le (by simp), List.take_of_length_le (by simp; omega)]
  · rw [Nat.min_eq_right (by omega : xs.length ≤ k), List.drop_of_length_le (Nat.le_refl _), List.drop_of_length_le (by omega), List.take_nil, List.take_nil]
/-! ### indices from behind -/
theorem at_last {α : Type} {xs : List α} {a : α} : L2.atI (xs ++ [a]) (-1) = some a := by
  unfold L2.atI ixN
  rw [if_neg (by omega), if_pos (by simp; omega)]
  have e2 : (-1 + ((xs ++ [a]).length : Int)).toNat = xs.length := by simp; omega
  show (xs ++ [a])[(-1 + ((xs ++ [a]).length : Int)).toNat]? = some a
  rw [e2]
  simp
end DW

/-! DW, part 18: properties, methods, makers: what the top must say; the hook. -/
namespace DW
open PySem L2 PySem.Spec He PyProof.Rows
def gAd (K : PySem.W.Frag) (p : Str × Option Str) : Addr := match PySem.W.recIn K (fAd K p) "property" with
  | some (.ref g :: _) => g
  | _ => 0
def fnA (K : PySem.W.Frag) (f : Addr) : FnW := match K.lookup f with
  | some ⟨_, _, .func fd, _⟩ => some (fd.name, fd.qualname, fd.params, fd.body, fd.scope, fd.globals, fd.closure, fd.builtins)
  | _ => none
def prOk (K : PySem.W.Frag) (d : DefD) : Bool := PySem.W.keepIn K (.ref (gAd K d.at_)) && (match K.lookup (gAd K d.at_) with
  | some ⟨_, _, .func fd, _⟩ => PySem.W.codeIn K fd.code d.qual && (dflB K fd.defaults (d.dvs K) && kwdB K fd.kwdefaults (d.kws K))
  | _ => false)
theorem prFun {K : PySem.W.Frag} {d : DefD} (e : fnA K (gAd K d.at_) = d.val) (c : prOk K d = true) : ∃ fd, FunD K d.name d.qual d.params d.body d.scope (d.dvs K) (d.kws K) (gAd K d.at_) fd := by
  obtain ⟨kp, c2⟩ := ba c
  unfold fnA at e
  cases q : K.lookup (gAd K d.at_) with
  | none =>
    rw [q] at c2
    cases c2
  | some o =>
    obtain ⟨oc, od, dt, osl⟩ := o
    rw [q] at c2 e
    cases dt with
    | func fd =>
      obtain ⟨n1, n2, n3, n4, n5, n6, n7, n8, n9, n10, n11, n12, n13, n14, n15⟩ := fd
      have e2 : (some (n1, n2, n3, n4, n5, n6, n7, n15) : FnW) = some (d.name, d.qual, d.params, .stmts d.body, d.scope, mainGlobals, [], builtinsNs) := e
      simp only [Option.some.injEq, Prod.mk.injEq] at e2
      obtain ⟨h1, h2, h3, h4, h5, h6, h7, h8⟩ := e2
      subst h1 h2 h3 h4 h5 h6 h7 h8
      have c3 : (PySem.W.codeIn K n13 d.qual && (dflB K n8 (d.dvs K) && kwdB K n9 (d.kws K))) = true := c2
      obtain ⟨k1, k2⟩ := ba c3
      obtain ⟨k3, k4⟩ := ba k2
      exact ⟨_, ⟨oc, od, n8, n9, n10, n11, n12, n13, n14, osl, rfl, q, k1, dflB_ok k3, kwdB_ok k4⟩, kp⟩
    | _ => cases c2
def propB (K : PySem.W.Frag) (C m : Str) : Bool := clsB K (ga K C) && (eqO (PySem.W.findIn K (.ref (ga K C)) m) (some (some (.ref (ma K (ga K C) m)))) && (eqO (PySem.W.specialIn K (.ref (ma K (ga K C) m)) "__get__") (some (some (.builtin "property.__get__"))) &&
  (eqV1 (PySem.W.takesIn K (.ref (ma K (ga K C) m))) (some true) && (match PySem.W.recIn K (ma K (ga K C) m) "property" with
    | some (.ref _ :: _) => true
    | _ => false))))
theorem propB_ok {K : PySem.W.Frag} {C m : Str} (h : propB K C m = true) : Cls K (ga K C) ∧ PropOf K (ga K C) m (ma K (ga K C) m) (gAd K (C, some m)) := by
  obtain ⟨c1, c⟩ := ba h
  obtain ⟨c2, c⟩ := ba c
  obtain ⟨c3, c⟩ := ba c
  obtain ⟨c4, c5⟩ := ba c
  refine ⟨clsB_ok c1, eqO_ok c2, eqO_ok c3, of_decide_eq_true c4, ?_⟩
  have e : gAd K (C, some m) = match PySem.W.recIn K (ma K (ga K C) m) "property" with
    | some (.ref g :: _) => g
    | _ => 0 := rfl
  rw [e]
  split at c5
  · rename_i g r z
    exact ⟨r, z⟩
  · cases c5
def methB (K : PySem.W.Frag) (C m : Str) : Bool := clsB K (ga K C) && ((Fa.meth C m).ok K && (!(m == ("__eq__" : Str)) || (eqO (PySem.W.findIn K (.ref (ga K C)) "__ne__") (some (some (.builtin "object.__ne__"))) && eqV1 (PySem.W.mroIn K (ga K C) (.type "object")) (some true))))
theorem methB_ok {G : Pg} {C m : Str} {c : Nat} (h : methB G.K C m = true) (e : G.ca c = ga G.K C) (n : m ∉ G.fn c) : MethOk G m c (ma G.K (ga G.K C) m) := by
  obtain ⟨h1, h2⟩ := ba h
  obtain ⟨h2, h3⟩ := ba h2
  refine ⟨by rw [e]; exact clsB_ok h1, by rw [e]; exact He.meth_ok h2, n, fun em => ?_⟩
  subst em
  rcases Bool.or_eq_true_iff.mp h3 with h3 | h3
  · simp at h3
  · obtain ⟨h4, h5⟩ := ba h3
    exact ⟨by rw [e]; exact eqO_ok h4, by rw [e]; exact of_decide_eq_true h5⟩
theorem propG_of {G : Pg} {C m : Str} {c k : Nat} {fd : FuncData} {ps : List Str} {s : DSp} (h : propB G.K C m = true) (e : G.ca c = ga G.K C) (hb : Binds G.K fd ps []) (F : FnOk G.P G.w G.K G.mg G.base (L2N.CX G.P G.w) k (gAd G.K (C, some m)) fd ps (LSp G s)) : PropG G k m c s := by
  obtain ⟨h1, h2⟩ := propB_ok h
  exact ⟨k, _, _, fd, ps, by rw [e]; exact h1, by rw [e]; exact h2, F, hb, Nat.le_refl _⟩
def mkB (K : PySem.W.Frag) (C : Str) : Bool := nameB K C none && (Fa.mkr C).ok K
/-! ### keyword-only parameters with defaults -/
def selD (sel : List (Nat ⊕ Nat)) (dms es : List D) : List D := sel.map fun q => match q with
  | .inl i => es.getD i .non
  | .inr j => dms.getD j .non
def selV (sel : List (Nat ⊕ Nat)) (mv ws : List Value) : List Value := sel.map fun q => match q with
  | .inl i => ws.getD i .none
  | .inr j => mv.getD j .none
def selL (sel : List (Nat ⊕ Nat)) (mv ws : List V) : List V := sel.map fun q => match q with
  | .inl i => ws.getD i .non
  | .inr j => mv.getD j .non
def arK (sel : List (Nat ⊕ Nat)) (dms ds es : List D) : List D := ds ++ selD sel dms es
theorem vals_sel {ms zs : List V} {mv ws : List Value} (r : Vals ms mv) (r2 : Vals zs ws) : ∀ sel, Vals (selL sel ms zs) (selV sel mv ws)
  | [] => .nil
  | .inl i :: sel => .cons (vals_getD r2 i) (vals_sel r r2 sel)
  | .inr j :: sel => .cons (vals_getD r j) (vals_sel r r2 sel)
theorem reps_sel {K : PySem.W.Frag} {H : Hp} {dms es : List D} {ms zs : List V} (r : Reps K H dms ms) (r2 : Reps K H es zs) : ∀ sel, Reps K H (selD sel dms es) (selL sel ms zs)
  | [] => reps_nil
  | .inl i :: sel => reps_cons (reps_getD r2 i) (reps_sel r r2 sel)
  | .inr j :: sel => reps_cons (reps_getD r j) (reps_sel r r2 sel)
theorem bindD_ofK {G : Pg} {x qual : Str} {params : Arguments} {body : List Stmt} {scope : Scope} {kws : List (Str × V)} {f : Addr} {fd : FuncData} {ps ks : List Str} {n : Nat} (sel : List (Nat ⊕ Nat)) (dms : List D) (ms : List (Str × V)) (F : FunD G.K x qual params body scope [] kws f fd) (hk : kws ≠ [])
    (hms : ∀ q ∈ ms, q ∈ kws) (hr : ∀ H, Reps G.K H dms (ms.map (·.2)))
    (h : ∀ (D : Addr) (doc pm : Value) (an : Option Addr) (cdv ct : Value) (us ws mv : List Value), us.length = n → ws.length = ks.length → mv.length = ms.length →
      KwChain D ((ms.map (·.1)).zip mv) (bindArgs (PySem.W.fnOf x qual params body scope .none (.ref D) doc pm an cdv ct) ⟨us, ks.zip ws⟩) (ps.zip (us ++ selV sel mv ws))) : BindD G fd ps n ks (arK sel dms) := by
  obtain ⟨oc, od, dV, kV, doc, pm, an, cdv, ct, osl, rfl, lk, hcd, hD, hK⟩ := F.ex
  rcases hD with ⟨_, rfl⟩ | ⟨e, _⟩
  · rcases hK with e | ⟨D, rfl, hq⟩
    · exact absurd e hk
    · obtain ⟨mv, hl, rk, hks⟩ := kwd_vals (ms := ms) fun q hm => hq q (hms q hm)
      exact ⟨fun us ws => us ++ selV sel mv ws, fun s us ws X l1 l2 => BindsTo.of_looks fun M => KwChain.looks X hks (h D doc pm an cdv ct us ws mv l1 l2 hl),
        fun H ds es vs zs us ws l1 l2 r rz rs rt => ⟨vs ++ selL sel (ms.map (·.2)) zs, Vals.append r (vals_sel rk rz sel), Reps.append rs (reps_sel (hr H) rt sel)⟩⟩
  · exact absurd rfl e
/-! ### a keyword-only default that is a tuple -/
def kwAt (p : Defn) (x : Str) (K : PySem.W.Frag) : Addr := match K.lookup (fAd K p) with
  | some ⟨_, _, .func fd, _⟩ => (match fd.kwdefaults with
    | .ref D => (match PySem.W.nsIn K D x with
      | some (some (.ref a)) => a
      | _ => 0)
    | _ => 0)
  | _ => 0
def tupAB (K : PySem.W.Frag) (a : Addr) (vs : List Dv) : Bool := (match K.lookup a with
  | some ⟨.type c, _, .seq its _, _⟩ => decide (c = "tuple") && (decide (its.size ≤ sizeLine) && relAll (vs.map (Dv.v K)) its.toList)
  | _ => false) && vs.all fun v => (dvD v).isSome
theorem tupAB_ok {K : PySem.W.Frag} {a : Addr} {vs : List Dv} (h : tupAB K a vs = true) (H : Hp) : Rep K H (.ktup (dvsD vs)) (.ref a) := by
  obtain ⟨h, h3⟩ := ba h
  refine rep_ktup (?_ : KtT K a (vs.map (Dv.v K))) (rel_rep h3)
  cases q : K.lookup a with
  | none => rw [q] at h; cases h
  | some o =>
    obtain ⟨oc, od, dt, osl⟩ := o
    rw [q] at h
    cases oc with
    | type c =>
      cases dt with
      | seq its n =>
        obtain ⟨h1, h2⟩ := ba (show (decide (c = "tuple") && (decide (its.size ≤ sizeLine) && relAll (vs.map (Dv.v K)) its.toList)) = true from h)
        obtain ⟨h2, h4⟩ := ba h2
        exact ⟨_, its, n, q, congrArg Value.type (of_decide_eq_true h1), rfl, of_decide_eq_true h2, relAll_ok h4⟩
      | _ => cases h
    | _ => cases dt <;> cases h
/-! ### the hook -/
/-! the addresses that a heap's globals reach: breadth first, with a mask of bits -/
def firstB : Nat → List Addr → List Addr
  | _, [] => []
  | s, a :: r => match Nat.beq (Nat.land (Nat.shiftRight s a) 1) 0 with
    | true => a :: firstB (Nat.lor s (Nat.shiftLeft 1 a)) r
    | false => firstB s r
def maskB (s : Nat) : List Addr → Nat
  | [] => s
  | a :: r => maskB (Nat.lor s (Nat.shiftLeft 1 a)) r
def wideB (g : Addr → Option Obj) : Nat → Nat → List Addr → List Addr
  | 0, _, f => f
  | n + 1, s, f => f ++ (fun z => wideB g n (maskB s z) z) (firstB s (f.flatMap fun a => match g a with
    | some o => refsD o
    | none => []))
def asQ (g : Addr → Option Obj) (n : Nat) : List Addr := wideB g n (Nat.shiftLeft 1 mainGlobals) [mainGlobals]
def frQ (g : Addr → Option Obj) (n : Nat) : PySem.W.Frag := frT g (asQ g n)
def obsF (n : Nat) (fn : List DefD) (g : Addr → Option Obj) : AlD := obsD [] fn (frQ g n)
def obsE (n : Nat) (pr : List DefD) (tf : List Defn) (ex : PySem.W.Frag → Bool) (g : Addr → Option Obj) : Bool × List FnW := (fun K : PySem.W.Frag => (ex K && tabsB g tf K, pr.map fun d => fnA K (gAd K d.at_))) (frQ g n)
def obsP (n : Nat) (fn : List DefD) (pr : List DefD) (tf : List Defn) (ex : PySem.W.Frag → Bool) (g : Addr → Option Obj) : AlD × Bool × List FnW := (obsF n fn g, obsE n pr tf ex g)
structure SaysP (fn pr : List DefD) (tf : List Defn) (ex : PySem.W.Frag → Bool) (w : World) (h : Heap) (K : PySem.W.Frag) : Prop where
  x : SaysX [] fn [] tf ex w h K
  p : pr.map (fun d => fnA K (gAd K d.at_)) = pr.map DefD.val
theorem says_fr {as : List Addr} {fn : List DefD} {tf : List Defn} {ex : PySem.W.Frag → Bool} {w : World} {h : Heap} (e1 : obsD [] fn (frT h.get? as) = He.valD fn) (e2 : (ex (frT h.get? as) && tabsB h.get? tf (frT h.get? as)) = true) : SaysX [] fn [] tf ex w h (frT h.get? as) := by
  obtain ⟨x1, x2⟩ := ba e2
  have tb : ∀ p ∈ tf, PySem.W.codeHdIn (frT h.get? as) (cT (frT h.get? as) p).1 (cT (frT h.get? as) p).2 = true ∧ h.get? (cT (frT h.get? as) p).2 = some { cls := .none, data := .fields #[] } := fun p hp => by
    obtain ⟨x3, x4⟩ := ba (List.all_eq_true.mp x2 p hp)
    refine ⟨x3, ?_⟩
    split at x4
    · rename_i o q
      rw [q, emptyTab_eq x4]
    · cases x4
  exact { t := by show (obsD [] fn (frT h.get? as), _) = (He.valD fn, _); rw [e1]; rfl, more := x1, hd := fun p hp => (tb p hp).1, out := fun p hp => frT_none (tb p hp).2 rfl, empty := fun p hp => (tb p hp).2 }
def hookP (n : Nat) (fn pr : List DefD) (tf : List Defn) (ex : PySem.W.Frag → Bool) : PySem.W.Hook where
  α := AlD × Bool × List FnW
  obs := fun s => obsP n fn pr tf ex s.heap.get?
  val := fun _ => (He.valD fn, true, pr.map DefD.val)
  says := fun w h => ∃ K : PySem.W.Frag, K.In h ∧ SaysP fn pr tf ex w h K
  of := fun _ _ e => ⟨_, frT_in, says_fr (congrArg (fun z : AlD × Bool × List FnW => z.1) e) (congrArg (fun z : AlD × Bool × List FnW => z.2.1) e), congrArg (fun z : AlD × Bool × List FnW => z.2.2) e⟩
  keeps := fun _ _ _ ⟨K, hK, c⟩ k => ⟨K, PySem.W.Frag.In.keeps hK k, ⟨⟨c.x.t, c.x.more, c.x.hd, c.x.out, fun p hp => k _ _ (c.x.empty p hp)⟩, c.p⟩⟩
theorem obsP_eq {n : Nat} {fn pr : List DefD} {tf : List Defn} {ex : PySem.W.Frag → Bool} {g : Addr → Option Obj} {s : Shared} (h : ∀ a, g a = s.heap.get? a) : obsP n fn pr tf ex g = (hookP n fn pr tf ex).obs s := by
  have e : g = s.heap.get? := funext h
  rw [e] <;> rfl
/-! ### the head's run, in parts -/
noncomputable abbrev EndK (r : PySem.W.OpenRow) (M : Nat) (w : World) (os : OsState) := HandSHeadRun.endF (HandSHeadRun.stepQ (HandSHeadRun.denQ HandSHeadRun.tabQ) r.prog w) M r.prog w os
def RunA (r : PySem.W.OpenRow) (q : Program) (M : Nat) (loose : List Str) (w : World) : Prop := ∀ os, (EndK r M w os).map (fun s => (HandSHeadRun.looksF r.prog (PySem.W.boot_heap w.params) s.abs, HandSHeadRun.seenQ q loose (importedModules r.prog.main.body) (fun s => PySem.W.xlAt q [] s && PySem.W.recOk r.toRowW.records s) s.abs)) = some (true, PySem.W.openGood q loose)
def RunF (r : PySem.W.OpenRow) (M : Nat) (n : Nat) (fn : List DefD) (w : World) : Prop := ∀ os, (EndK r M w os).map (fun s => obsF n fn (HandSHeadRun.getT s)) = some (He.valD fn)
def RunX (r : PySem.W.OpenRow) (M : Nat) (n : Nat) (pr : List DefD) (tf : List Defn) (ex : PySem.W.Frag → Bool) (w : World) : Prop := ∀ os, (EndK r M w os).map (fun s => obsE n pr tf ex (HandSHeadRun.getT s)) = some (true, pr.map DefD.val)
theorem map_two {α A B : Type} {o : Option α} {a : α → A} {b : α → B} {x : A} {y : B} (h1 : o.map a = some x) (h2 : o.map b = some y) : o.map (fun s => (a s, b s)) = some (x, y) := by
  cases o with
  | none => cases h1
  | some s => exact congrArg some (Prod.ext (Option.some.inj h1) (Option.some.inj h2))
theorem RunF.app {r : PySem.W.OpenRow} {M n : Nat} {f g : List DefD} {w : World} (h1 : RunF r M n f w) (h2 : RunF r M n g w) : RunF r M n (f ++ g) w := fun os => by
  have e := map_two (h1 os) (h2 os)
  have e2 := congrArg (Option.map fun z : AlD × AlD => ((z.1.1 && z.2.1, z.1.2 ++ z.2.2) : AlD)) e
  rw [Option.map_map] at e2
  refine Eq.trans ?_ (e2.trans ?_)
  · congr 1
    funext s
    simp [obsF, obsD, Function.comp_def]
  · simp [He.valD]
theorem RunF.of_eq {r : PySem.W.OpenRow} {M n : Nat} {f g : List DefD} {w : World} (e : f = g) (h : RunF r M n g w) : RunF r M n f w := by rw [e]; exact h
theorem run_join {r : PySem.W.OpenRow} {q : Program} {M n : Nat} {loose : List Str} {fn pr : List DefD} {tf : List Defn} {ex : PySem.W.Frag → Bool} {w : World} {ob : PySem.W.SharedT → AlD × Bool × List FnW} (eo : ∀ s, ob s = obsP n fn pr tf ex (HandSHeadRun.getT s)) (h1 : RunA r q M loose w) (h2 : RunF r M n fn w) (h3 : RunX r M n pr tf ex w) : HandSHeadRun.RunEq r q (hookP n fn pr tf ex) ob M loose w := fun os => by
  have e := map_two (h1 os) (map_two (h2 os) (h3 os))
  have e2 := congrArg (Option.map fun z : (Bool × _) × (AlD × Bool × List FnW) => (z.1.1, z.1.2, z.2)) e
  rw [Option.map_map] at e2
  refine Eq.trans ?_ e2
  congr 1
  funext s
  simp only [Function.comp_def, eo]
  rfl
theorem SaysP.pr {fn pr : List DefD} {tf : List Defn} {ex : PySem.W.Frag → Bool} {w : World} {h : Heap} {K : PySem.W.Frag} (c : SaysP fn pr tf ex w h K) (i : Nat) {d : DefD} (e : pr[i]? = some d) : fnA K (gAd K d.at_) = d.val := by
  have e2 : (pr.map fun d => fnA K (gAd K d.at_))[i]? = (pr.map DefD.val)[i]? := by rw [c.p]
  rw [List.getElem?_map, List.getElem?_map, e] at e2
  exact Option.some.inj e2
end DW

/-! DW, part 19: words for the plain part: objects, filters. -/
namespace DW
open PySem L2
/-! ### fields, methods -/
def kFld (ix : List (Nat × Nat)) (P : KD) : KD := fun x h1 => match x with
  | .ref p => match h1 p with
    | some (.ins c fs) => match ix.lookup c with
      | some i => match fs[i]? with
        | some d => P d h1
        | none => False
      | none => False
    | _ => False
  | _ => False
def kPut (d : D) (ix : List (Nat × Nat)) (E : DEnds) (e : DSt) : KD := fun x h2 => match x with
  | .ref p => match h2 p with
    | some (.ins c fs) => match ix.lookup c with
      | some i => match putI fs i d with
        | some fs' => E.nx e (up h2 p (.ins c fs'))
        | none => False
      | none => False
    | _ => False
  | _ => False
def kMeth (c : Nat) (s : DSp) (t : DA) (e : DSt) (P : KD) (R : KX) : KD := fun x h1 => match x with
  | .ref p => match h1 p with
    | some (.ins c' _) => c' = c ∧ t e h1 (fun ds h2 => s (x :: ds) h2 P R) R
    | _ => False
  | _ => False
def kProp (c : Nat) (s : DSp) (P : KD) : KD := fun x h1 => match x with
  | .ref p => match h1 p with
    | some (.ins c' _) => c' = c ∧ s [x] h1 P (fun _ _ => False)
    | _ => False
  | _ => False
section
variable {E : DEnds} {e : DSt} {h : DH} {P : KD} {R : KX} {a o : DE} {ix : List (Nat × Nat)} {p : Addr} {c i : Nat} {fs fs' : List D} {d : D} {s : DSp} {t tk : DA} {s2 : DSp2} {tb : List (Nat × DSp)}
theorem w_fld : cFld a ix e h P R = a e h (kFld ix P) R := propext Iff.rfl
theorem go_fld (he : h p = some (.ins c fs)) (h1 : ix.lookup c = some i) (h2 : fs[i]? = some d) (q : P d h) : kFld ix P (.ref p) h := by
  unfold kFld
  simp only [he, h1, h2]
  exact q
theorem w_sfld : sFld o a ix E e h = a e h (fun d h1 => o e h1 (kPut d ix E e) fun x h2 => E.ex x e h2) (fun x h1 => E.ex x e h1) := propext Iff.rfl
theorem go_put (he : h p = some (.ins c fs)) (h1 : ix.lookup c = some i) (h2 : putI fs i d = some fs') (q : E.nx e (up h p (.ins c fs'))) : kPut d ix E e (.ref p) h := by
  unfold kPut
  simp only [he, h1, h2]
  exact q
theorem w_meth1 : cMeth o [(c, s)] t e h P R = o e h (kMeth c s t e P R) R := by
  unfold cMeth
  refine propext ⟨fun ⟨q, hq, z⟩ => ?_, fun z => ⟨(c, s), List.mem_cons_self, z⟩⟩
  rw [List.mem_singleton.mp hq] at z
  exact z
theorem go_meth (he : h p = some (.ins c fs)) (q : t e h (fun ds h2 => s (.ref p :: ds) h2 P R) R) : kMeth c s t e P R (.ref p) h := by
  unfold kMeth
  simp only [he, true_and]
  exact q
theorem w_prop1 : cProp o [(c, s)] e h P R = o e h (kProp c s P) R := by
  unfold cProp
  refine propext ⟨fun ⟨q, hq, z⟩ => ?_, fun z => ⟨(c, s), List.mem_cons_self, z⟩⟩
  rw [List.mem_singleton.mp hq] at z
  exact z
theorem go_prop (he : h p = some (.ins c fs)) (q : s [.ref p] h P (fun _ _ => False)) : kProp c s P (.ref p) h := by
  unfold kProp
  simp only [he, true_and]
  exact q
theorem w_callK : cCallK s2 t tk e h P R = t e h (fun ds h1 => tk e h1 (fun es h2 => s2 ds es h2 P R) R) R := propext Iff.rfl
end
/-! ### filters -/
section
variable {g : DG} {tt : DT} {te : DE} {vs : List Nat} {e : DSt} {h : DH} {P : KD} {α : Type} {f : α → D} {xs : List α}
theorem go_lcF {still : DH → Prop} (q : α → Bool) (hlen : xs.length ≤ sizeLine) (st : ∀ L acc, h L = none → still (up h L (.lst acc)))
    (step : ∀ L acc x (X : List D → DH → Prop), h L = none → x ∈ xs → acc.length < sizeLine → (q x = true → X (acc ++ [f x]) (up h L (.lst (acc ++ [f x])))) → (q x = false → X acc (up h L (.lst acc))) → g (f x) (wipeD e vs) (up h L (.lst acc)) fun e1 h1 => tt e1 h1 (kLcB te L acc X e1) (fun _ _ => False))
    (ok : kNew ((xs.filter q).map f) P h) : kLc g tt te vs e P (xs.map f) still h := by
  refine go_lc (fun L r acc h' => h' = up h L (.lst acc) ∧ ∃ pre rest, xs = pre ++ rest ∧ r = rest.map f ∧ acc = (pre.filter q).map f) (fun L hL => ⟨rfl, [], xs, rfl, rfl, rfl⟩) (fun L d r acc h' X hL j k => ?_) (fun L acc h' hL j => ?_)
  · obtain ⟨rfl, pre, rest, e1, e2, e3⟩ := j
    cases rest with
    | nil => cases e2
    | cons x rest =>
      obtain ⟨rfl, rfl⟩ := List.cons.inj e2
      refine ⟨st L acc hL, step L acc x X hL (by rw [e1]; simp) ?_ (fun z => ?_) (fun z => ?_)⟩
      · have l1 := List.length_filter_le q pre
        have l2 := congrArg List.length e1
        simp only [List.length_append, List.length_cons] at l2
        rw [e3, List.length_map]
        omega
      · exact k _ _ ⟨rfl, pre ++ [x], rest, by rw [e1]; simp, rfl, by rw [e3]; simp [z]⟩
      · exact k _ _ ⟨rfl, pre ++ [x], rest, by rw [e1]; simp, rfl, by rw [e3]; simp [z]⟩
  · obtain ⟨rfl, pre, rest, e1, e2, e3⟩ := j
    cases rest with
    | cons x rest => cases e2
    | nil =>
      refine ⟨st L acc hL, ?_⟩
      rw [List.append_nil] at e1
      rw [e3, ← e1]
      exact ok L hL
end
/-! ### what a method changes -/
/-- from the footprint S to S': all else stays -/
structure Mv (S S' : List Addr) (h h' : DH) : Prop where
  keep : ∀ a o, a ∉ S → h a = some o → h' a = some o
  foot : ∀ a, a ∈ S' → a ∈ S ∨ h a = none
section
variable {S S' S2 : List Addr} {h h' h2 : DH} {a : Addr} {o : MO}
theorem Mv.at (m : Mv S S' h h') (hn : a ∉ S) (e : h a = some o) : h' a = some o ∧ a ∉ S' := ⟨m.keep a o hn e, fun z => (m.foot a z).elim hn fun z => by rw [e] at z; cases z⟩
theorem Mv.refl : Mv S S h h := ⟨fun _ _ _ e => e, fun _ z => .inl z⟩
theorem Mv.ofSub (s : Sub h h') : Mv S S h h' := ⟨fun a o _ e => s a o e, fun _ z => .inl z⟩
theorem Mv.trans (m : Mv S S' h h') (m2 : Mv S' S2 h' h2) : Mv S S2 h h2 := ⟨fun a o n e => by
    obtain ⟨e1, n1⟩ := m.at n e
    exact m2.keep a o n1 e1, fun a z => by
    rcases m2.foot a z with z | z
    · exact m.foot a z
    · cases e : h a with
      | none => exact .inr rfl
      | some u =>
        by_cases n : a ∈ S
        · exact .inl n
        · rw [m.keep a u n e] at z; cases z⟩
theorem Mv.set (ha : a ∈ S) : Mv S S h (up h a o) := ⟨fun b u n e => by rw [up_ne fun z => n (by rw [z]; exact ha)]; exact e, fun _ z => .inl z⟩
theorem Mv.new (ha : h a = none) : Mv S (a :: S) h (up h a o) := ⟨fun b u n e => Sub.new ha b u e, fun b z => (List.mem_cons.mp z).elim (fun e => .inr (by rw [e]; exact ha)) .inl⟩
theorem Mv.less (m : Mv S S' h h') (l : ∀ a ∈ S2, a ∈ S') : Mv S S2 h h' := ⟨m.keep, fun a z => m.foot a (l a z)⟩
theorem Mv.drop (m : Mv S S' h h') (s : Sub h' h2) : Mv S S' h h2 := m.trans (Mv.ofSub s)
end
end DW

/-! DW, part 20: words for the plain part: dicts. -/
namespace DW
open PySem L2
def kDict0 (P : KD) (h : DH) : Prop := (∀ p, h p = none → P (.ref p) (up h p (.dK []))) ∨ ∀ p, h p = none → P (.ref p) (up h p (.dT []))
def kLenS (P : KD) : KD := fun x h1 => (∃ xs ns, lstOf h1 x = some xs ∧ intsD xs = some ns ∧ ns.length < 63 ∧ P (.int (ddN ns : Nat)) h1) ∨
  ∃ kss : List (List Int), lstOf h1 x = some (kss.map fun k => D.tup (k.map D.int)) ∧ kss.Nodup ∧ kss.length < 63 ∧ P (.int (kss.length : Nat)) h1
section
variable {E : DEnds} {e : DSt} {h : DH} {P : KD} {R : KX} {a o i : DE} {p : Addr} {x y d d0 : D} {kvs : List (Key × D)} {kvt : List (List Key × D)} {t : DS} {f u : MO} {ds : List D}
theorem w_dict0 : cDict0 e h P R = kDict0 P h := propext Iff.rfl
theorem go_dictK (k : ∀ p H, h p = none → Sub h H → H p = some (.dK []) → P (.ref p) H) : kDict0 P h := .inl fun p hp => k p _ hp (Sub.new hp) up_same
theorem go_dictT (k : ∀ p H, h p = none → Sub h H → H p = some (.dT []) → P (.ref p) H) : kDict0 P h := .inr fun p hp => k p _ hp (Sub.new hp) up_same
theorem go_dictKE (k : ∀ p, h p = none → P (.ref p) (up h p (.dK []))) : kDict0 P h := .inl k
theorem go_dictTE (k : ∀ p, h p = none → P (.ref p) (up h p (.dT []))) : kDict0 P h := .inr k
theorem w_sub2 : sSub o i a E e h = a e h (fun d h1 => o e h1 (fun x h2 => i e h2 (fun y h3 => setD x y d h3 fun h4 => E.nx e h4) fun x h3 => E.ex x e h3) fun x h2 => E.ex x e h2) (fun x h1 => E.ex x e h1) := propext Iff.rfl
theorem go_setK {k : Key} {Q : DH → Prop} (he : h p = some (.dK kvs)) (hk : y.key? = some k) (hl : kvs.length < sizeLine) (q : Q (up h p (.dK (putM kvs k d)))) : setD (.ref p) y d h Q := by
  unfold setD
  simp only [he]
  exact ⟨k, hk, hl, q⟩
theorem go_setT {k : List Key} {Q : DH → Prop} (he : h p = some (.dT kvt)) (hk : y.tkey? = some k) (hl : kvt.length < sizeLine) (q : Q (up h p (.dT (putM kvt k d)))) : setD (.ref p) y d h Q := by
  unfold setD
  simp only [he]
  exact ⟨k, hk, hl, q⟩
theorem go_setL {j : Nat} {k : Int} {Q : DH → Prop} (he : h p = some (.lst ds)) (hk : ixN ds.length k = some j) (q : Q (up h p (.lst (ds.set j d)))) : setD (.ref p) (.int k) d h Q := by
  unfold setD
  simp only [he]
  exact ⟨k, j, rfl, hk, q⟩
theorem go_ixDK {k : Key} (he : h p = some (.dK kvs)) (hk : y.key? = some k) (hv : valD kvs k = some d) (q : P d h) : doIx (.ref p) y h P := by
  have e1 : isDict h p = true := by unfold isDict; simp only [he]
  unfold doIx
  simp only [e1, if_true]
  unfold dGet
  simp only [he]
  exact ⟨k, hk, d, hv, q⟩
theorem go_ixFK {k : Key} {ob : Obj} {ws : List (Key × V)} (he : h p = some (.fK kvs ob ws)) (hk : y.key? = some k) (hv : valD kvs k = some d) (q : P d h) : doIx (.ref p) y h P := by
  have e1 : isDict h p = true := by unfold isDict; simp only [he]
  unfold doIx
  simp only [e1, if_true]
  unfold dGet
  simp only [he]
  exact ⟨k, hk, d, hv, q⟩
theorem go_inDK {k : Key} (he : h p = some (.dK kvs)) (hk : y.key? = some k) (q : P (.bl (valD kvs k).isSome) h) : doIn y (.ref p) h P := by
  have e1 : isDict h p = true := by unfold isDict; simp only [he]
  unfold doIn doInB
  simp only [e1, if_true]
  unfold dGet
  simp only [he]
  exact ⟨k, hk, q⟩
theorem go_ninDK {k : Key} (he : h p = some (.dK kvs)) (hk : y.key? = some k) (q : P (.bl (!(valD kvs k).isSome)) h) : doNotIn y (.ref p) h P := by
  have e1 : isDict h p = true := by unfold isDict; simp only [he]
  unfold doNotIn doInB
  simp only [e1, if_true]
  unfold dGet
  simp only [he]
  exact ⟨k, hk, q⟩
theorem go_get1 {k : Key} (he : h p = some (.dK kvs)) (hk : y.key? = some k) (q : P ((valD kvs k).getD .non) h) : mGet (.ref p) [y] h P := by
  unfold mGet
  simp only
  unfold dGet
  simp only [he]
  exact ⟨k, hk, q⟩
theorem go_get2 {k : Key} (he : h p = some (.dK kvs)) (hk : y.key? = some k) (q : P ((valD kvs k).getD d0) h) : mGet (.ref p) [y, d0] h P := by
  unfold mGet
  simp only
  unfold dGet
  simp only [he]
  exact ⟨k, hk, q⟩
theorem w_tyDK (he : h p = some (.dK kvs)) : tyD "dict" h (.ref p) = True := by
  unfold tyD
  simp only [he]
theorem go_dictC (he : h p = some (.dK kvs)) (k : ∀ q H, h q = none → Sub h H → H q = some (.dK kvs) → P (.ref q) H) : bDict1 [.ref p] h P := by
  unfold bDict1
  simp only [he]
  exact fun q hq => k q _ hq (Sub.new hq) up_same
theorem w_lenS : cLenSet a e h P R = a e h (kLenS P) R := propext Iff.rfl
theorem go_lenS {ns : List Int} (he : h p = some (.lst (ns.map D.int))) (hl : ns.length < 63) (q : P (.int (ddN ns : Nat)) h) : kLenS P (.ref p) h := .inl ⟨_, ns, lstOf_lst he, intsD_map ns, hl, q⟩
theorem go_lenST {kss : List (List Int)} (he : h p = some (.lst (kss.map fun k => D.tup (k.map D.int)))) (n : kss.Nodup) (hl : kss.length < 63) (q : P (.int (kss.length : Nat)) h) : kLenS P (.ref p) h := .inr ⟨kss, lstOf_lst he, n, hl, q⟩
theorem go_lk0 (q : t E e h) : sLk t E e h := .inl q
theorem go_lkK (he : h p = some (.dK kvs)) (q : ∀ ob ws, t (unE p (.fK kvs ob ws) (.dK kvs) E) e (up h p (.fK kvs ob ws))) : sLk t E e h := .inr (.inl ⟨p, kvs, he, q⟩)
theorem go_lkT (he : h p = some (.dT kvt)) (q : ∀ ob ws, t (unE p (.fT kvt ob ws) (.dT kvt) E) e (up h p (.fT kvt ob ws))) : sLk t E e h := .inr (.inr ⟨p, kvt, he, q⟩)
theorem w_unNx : (unE p f u E).nx e h = (h p = some f ∧ E.nx e (up h p u)) := propext Iff.rfl
theorem w_unRt : (unE p f u E).rt x h = (h p = some f ∧ E.rt x (up h p u)) := propext Iff.rfl
theorem w_unBk : (unE p f u E).bk e h = (h p = some f ∧ E.bk e (up h p u)) := propext Iff.rfl
theorem w_unCt : (unE p f u E).ct e h = (h p = some f ∧ E.ct e (up h p u)) := propext Iff.rfl
theorem w_itFK {PP : List D → (DH → Prop) → DH → Prop} {ob : Obj} {ws : List (Key × V)} (he : h p = some (.fK kvs ob ws)) : itD (.ref p) h PP = PP (kvs.map fun kv => kD kv.1) (fun h' => h' p = some (.fK kvs ob ws)) h := by
  unfold itD
  simp only [he]
theorem go_eq0 {v : Bool} {q : Addr} (ha : h p = some (.dK [])) (hb : h q = some (.dK [])) (k : P (.bl v) h) : doEq0 v (.ref p) (.ref q) h P := ⟨⟨ha, hb⟩, k⟩
end
theorem key_int {i : Int} : D.key? (.int i) = some (.inl i) := rfl
theorem key_str {s : Str} : D.key? (.str s) = some (.inr s) := rfl
/-! ### what is known of a heap beside one object -/
def Fx (H : DH) (b : Addr) (L : List (Addr × MO)) : Prop := ∀ q ∈ L, H q.1 = some q.2 ∧ q.1 ≠ b
section
variable {H H1 : DH} {b d : Addr} {L : List (Addr × MO)} {o ob : MO}
theorem Fx.nil : Fx H b [] := fun _ z => by cases z
theorem Fx.put (F : Fx H b L) : Fx (up H b o) b L := fun q m => ⟨by rw [up_ne (F q m).2]; exact (F q m).1, (F q m).2⟩
theorem Fx.sub (F : Fx H b L) (S : Sub H H1) : Fx H1 b L := fun q m => ⟨S _ _ (F q m).1, (F q m).2⟩
theorem Fx.new (F : Fx H b L) (S : Sub H H1) (hb : H b = some ob) (hd : H d = none) (e : H1 d = some o) : Fx H1 b ((d, o) :: L) := fun q m => by
  rcases List.mem_cons.mp m with m | m
  · subst m
    exact ⟨e, fun z => by rw [show d = b from z, hb] at hd; cases hd⟩
  · exact F.sub S q m
theorem Fx.at {q : Addr × MO} (F : Fx H b L) (m : q ∈ L) : H q.1 = some q.2 := (F q m).1
end
/-! ### dicts with int keys, texts -/
theorem putM_new {κ : Type} [DecidableEq κ] {kvs : List (κ × D)} {k : κ} {v : D} (h : k ∉ kvs.map (·.1)) : putM kvs k v = kvs ++ [(k, v)] := by
  unfold putM
  rw [if_neg]
  rw [List.any_eq_true]
  rintro ⟨q, m, e⟩
  exact h (List.mem_map.mpr ⟨q, m, of_decide_eq_true e⟩)
theorem valD_mem {κ : Type} [DecidableEq κ] {k : κ} {v : D} : ∀ {kvs : List (κ × D)}, (kvs.map (·.1)).Nodup → (k, v) ∈ kvs → valD kvs k = some v
  | [], _, m => by cases m
  | q :: kvs, n, m => by
    rw [List.map_cons, List.nodup_cons] at n
    unfold valD
    rw [List.find?_cons]
    by_cases e : q.1 = k
    · rw [decide_eq_true e]
      rcases List.mem_cons.mp m with m | m
      · rw [← m]; rfl
      · exact absurd (List.mem_map.mpr ⟨_, m, rfl⟩) (by rw [e] at n; exact n.1)
    · rw [decide_eq_false e]
      rcases List.mem_cons.mp m with m | m
      · rw [← m] at e; exact absurd rfl e
      · exact valD_mem n.2 m
theorem valD_none {κ : Type} [DecidableEq κ] {k : κ} {kvs : List (κ × D)} (h : k ∉ kvs.map (·.1)) : valD kvs k = none := by
  unfold valD
  rw [List.find?_eq_none.mpr fun q m e => h (List.mem_map.mpr ⟨q, m, of_decide_eq_true e⟩)]
  rfl
/-! ### len(set(xs)) -/
theorem dedup_len : ∀ (xs σ : List Int), (xs.foldl PyProof.Rows.step_dedup σ).length ≤ σ.length + xs.length ∧ ((xs.foldl PyProof.Rows.step_dedup σ).length = σ.length + xs.length ↔ xs.Nodup ∧ ∀ x ∈ xs, x ∉ σ)
  | [], σ => by simp
  | x :: xs, σ => by
    rw [List.foldl_cons]
    by_cases m : x ∈ σ
    · have e : PyProof.Rows.step_dedup σ x = σ := by
        unfold PyProof.Rows.step_dedup
        rw [if_pos (by rw [List.any_eq_true]; exact ⟨x, m, by simp⟩)]
      rw [e]
      obtain ⟨h1, h2⟩ := dedup_len xs σ
      refine ⟨by rw [List.length_cons]; omega, ?_⟩
      rw [List.length_cons]
      constructor
      · intro z; omega
      · intro z; exact absurd m (z.2 x (List.mem_cons_self ..))
    · have e : PyProof.Rows.step_dedup σ x = σ ++ [x] := by
        unfold PyProof.Rows.step_dedup
        rw [if_neg]
        rw [List.any_eq_true]
        rintro ⟨y, hy, e⟩
        rw [beq_iff_eq.mp e] at hy
        exact m hy
      rw [e]
      obtain ⟨h1, h2⟩ := dedup_len xs (σ ++ [x])
      rw [List.length_append, List.length_singleton] at h1 h2
      rw [List.length_cons]
      refine ⟨by omega, ?_⟩
      have e2 : σ.length + (xs.length + 1) = σ.length + 1 + xs.length := by omega
      rw [e2, h2, List.nodup_cons]
      constructor
      · rintro ⟨n, a⟩
        refine ⟨⟨fun z => a x z (by simp), n⟩, fun y hy => ?_⟩
        rcases List.mem_cons.mp hy with z | z
        · rw [z]; exact m
        · exact fun q => a y z (by simp [q])
      · rintro ⟨⟨n1, n2⟩, a⟩
        refine ⟨n2, fun y hy q => ?_⟩
        rcases List.mem_append.mp q with q | q
        · exact a y (List.mem_cons_of_mem _ hy) q
        · rw [List.mem_singleton.mp q] at hy; exact n1 hy
theorem range_getD (ns : List Int) : (List.range ns.length).map (fun i => ns.getD i 0) = ns := by
  refine List.ext_getElem? fun i => ?_
  rw [List.getElem?_map]
  by_cases h : i < ns.length
  · rw [List.getElem?_range h]
    show some (ns.getD i 0) = _
    rw [List.getD_eq_getElem?_getD, List.getElem?_eq_getElem h]
    rfl
  · rw [List.getElem?_eq_none (by simpa using h), List.getElem?_eq_none (by simpa using h)]
    rfl
theorem ddN_eq {ns : List Int} : ddN ns = ns.length ↔ ns.Nodup := by
  have e : ddN ns = (ns.foldl PyProof.Rows.step_dedup []).length := by
    show (((List.range ns.length).map fun i => ns.getD i 0).foldl PyProof.Rows.step_dedup []).length = _
    rw [range_getD]
  rw [e]
  have := (dedup_len ns []).2
  simpa using this
/-! ### max, min; += of a field; del; extend, pop -/
section
variable {D0 : DEnds} {e : DSt} {h : DH} {P : KD} {R : KX} {a o i : DE} {p q : Addr} {x y d : D} {j k m : Int} {ns : List Int} {xs ys : List D} {c n : Nat} {fs fs' : List D} {ix : List (Nat × Nat)} {g : Int → Int → Int}
theorem w_maxA2 : bMaxA [.int j, .int k] h P = P (.int (max j k)) h := by
  have e : (if k > j then k else j) = max j k := by omega
  rw [← e]; exact propext Iff.rfl
theorem go_maxT (e1 : xs = ns.map D.int) (hl : 0 < ns.length) (z : ∀ m, m ∈ ns → (∀ y, y ∈ ns → y ≤ m) → P (.int m) h) : bMaxA [.tup xs] h P := ⟨ns, by rw [e1]; exact intsD_map ns, hl, z⟩
theorem go_maxL (he : h p = some (.lst (ns.map D.int))) (hl : 0 < ns.length) (z : ∀ m, m ∈ ns → (∀ y, y ∈ ns → y ≤ m) → P (.int m) h) : bMaxA [.ref p] h P := ⟨_, ns, lstOf_lst he, intsD_map ns, hl, z⟩
theorem go_minL (he : h p = some (.lst (ns.map D.int))) (hl : 0 < ns.length) (z : ∀ m, m ∈ ns → (∀ y, y ∈ ns → m ≤ y) → P (.int m) h) : bMin [.ref p] h P := ⟨_, ns, lstOf_lst he, intsD_map ns, hl, z⟩
/-- where an augmented store goes on -/
def kAugY (g : Int → Int → Int) (D0 : DEnds) (e : DSt) (p : Addr) (c i : Nat) (m : Int) : KD := fun y h2 => ∃ n fs', y = .int n ∧ h2 p = some (.ins c fs') ∧ i < fs'.length ∧ D0.nx e (up h2 p (.ins c (fs'.set i (.int (g m n)))))
def kAugX (g : Int → Int → Int) (a : DE) (ix : List (Nat × Nat)) (D0 : DEnds) (e : DSt) : KD := fun x h1 => match x with
  | .ref p => ∃ c fs i m, h1 p = some (.ins c fs) ∧ ix.lookup c = some i ∧ fs[i]? = some (.int m) ∧ a e h1 (kAugY g D0 e p c i m) fun x h2 => D0.ex x e h2
  | _ => False
theorem w_augF : sAugF g o a ix D0 e h = o e h (kAugX g a ix D0 e) (fun x h1 => D0.ex x e h1) := propext Iff.rfl
theorem go_augX {i : Nat} (he : h p = some (.ins c fs)) (h1 : ix.lookup c = some i) (h2 : fs[i]? = some (.int m)) (z : a e h (kAugY g D0 e p c i m) fun x h2 => D0.ex x e h2) : kAugX g a ix D0 e (.ref p) h := ⟨c, fs, i, m, he, h1, h2, z⟩
theorem go_augY {i : Nat} (he : h p = some (.ins c fs)) (hl : i < fs.length) (hs : fs.set i (.int (g m k)) = fs') (z : D0.nx e (up h p (.ins c fs'))) : kAugY g D0 e p c i m (.int k) h := ⟨k, fs, rfl, he, hl, by rw [hs]; exact z⟩
def kDelY (D0 : DEnds) (e : DSt) (x : D) : KD := fun y h2 => match x, y with
  | .ref p, .int j => ∃ xs k, h2 p = some (.lst xs) ∧ -(2 ^ 63) ≤ j ∧ j < 2 ^ 63 ∧ seqIndex? j xs.length = some k ∧ D0.nx e (up h2 p (.lst (xs.eraseIdx k)))
  | _, _ => False
theorem w_delL : sDelL o i D0 e h = o e h (fun x h1 => i e h1 (kDelY D0 e x) fun x h2 => D0.ex x e h2) (fun x h1 => D0.ex x e h1) := propext Iff.rfl
theorem go_delY {l : Nat} (he : h p = some (.lst xs)) (hl : l < xs.length) (hx : l < 2 ^ 60) (z : D0.nx e (up h p (.lst (xs.eraseIdx l)))) : kDelY D0 e (.ref p) (.int (l : Nat)) h := by
  refine ⟨xs, l, he, by omega, by omega, ?_, z⟩
  unfold seqIndex?
  simp
  omega
theorem go_ext (ha : h p = some (.lst xs)) (hb : h q = some (.lst ys)) (hl : xs.length + ys.length ≤ sizeLine) (z : P .non (up h p (.lst (xs ++ ys)))) : mExtend (.ref p) [.ref q] h P := ⟨xs, ys, ha, hb, hl, z⟩
end
end DW

/-! DW, part 21: plain words of own == != in len, of sorted and dict. -/
namespace DW
open PySem L2 PySem.Spec He PyProof.Rows
section
variable {f : DO} {tb : List (Nat × DSp)} {y x : D} {h : DH} {P : KD} {i : Int} {b : Bool} {s : Str} {ds : List D} {g : Bool → Bool} {a : Addr} {xs : List D}
theorem orF {p q : Prop} (n : ¬ q) : (p ∨ q) = p := propext ⟨fun z => z.elim id fun z => absurd z n, .inl⟩
theorem w_oEq0 : oEq [] f x y h P = f x y h P := orF (by rintro ⟨_, z, _⟩; cases z)
theorem w_oNe0 : oNe [] f x y h P = f x y h P := orF (by rintro ⟨_, z, _⟩; cases z)
theorem w_oIn0 : oIn [] g f x y h P = f x y h P := orF (by rintro ⟨_, z, _⟩; cases z)
theorem w_oEqI : oEq tb f (.int i) y h P = f (.int i) y h P := orF (by rintro ⟨_, _, _, _, z, _⟩; cases z)
theorem w_oEqB : oEq tb f (.bl b) y h P = f (.bl b) y h P := orF (by rintro ⟨_, _, _, _, z, _⟩; cases z)
theorem w_oEqS : oEq tb f (.str s) y h P = f (.str s) y h P := orF (by rintro ⟨_, _, _, _, z, _⟩; cases z)
theorem w_oEqT : oEq tb f (.tup ds) y h P = f (.tup ds) y h P := orF (by rintro ⟨_, _, _, _, z, _⟩; cases z)
theorem w_oEqK : oEq tb f (.ktup ds) y h P = f (.ktup ds) y h P := orF (by rintro ⟨_, _, _, _, z, _⟩; cases z)
theorem w_oEqN : oEq tb f .non y h P = f .non y h P := orF (by rintro ⟨_, _, _, _, z, _⟩; cases z)
theorem w_oNeI : oNe tb f (.int i) y h P = f (.int i) y h P := orF (by rintro ⟨_, _, _, _, _, _, z, _⟩; cases z)
theorem w_oNeB : oNe tb f (.bl b) y h P = f (.bl b) y h P := orF (by rintro ⟨_, _, _, _, _, _, z, _⟩; cases z)
theorem w_oNeS : oNe tb f (.str s) y h P = f (.str s) y h P := orF (by rintro ⟨_, _, _, _, _, _, z, _⟩; cases z)
theorem w_oNeT : oNe tb f (.tup ds) y h P = f (.tup ds) y h P := orF (by rintro ⟨_, _, _, _, _, _, z, _⟩; cases z)
theorem w_oNeK : oNe tb f (.ktup ds) y h P = f (.ktup ds) y h P := orF (by rintro ⟨_, _, _, _, _, _, z, _⟩; cases z)
theorem w_oNeN : oNe tb f .non y h P = f .non y h P := orF (by rintro ⟨_, _, _, _, _, _, z, _⟩; cases z)
theorem w_oInT : oIn tb g f x (.tup ds) h P = f x (.tup ds) h P := orF (by rintro ⟨_, _, _, _, z, _⟩; cases z)
theorem w_oInK : oIn tb g f x (.ktup ds) h P = f x (.ktup ds) h P := orF (by rintro ⟨_, _, _, _, z, _⟩; cases z)
theorem w_oInR : oIn tb g f x (.rol ds) h P = f x (.rol ds) h P := orF (by rintro ⟨_, _, _, _, z, _⟩; cases z)
theorem w_oInS : oIn tb g f x (.str s) h P = f x (.str s) h P := orF (by rintro ⟨_, _, _, _, z, _⟩; cases z)
/-- the left one is a list -/
theorem w_oNeL (ha : h a = some (.lst xs)) : oNe tb f (.ref a) y h P = f (.ref a) y h P := orF (by rintro ⟨_, _, p, _, _, _, z, e, _⟩; cases z; rw [ha] at e; cases e)
theorem w_oEqL (ha : h a = some (.lst xs)) : oEq tb f (.ref a) y h P = f (.ref a) y h P := orF (by rintro ⟨_, _, p, _, z, e, _⟩; cases z; rw [ha] at e; cases e)
theorem w_oInL (ha : h a = some (.lst xs)) : oIn tb g f x (.ref a) h P = f x (.ref a) h P := orF (by rintro ⟨_, _, p, _, z, e, _⟩; cases z; rw [ha] at e; cases e)
theorem w_lenO0 : bLenO [] [x] h P = bLen [x] h P := orF (by rintro ⟨_, z, _⟩; cases z)
theorem w_lenOT : bLenO tb [.tup ds] h P = bLen [.tup ds] h P := orF (by rintro ⟨_, _, _, _, z, _⟩; cases z)
theorem w_lenOK : bLenO tb [.ktup ds] h P = bLen [.ktup ds] h P := orF (by rintro ⟨_, _, _, _, z, _⟩; cases z)
theorem w_lenOR : bLenO tb [.rol ds] h P = bLen [.rol ds] h P := orF (by rintro ⟨_, _, _, _, z, _⟩; cases z)
theorem w_lenOS : bLenO tb [.str s] h P = bLen [.str s] h P := orF (by rintro ⟨_, _, _, _, z, _⟩; cases z)
theorem w_lenOL (ha : h a = some (.lst xs)) : bLenO tb [.ref a] h P = bLen [.ref a] h P := orF (by rintro ⟨_, _, p, _, z, e, _⟩; cases z; rw [ha] at e; cases e)
theorem w_lenOU : bLenO tb [.ref a] (up h a (.lst xs)) P = bLen [.ref a] (up h a (.lst xs)) P := w_lenOL up_same
theorem w_par2 {u v : Nat} {t : DA} {D0 : DEnds} {e : DSt} : sPar2 u v t D0 e h = t e h (fun ds h1 => ∃ p q, ds = [p, q] ∧ D0.nx ((e.set u (some p)).set v (some q)) h1) fun x h1 => D0.ex x e h1 := propext Iff.rfl
theorem w_par3 {u v w : Nat} {t : DA} {D0 : DEnds} {e : DSt} : sPar3 u v w t D0 e h = t e h (fun ds h1 => ∃ p q r, ds = [p, q, r] ∧ D0.nx (((e.set u (some p)).set v (some q)).set w (some r)) h1) fun x h1 => D0.ex x e h1 := propext Iff.rfl
/-- own ==: an instance asks its class -/
theorem go_oEq {c : Nat} {fs : List D} {sp : DSp} (ha : h a = some (.ins c fs)) (hm : (c, sp) ∈ tb) (hy : okY c y h) (q : sp [.ref a, y] h (fun d h' => ∃ b, d = .bl b ∧ P (.bl b) h') noXK) : oEq tb f (.ref a) y h P := .inr ⟨(c, sp), hm, a, fs, rfl, ha, hy, q⟩
theorem go_oNe {c : Nat} {fs fs' : List D} {a' : Addr} {sp : DSp} (ha : h a = some (.ins c fs)) (hb : h a' = some (.ins c fs')) (hm : (c, sp) ∈ tb) (q : sp [.ref a, .ref a'] h (fun d h' => ∃ b, d = .bl b ∧ P (.bl (!b)) h') noXK) : oNe tb f (.ref a) (.ref a') h P := .inr ⟨(c, sp), hm, a, fs, a', fs', rfl, ha, rfl, hb, q⟩
theorem go_oIn {c : Nat} {fs : List D} {sp : DSp} (ha : h a = some (.ins c fs)) (hm : (c, sp) ∈ tb) (q : sp [.ref a, x] h (fun d h' => ∃ b, d = .bl b ∧ P (.bl (g b)) h') noXK) : oIn tb g f x (.ref a) h P := .inr ⟨(c, sp), hm, a, fs, rfl, ha, q⟩
theorem go_lenO {c : Nat} {fs : List D} {sp : DSp} (ha : h a = some (.ins c fs)) (hm : (c, sp) ∈ tb) (q : sp [.ref a] h (fun d h' => ∃ n, d = .int n ∧ (0 ≤ n ∧ n < 2 ^ 63) ∧ P (.int n) h') noXK) : bLenO tb [.ref a] h P := .inr ⟨(c, sp), hm, a, fs, rfl, ha, q⟩
theorem okY_int {c : Nat} : okY c (.int i) h := trivial
theorem okY_tup {c : Nat} : okY c (.tup ds) h := trivial
theorem okY_ref {c : Nat} {fs : List D} (ha : h a = some (.ins c fs)) : okY c (.ref a) h := by
  show match h a with
    | some (.ins c' _) => c' = c
    | _ => False
  rw [ha]
/-- sorted(d), dict(d) -/
theorem go_sortT {kvs : List (List Key × D)} (ha : h a = some (.dT kvs)) (ks : List (List Int)) (d : Nat) (B : Int) (e1 : kvs.map (·.1) = ks.map (List.map Sum.inl)) (e2 : ks.length < 64) (e3 : 1 ≤ d) (e4 : ∀ k ∈ ks, k.length = d ∧ TS.Bd B k)
    (q : ∀ ys : List (List Int), ys.Perm ks → ys.Pairwise (fun x y => TS.code B x ≤ TS.code B y) → kNew (ys.map fun k => .tup (k.map D.int)) P h) : bSortedA [.ref a] h P := by
  unfold bSortedA
  simp only [ha]
  exact ⟨ks, d, B, e1, e2, e3, e4, fun ys h1 h2 p hp => q ys h1 h2 p hp⟩
theorem go_dictTc {kvs : List (List Key × D)} (ha : h a = some (.dT kvs)) (ks : List (List Int)) (e1 : kvs.map (·.1) = ks.map (List.map Sum.inl)) (e2 : (ks.map ihash).Nodup) (q : ∀ p, h p = none → P (.ref p) (up h p (.dT kvs))) : bDictA [.ref a] h P := by
  unfold bDictA
  simp only [ha]
  exact ⟨ks, e1, e2, q⟩
theorem go_dictKc {kvs : List (Key × D)} (ha : h a = some (.dK kvs)) (q : ∀ p, h p = none → P (.ref p) (up h p (.dK kvs))) : bDictA [.ref a] h P := by
  unfold bDictA bDict1
  simp only [ha]
  exact q
theorem w_sortL (ha : h a = some (.lst xs)) : bSortedA [.ref a] h P = bSorted [.ref a] h P := by
  unfold bSortedA
  simp only [ha]
theorem go_isiO {kt : Kit} {c : Nat} {fs : List D} {b : Bool} (he : h a = some (.ins c fs)) (e : kt (.own c) = some b) (q : P (.bl b) h) : kIsi kt P (.ref a) h := by
  unfold kIsi
  refine ⟨_, _, ?_, e, q⟩
  simp only [tagOf, he]
end
section
variable {α : Type} {d : α → D} {p : α → PyData} {n : Nat} {h : DH} {P : KD} {xs ys : List α}
theorem Da.pyT (A : Da d p n) (hn : n < 19) {m : Nat} (hm : n < m) : toPy h m (.tup (xs.map d)) = some (.tuple (xs.map p)) := by
  cases m with
  | zero => omega
  | succ m => simp [toPy, A.pys (show n ≤ m by omega)]
theorem Da.eqTT [DecidableEq α] (A : Da d p n) (hn : n < 19) : doEq (.tup (xs.map d)) (.tup (ys.map d)) h P = P (.bl (decide (xs = ys))) h :=
  doEq_of (A.pyT hn (by omega)) (A.pyT hn (by omega)) (bool_dec (by rw [PyData.eqv]; exact A.eqs _ _)) (fun _ _ z => by cases z.1) (fun _ _ z => by cases z.1)
theorem Da.neTT [DecidableEq α] (A : Da d p n) (hn : n < 19) : doNe (.tup (xs.map d)) (.tup (ys.map d)) h P = P (.bl (!decide (xs = ys))) h :=
  doNe_of (A.pyT hn (by omega)) (A.pyT hn (by omega)) (bool_dec (by rw [PyData.eqv]; exact A.eqs _ _)) (fun _ _ z => by cases z.1) (fun _ _ z => by cases z.1)
end
end DW

/-! DW, part 22: words for the plain part, as rules that look for what is known. -/
namespace DW
open PySem L2
theorem lk_get : ∀ (e : DSt) (i : Nat), lk e i = (e[i]?).join
  | [], _ => rfl
  | x :: _, 0 => rfl
  | _ :: e, i + 1 => by
    show lk e i = _
    rw [lk_get e i, List.getElem?_cons_succ]
section
variable {h h' h2 : DH} {P : KD} {R : KX} {a b p : Addr} {ds xs ys : List D} {o : MO} {i : Int} {kt : Kit} {PP : List D → (DH → Prop) → DH → Prop} {lo hi : Option Int} {x : D}
theorem up_neq {u : MO} (n : a ≠ p) (e : h a = some u) : up h p o a = some u := by rw [up_ne n]; exact e
theorem up_neq' {u : MO} (n : p ≠ a) (e : h a = some u) : up h p o a = some u := by rw [up_ne (Ne.symm n)]; exact e
theorem sub_at (S : Sub h h') (e : h a = some o) : h' a = some o := S a o e
theorem go_ixL (ha : h a = some (.lst ds)) (q : ∃ d, L2.atI ds i = some d ∧ P d h) : doIx (.ref a) (.int i) h P := by rw [w_ixL ha]; exact q
theorem go_lenL (ha : h a = some (.lst ds)) (q : P (.int (ds.length : Nat)) h) : bLen [.ref a] h P := by rw [w_lenL ha]; exact q
theorem go_lenOL {tb : List (Nat × DSp)} (ha : h a = some (.lst ds)) (q : P (.int (ds.length : Nat)) h) : bLenO tb [.ref a] h P := by rw [w_lenOL ha, w_lenL ha]; exact q
theorem go_itL (ha : h a = some (.lst ds)) (q : PP ds (fun h' => h' a = some (.lst ds)) h) : itD (.ref a) h PP := by rw [w_itL ha]; exact q
theorem go_isiL (ha : h a = some (.lst ds)) (q : ∃ b, kt (.ty "list") = some b ∧ P (.bl b) h) : kIsi kt P (.ref a) h := by rw [w_isiL ha]; exact q
theorem go_isiO2 {c : Nat} {fs : List D} (ha : h a = some (.ins c fs)) (q : ∃ b, kt (.own c) = some b ∧ P (.bl b) h) : kIsi kt P (.ref a) h := by
  obtain ⟨b, e, q⟩ := q
  exact go_isiO ha e q
theorem go_tupL (ha : h a = some (.lst ds)) (q : P (.tup ds) h) : bTuple [.ref a] h P := by rw [w_tupL ha]; exact q
theorem go_listL (ha : h a = some (.lst ds)) (q : kNew ds P h) : bList1 [.ref a] h P := by rw [w_listL ha]; exact q
theorem go_slL (ha : h a = some (.lst ds)) (q : kNew (cutD ds lo hi) P h) : slD (.ref a) lo hi h P := by rw [w_slL ha]; exact q
theorem go_revL (ha : h a = some (.lst ds)) (q : kNew ds.reverse P h) : kRev P (.ref a) h := by rw [w_revL ha]; exact q
theorem go_catL (ha : h a = some (.lst xs)) (hb : h b = some (.lst ys)) (l : xs.length + ys.length ≤ sizeLine) (q : kNew (xs ++ ys) P h) : doAdd (.ref a) (.ref b) h P := by rw [w_catL ha hb]; exact ⟨l, q⟩
theorem go_iRevL (ha : h a = some (.lst xs)) (q : PP xs.reverse (fun h' => h' a = some (.lst xs)) h) : kIRev PP (.ref a) h := by rw [w_iRevL ha]; exact q
theorem go_iEnumL (ha : h a = some (.lst xs)) (q : PP (enumD xs) (fun h' => h' a = some (.lst xs)) h) : kIEnum PP (.ref a) h := by rw [w_iEnumL ha]; exact q
theorem go_truL {Q : Bool → DH → Prop} (ha : h a = some (.lst xs)) (q : Q (!xs.isEmpty) h) : kTru Q (.ref a) h := by
  unfold kTru tRu
  simp only [ha]
  exact q
theorem go_appL (ha : h a = some (.lst ds)) (l : ds.length < sizeLine) (q : P .non (up h a (.lst (ds ++ [x])))) : mAppend (.ref a) [x] h P := by rw [w_appL ha]; exact ⟨l, q⟩
theorem go_tyL (ha : h a = some (.lst ds)) : tyD "list" h (.ref a) := by rw [w_tyL ha]; trivial
theorem go_at {d : D} {Q : D → Prop} (e : L2.atI ds i = some d) (q : Q d) : ∃ d, L2.atI ds i = some d ∧ Q d := ⟨d, e, q⟩
end
theorem at10 {α : Type} {a0 a1 a2 a3 a4 a5 a6 a7 a8 a9 a10 : α} {l : List α} : L2.atI (a0 :: a1 :: a2 :: a3 :: a4 :: a5 :: a6 :: a7 :: a8 :: a9 :: a10 :: l) 10 = some a10 := atI_of (j := 10) rfl rfl
theorem at11 {α : Type} {a0 a1 a2 a3 a4 a5 a6 a7 a8 a9 a10 a11 : α} {l : List α} : L2.atI (a0 :: a1 :: a2 :: a3 :: a4 :: a5 :: a6 :: a7 :: a8 :: a9 :: a10 :: a11 :: l) 11 = some a11 := atI_of (j := 11) rfl rfl
theorem at12 {α : Type} {a0 a1 a2 a3 a4 a5 a6 a7 a8 a9 a10 a11 a12 : α} {l : List α} : L2.atI (a0 :: a1 :: a2 :: a3 :: a4 :: a5 :: a6 :: a7 :: a8 :: a9 :: a10 :: a11 :: a12 :: l) 12 = some a12 := atI_of (j := 12) rfl rfl
theorem at13 {α : Type} {a0 a1 a2 a3 a4 a5 a6 a7 a8 a9 a10 a11 a12 a13 : α} {l : List α} : L2.atI (a0 :: a1 :: a2 :: a3 :: a4 :: a5 :: a6 :: a7 :: a8 :: a9 :: a10 :: a11 :: a12 :: a13 :: l) 13 = some a13 := atI_of (j := 13) rfl rfl
theorem at14 {α : Type} {a0 a1 a2 a3 a4 a5 a6 a7 a8 a9 a10 a11 a12 a13 a14 : α} {l : List α} : L2.atI (a0 :: a1 :: a2 :: a3 :: a4 :: a5 :: a6 :: a7 :: a8 :: a9 :: a10 :: a11 :: a12 :: a13 :: a14 :: l) 14 = some a14 := atI_of (j := 14) rfl rfl
theorem at15 {α : Type} {a0 a1 a2 a3 a4 a5 a6 a7 a8 a9 a10 a11 a12 a13 a14 a15 : α} {l : List α} : L2.atI (a0 :: a1 :: a2 :: a3 :: a4 :: a5 :: a6 :: a7 :: a8 :: a9 :: a10 :: a11 :: a12 :: a13 :: a14 :: a15 :: l) 15 = some a15 := atI_of (j := 15) rfl rfl
theorem at16 {α : Type} {a0 a1 a2 a3 a4 a5 a6 a7 a8 a9 a10 a11 a12 a13 a14 a15 a16 : α} {l : List α} : L2.atI (a0 :: a1 :: a2 :: a3 :: a4 :: a5 :: a6 :: a7 :: a8 :: a9 :: a10 :: a11 :: a12 :: a13 :: a14 :: a15 :: a16 :: l) 16 = some a16 := atI_of (j := 16) rfl rfl
theorem at17 {α : Type} {a0 a1 a2 a3 a4 a5 a6 a7 a8 a9 a10 a11 a12 a13 a14 a15 a16 a17 : α} {l : List α} : L2.atI (a0 :: a1 :: a2 :: a3 :: a4 :: a5 :: a6 :: a7 :: a8 :: a9 :: a10 :: a11 :: a12 :: a13 :: a14 :: a15 :: a16 :: a17 :: l) 17 = some a17 := atI_of (j := 17) rfl rfl
theorem at18 {α : Type} {a0 a1 a2 a3 a4 a5 a6 a7 a8 a9 a10 a11 a12 a13 a14 a15 a16 a17 a18 : α} {l : List α} : L2.atI (a0 :: a1 :: a2 :: a3 :: a4 :: a5 :: a6 :: a7 :: a8 :: a9 :: a10 :: a11 :: a12 :: a13 :: a14 :: a15 :: a16 :: a17 :: a18 :: l) 18 = some a18 := atI_of (j := 18) rfl rfl
theorem at19 {α : Type} {a0 a1 a2 a3 a4 a5 a6 a7 a8 a9 a10 a11 a12 a13 a14 a15 a16 a17 a18 a19 : α} {l : List α} : L2.atI (a0 :: a1 :: a2 :: a3 :: a4 :: a5 :: a6 :: a7 :: a8 :: a9 :: a10 :: a11 :: a12 :: a13 :: a14 :: a15 :: a16 :: a17 :: a18 :: a19 :: l) 19 = some a19 := atI_of (j := 19) rfl rfl
theorem at20 {α : Type} {a0 a1 a2 a3 a4 a5 a6 a7 a8 a9 a10 a11 a12 a13 a14 a15 a16 a17 a18 a19 a20 : α} {l : List α} : L2.atI (a0 :: a1 :: a2 :: a3 :: a4 :: a5 :: a6 :: a7 :: a8 :: a9 :: a10 :: a11 :: a12 :: a13 :: a14 :: a15 :: a16 :: a17 :: a18 :: a19 :: a20 :: l) 20 = some a20 := atI_of (j := 20) rfl rfl
theorem at21 {α : Type} {a0 a1 a2 a3 a4 a5 a6 a7 a8 a9 a10 a11 a12 a13 a14 a15 a16 a17 a18 a19 a20 a21 : α} {l : List α} : L2.atI (a0 :: a1 :: a2 :: a3 :: a4 :: a5 :: a6 :: a7 :: a8 :: a9 :: a10 :: a11 :: a12 :: a13 :: a14 :: a15 :: a16 :: a17 :: a18 :: a19 :: a20 :: a21 :: l) 21 = some a21 := atI_of (j := 21) rfl rfl
theorem at22 {α : Type} {a0 a1 a2 a3 a4 a5 a6 a7 a8 a9 a10 a11 a12 a13 a14 a15 a16 a17 a18 a19 a20 a21 a22 : α} {l : List α} : L2.atI (a0 :: a1 :: a2 :: a3 :: a4 :: a5 :: a6 :: a7 :: a8 :: a9 :: a10 :: a11 :: a12 :: a13 :: a14 :: a15 :: a16 :: a17 :: a18 :: a19 :: a20 :: a21 :: a22 :: l) 22 = some a22 := atI_of (j := 22) rfl rfl
theorem at23 {α : Type} {a0 a1 a2 a3 a4 a5 a6 a7 a8 a9 a10 a11 a12 a13 a14 a15 a16 a17 a18 a19 a20 a21 a22 a23 : α} {l : List α} : L2.atI (a0 :: a1 :: a2 :: a3 :: a4 :: a5 :: a6 :: a7 :: a8 :: a9 :: a10 :: a11 :: a12 :: a13 :: a14 :: a15 :: a16 :: a17 :: a18 :: a19 :: a20 :: a21 :: a22 :: a23 :: l) 23 = some a23 := atI_of (j := 23) rfl rfl
theorem at24 {α : Type} {a0 a1 a2 a3 a4 a5 a6 a7 a8 a9 a10 a11 a12 a13 a14 a15 a16 a17 a18 a19 a20 a21 a22 a23 a24 : α} {l : List α} : L2.atI (a0 :: a1 :: a2 :: a3 :: a4 :: a5 :: a6 :: a7 :: a8 :: a9 :: a10 :: a11 :: a12 :: a13 :: a14 :: a15 :: a16 :: a17 :: a18 :: a19 :: a20 :: a21 :: a22 :: a23 :: a24 :: l) 24 = some a24 := atI_of (j := 24) rfl rfl
section
variable {h : DH} {P : KD} {p : Addr} {y d d0 : D} {kvt : List (List Key × D)} {k : List Key}
theorem go_ixDT (he : h p = some (.dT kvt)) (hk : y.tkey? = some k) (hv : valD kvt k = some d) (q : P d h) : doIx (.ref p) y h P := by
  have e1 : isDict h p = true := by unfold isDict; simp only [he]
  unfold doIx
  simp only [e1, if_true]
  unfold dGet
  simp only [he]
  exact ⟨k, hk, d, hv, q⟩
theorem go_inDT (he : h p = some (.dT kvt)) (hk : y.tkey? = some k) (q : P (.bl (valD kvt k).isSome) h) : doIn y (.ref p) h P := by
  have e1 : isDict h p = true := by unfold isDict; simp only [he]
  unfold doIn doInB
  simp only [e1, if_true]
  unfold dGet
  simp only [he]
  exact ⟨k, hk, q⟩
theorem go_ninDT (he : h p = some (.dT kvt)) (hk : y.tkey? = some k) (q : P (.bl (!(valD kvt k).isSome)) h) : doNotIn y (.ref p) h P := by
  have e1 : isDict h p = true := by unfold isDict; simp only [he]
  unfold doNotIn doInB
  simp only [e1, if_true]
  unfold dGet
  simp only [he]
  exact ⟨k, hk, q⟩
theorem go_getT1 (he : h p = some (.dT kvt)) (hk : y.tkey? = some k) (q : P ((valD kvt k).getD .non) h) : mGet (.ref p) [y] h P := by
  unfold mGet
  simp only
  unfold dGet
  simp only [he]
  exact ⟨k, hk, q⟩
theorem w_tyDT (he : h p = some (.dT kvt)) : tyD "dict" h (.ref p) = True := by
  unfold tyD
  simp only [he]
theorem go_tyDT (he : h p = some (.dT kvt)) : tyD "dict" h (.ref p) := by rw [w_tyDT he]; trivial
theorem go_lenDT (he : h p = some (.dT kvt)) (q : P (.int (kvt.length : Nat)) h) : bLen [.ref p] h P := by
  have e : lenD h (.ref p) = some kvt.length := by unfold lenD; simp only [he]
  exact ⟨_, e, q⟩
/-- what stands is laid anew -/
theorem up_id {a : Addr} {o : MO} (e : h a = some o) : up h a o = h := by
  funext b
  unfold up
  split
  · rename_i z; rw [z, e]
  · rfl
/-- another kind of thing stands elsewhere -/
theorem up_ins {a : Addr} {c : Nat} {fs : List D} {o : MO} (e : h a = some (.ins c fs)) (he : h p = some (.dT kvt)) : up h p o a = some (.ins c fs) := by
  rw [up_ne fun z => ?_]
  · exact e
  · rw [z, he] at e; cases e
theorem up_lst {a : Addr} {ds : List D} {o : MO} (e : h a = some (.lst ds)) (he : h p = some (.dT kvt)) : up h p o a = some (.lst ds) := by
  rw [up_ne fun z => ?_]
  · exact e
  · rw [z, he] at e; cases e
end
end DW

/-! DW, part 23: words for the plain part: {a: b}, two loops in a comprehension, +=. -/
namespace DW
open PySem L2
def kDict1 (b : DE) (e : DSt) (p : Addr) (P : KD) (R : KX) : KD := fun x h1 => b e h1 (fun y h2 => h2 p = some (.dK []) ∧ ∃ k, x.key? = some k ∧ P (.ref p) (up h2 p (.dK [(k, y)]))) R
def kDictT (b : DE) (e : DSt) (p : Addr) (P : KD) (R : KX) : KD := fun x h1 => b e h1 (fun y h2 => h2 p = some (.dT []) ∧ ∃ k, x.tkey? = some k ∧ P (.ref p) (up h2 p (.dT [(k, y)]))) R
def kDictX (b : DE) (e : DSt) (p : Addr) (P : KD) (R : KX) : KD := fun x h1 => b e h1 (fun y h2 => h2 p = some (.dX []) ∧ ∃ m k, x.xkey? = some (m, k) ∧ P (.ref p) (up h2 p (.dX [(k, m, y)]))) R
def kLc2 (g : DG) (tt : DT) (di1 : DI) (g1 : DG) (tt1 : DT) (te : DE) (vs vs1 : List Nat) (e : DSt) (P : KD) : List D → (DH → Prop) → DH → Prop := fun ds still h1 => ∀ L, h1 L = none → lcS2 L still g tt di1 g1 tt1 te (wipeD e vs) vs1 ds [] (up h1 L (.lst [])) P
def kLcI (g1 : DG) (tt1 : DT) (te : DE) (vs1 : List Nat) (L : Addr) (acc : List D) (X : List D → DH → Prop) (e1 : DSt) : List D → (DH → Prop) → DH → Prop := fun ds1 still1 h3 => h3 L = some (.lst acc) ∧ lcI L still1 g1 tt1 te (wipeD e1 vs1) ds1 acc h3 X
def kLc2B (di1 : DI) (g1 : DG) (tt1 : DT) (te : DE) (vs1 : List Nat) (L : Addr) (acc : List D) (X : List D → DH → Prop) (e1 : DSt) : Bool → DH → Prop := fun b h2 => if b = true then di1 e1 h2 (kLcI g1 tt1 te vs1 L acc X e1) (fun _ _ => False) else h2 L = some (.lst acc) ∧ X acc h2
def kAugN (g : Int → Int → Int) (D0 : DEnds) (e : DSt) (i : Nat) (m : Int) : KD := fun y h1 => match y with
  | .int n => D0.nx (e.set i (some (.int (g m n)))) h1
  | _ => False
section
variable {i : DI} {g : DG} {tt : DT} {di1 : DI} {g1 : DG} {tt1 : DT} {te a b : DE} {vs vs1 : List Nat} {e : DSt} {h : DH} {P : KD} {R : KX} {L : Addr} {acc : List D} {X : List D → DH → Prop} {x y d : D} {still : DH → Prop} {ds r : List D} {D0 : DEnds} {n : Nat} {gg : Int → Int → Int} {m k : Int}
theorem w_dict1 : cDict1 a b e h P R = ((∀ p, h p = none → a e (up h p (.dK [])) (kDict1 b e p P R) R) ∨ (∀ p, h p = none → a e (up h p (.dT [])) (kDictT b e p P R) R) ∨ ∀ p, h p = none → a e (up h p (.dX [])) (kDictX b e p P R) R) := propext Iff.rfl
theorem w_lc2 : cLc2 i g tt di1 g1 tt1 te vs vs1 e h P R = i e h (kLc2 g tt di1 g1 tt1 te vs vs1 e P) R := propext Iff.rfl
theorem w_kLc2T : kLc2B di1 g1 tt1 te vs1 L acc X e true h = di1 e h (kLcI g1 tt1 te vs1 L acc X e) (fun _ _ => False) := propext Iff.rfl
theorem w_kLc2F : kLc2B di1 g1 tt1 te vs1 L acc X e false h = (h L = some (.lst acc) ∧ X acc h) := propext Iff.rfl
theorem w_kLcI : kLcI g1 tt1 te vs1 L acc X e ds still h = (h L = some (.lst acc) ∧ lcI L still g1 tt1 te (wipeD e vs1) ds acc h X) := propext Iff.rfl
theorem w_lcI0 : lcI L still g tt te e [] acc h X = (still h ∧ h L = some (.lst acc) ∧ X acc h) := propext Iff.rfl
theorem w_lcI1 : lcI L still g tt te e (d :: r) acc h X = (still h ∧ g d e h fun e1 h1 => tt e1 h1 (kLcB te L acc (fun acc' h' => lcI L still g tt te e r acc' h' X) e1) (fun _ _ => False)) := propext Iff.rfl
theorem lcS2_eq : lcS2 L still g tt di1 g1 tt1 te e vs1 (d :: r) acc h P = (still h ∧ g d e h fun e1 h1 => tt e1 h1 (kLc2B di1 g1 tt1 te vs1 L acc (fun acc' h' => lcS2 L still g tt di1 g1 tt1 te e vs1 r acc' h' P) e1) (fun _ _ => False)) := propext Iff.rfl
theorem w_augN : sAugN gg n a D0 e h = match lk e n with
  | some (.int m) => a e h (kAugN gg D0 e n m) fun x h1 => D0.ex x e h1
  | _ => False := propext Iff.rfl
theorem w_kAugN : kAugN gg D0 e n m (.int k) h = D0.nx (e.set n (some (.int (gg m k)))) h := propext Iff.rfl
theorem flat_len {α β : Type} {out : α → List β} {n : Nat} (ho : ∀ x, (out x).length ≤ n) : ∀ xs : List α, (xs.flatMap out).length ≤ n * xs.length
  | [] => by simp
  | x :: xs => by
    have := flat_len ho xs
    have := ho x
    rw [List.flatMap_cons, List.length_append, List.length_cons, Nat.mul_add]
    omega
theorem lc2_ind {α : Type} {f : α → D} {xs : List α} (N : Nat) (out : α → List D) (st : ∀ acc, still (up h L (.lst acc)))
    (step : ∀ acc x (X : List D → DH → Prop), x ∈ xs → acc.length + (out x).length ≤ N → X (acc ++ out x) (up h L (.lst (acc ++ out x))) → g (f x) e (up h L (.lst acc)) fun e1 h1 => tt e1 h1 (kLc2B di1 g1 tt1 te vs1 L acc X e1) (fun _ _ => False)) :
    ∀ (rest : List α) acc, (∀ x ∈ rest, x ∈ xs) → acc.length + (rest.flatMap out).length ≤ N → P (.ref L) (up h L (.lst (acc ++ rest.flatMap out))) → lcS2 L still g tt di1 g1 tt1 te e vs1 (rest.map f) acc (up h L (.lst acc)) P
  | [], acc, _, _, p => ⟨st acc, by simpa using p⟩
  | x :: rest, acc, hr, hn, p => by
    rw [List.map_cons, lcS2_eq]
    rw [List.flatMap_cons, List.length_append] at hn
    refine ⟨st acc, step acc x _ (hr x (List.mem_cons_self ..)) (by omega) ?_⟩
    exact lc2_ind N out st step rest (acc ++ out x) (fun y hy => hr y (List.mem_cons_of_mem _ hy)) (by rw [List.length_append]; omega) (by rw [List.append_assoc]; simpa using p)
/-- a comprehension with two loops whose parts leave the heap as it is -/
theorem go_lc2 {α : Type} {f : α → D} {xs : List α} (N : Nat) (out : α → List D) (hN : (xs.flatMap out).length ≤ N) (st : ∀ L acc, h L = none → still (up h L (.lst acc)))
    (step : ∀ L acc x (X : List D → DH → Prop), h L = none → x ∈ xs → acc.length + (out x).length ≤ N → X (acc ++ out x) (up h L (.lst (acc ++ out x))) → g (f x) (wipeD e vs) (up h L (.lst acc)) fun e1 h1 => tt e1 h1 (kLc2B di1 g1 tt1 te vs1 L acc X e1) (fun _ _ => False))
    (ok : kNew (xs.flatMap out) P h) : kLc2 g tt di1 g1 tt1 te vs vs1 e P (xs.map f) still h := fun L hL =>
  lc2_ind N out (fun acc => st L acc hL) (fun acc x X hx hn k => step L acc x X hL hx hn k) xs [] (fun _ z => z) (by simpa using hN) (by rw [List.nil_append]; exact ok L hL)
end
section
variable {g : DG} {tt : DT} {te : DE} {vs : List Nat} {e : DSt} {h : DH} {P : KD} {α : Type} {f k : α → D} {xs : List α}
/-- a comprehension that filters and maps, of what leaves the heap as it is -/
theorem go_lcG {still : DH → Prop} (q : α → Bool) (hlen : xs.length ≤ sizeLine) (st : ∀ L acc, h L = none → still (up h L (.lst acc)))
    (step : ∀ L acc x (X : List D → DH → Prop), h L = none → x ∈ xs → acc.length < sizeLine → (q x = true → X (acc ++ [k x]) (up h L (.lst (acc ++ [k x])))) → (q x = false → X acc (up h L (.lst acc))) → g (f x) (wipeD e vs) (up h L (.lst acc)) fun e1 h1 => tt e1 h1 (kLcB te L acc X e1) (fun _ _ => False))
    (ok : kNew ((xs.filter q).map k) P h) : kLc g tt te vs e P (xs.map f) still h := by
  refine go_lc (fun L r acc h' => h' = up h L (.lst acc) ∧ ∃ pre rest, xs = pre ++ rest ∧ r = rest.map f ∧ acc = (pre.filter q).map k) (fun L hL => ⟨rfl, [], xs, rfl, rfl, rfl⟩) (fun L d r acc h' X hL j nx => ?_) (fun L acc h' hL j => ?_)
  · obtain ⟨rfl, pre, rest, e1, e2, e3⟩ := j
    cases rest with
    | nil => cases e2
    | cons x rest =>
      obtain ⟨rfl, rfl⟩ := List.cons.inj e2
      refine ⟨st L acc hL, step L acc x X hL (by rw [e1]; simp) ?_ (fun z => ?_) (fun z => ?_)⟩
      · have l1 := List.length_filter_le q pre
        have l2 := congrArg List.length e1
        simp only [List.length_append, List.length_cons] at l2
        rw [e3, List.length_map]
        omega
      · exact nx _ _ ⟨rfl, pre ++ [x], rest, by rw [e1]; simp, rfl, by rw [e3]; simp [z]⟩
      · exact nx _ _ ⟨rfl, pre ++ [x], rest, by rw [e1]; simp, rfl, by rw [e3]; simp [z]⟩
  · obtain ⟨rfl, pre, rest, e1, e2, e3⟩ := j
    cases rest with
    | cons x rest => cases e2
    | nil =>
      refine ⟨st L acc hL, ?_⟩
      rw [List.append_nil] at e1
      rw [e3, ← e1]
      exact ok L hL
end
end DW

/-! DW, part 24: more words for the plain part. -/
namespace DW
open PySem L2
section
variable {h h' h0 : DH} {P : KD} {R : KX} {a b p q : Addr} {ds xs ys : List D} {o : MO} {i : Nat} {x y d : D} {e : DSt} {E : DEnds} {t : DA} {oe : DE}
def kMethN (tb : List (Nat × DSp)) (t : DA) (e : DSt) (P : KD) (R : KX) : KD := fun x h1 => ∃ q ∈ tb, kMeth q.1 q.2 t e P R x h1
theorem go_methN {tb : List (Nat × DSp)} {c : Nat} {fs : List D} {s : DSp} (he : h p = some (.ins c fs)) (hm : (c, s) ∈ tb) (q : t e h (fun ds h2 => s (.ref p :: ds) h2 P R) R) : kMethN tb t e P R (.ref p) h := ⟨(c, s), hm, go_meth he q⟩
theorem m_methN {tb : List (Nat × DSp)} {i : Nat} (hv : lk e i = some x) (q : kMethN tb t e P R x h) : cMeth (cVar i) tb t e h P R := by
  obtain ⟨z, hz, k⟩ := q
  refine ⟨z, hz, ?_⟩
  show cVar i e h _ R
  unfold cVar
  rw [hv]
  exact k
theorem go_popL (q : cM "list" mPopL oe t e h P R) : cMPop oe t e h P R := .inl q
theorem go_popD (q : cM "dict" mPopD oe t e h P R) : cMPop oe t e h P R := .inr q
theorem go_pD {k : Key} {kvs : List (Key × D)} (he : h a = some (.dK kvs)) (hk : y.key? = some k) (hv : valD kvs k = some d) (q : P d (up h a (.dK (kvs.filter fun kv => decide (kv.1 ≠ k))))) : mPopD (.ref a) [y] h P := ⟨kvs, k, d, he, hk, hv, q⟩
/-- if c: xs.append(w), where xs is a new list -/
theorem go_ifapp {c : Bool} {t : DE} (S : Sub h0 h) (hp : h0 p = none) (hl : h p = some (.lst ds)) (hx : lk e i = some (.ref p)) (hn : ds.length < sizeLine) (ht : ∀ H P, P x H → t e H P (fun x h => E.ex x e h))
    (q : ∀ H, Sub h0 H → H p = some (.lst (ds ++ if c then [x] else [])) → E.nx e H) : kIf (sDrop (cM "list" mAppend (cVar i) (cCons t cNil))) sNext E e c h := by
  cases c with
  | false =>
    show sNext E e h
    exact q h S (by simpa using hl)
  | true =>
    show sDrop (cM "list" mAppend (cVar i) (cCons t cNil)) E e h
    simp only [w_drop, w_M, w_var, hx, w_cons, w_nil]
    refine ⟨go_tyL hl, ?_⟩
    refine ht _ _ ?_
    refine go_appL hl hn ?_
    exact q _ (Sub.over S hp) (by rw [up_same]; rfl)
end
section
variable {h : DH} {P : KD} {a : Int} {hs : List Int} {x : D} {ds : List D}
theorem w_inT {x : Str} : doIn (.str x) (.tup ds) h P = ((D.str x).flat = true ∧ ds.all D.flat = true ∧ P (.bl (ds.any fun y => eqF y (.str x))) h) := propext ⟨fun p => Or.elim p id (fun q => Bool.noConfusion q.1), Or.inl⟩
theorem w_inTi {x : Int} : doIn (.int x) (.tup ds) h P = ((D.int x).flat = true ∧ ds.all D.flat = true ∧ P (.bl (ds.any fun y => eqF y (.int x))) h) := propext ⟨fun p => Or.elim p id (fun q => Bool.noConfusion q.1), Or.inl⟩
theorem go_inTT {b : Bool} (e : memL h (.tup as) ds = some b) (p : P (.bl b) h) : doIn (.tup as) (.tup ds) h P := Or.inr ⟨rfl, b, e, p⟩
theorem flat_ints : ∀ hs : List Int, (hs.map D.int).all D.flat = true
  | [] => rfl
  | i :: hs => by rw [List.map_cons, List.all_cons, flat_ints hs]; rfl
theorem any_ints : ∀ hs : List Int, ((hs.map D.int).any fun y => eqF y (.int a)) = hs.contains a
  | [] => rfl
  | i :: hs => by
    rw [List.map_cons, List.any_cons, any_ints hs, List.contains_cons]
    congr 1
    show (i == a) = (a == i)
    rw [Bool.beq_comm]
theorem w_inI : doIn (.int a) (.tup (hs.map D.int)) h P = P (.bl (hs.contains a)) h := by
  rw [w_inTi, flat_ints, any_ints]
  simp [D.flat]
end
theorem sx0 : decide (("pay" : Str) = "open") = false := by decide
theorem sx1 : decide (("pay" : Str) = "publish") = false := by decide
theorem sx2 : decide (("pay" : Str) = "settle") = false := by decide
theorem sx3 : decide (("pay" : Str) = "splice") = false := by decide
theorem sx4 : decide (("pay" : Str) = "reveal") = false := by decide
theorem sx5 : decide (("open" : Str) = "pay") = false := by decide
theorem sx6 : decide (("open" : Str) = "publish") = false := by decide
theorem sx7 : decide (("open" : Str) = "settle") = false := by decide
theorem sx8 : decide (("open" : Str) = "splice") = false := by decide
theorem sx9 : decide (("open" : Str) = "reveal") = false := by decide
theorem sx10 : decide (("publish" : Str) = "pay") = false := by decide
theorem sx11 : decide (("publish" : Str) = "open") = false := by decide
theorem sx12 : decide (("publish" : Str) = "settle") = false := by decide
theorem sx13 : decide (("publish" : Str) = "splice") = false := by decide
theorem sx14 : decide (("publish" : Str) = "reveal") = false := by decide
theorem sx15 : decide (("settle" : Str) = "pay") = false := by decide
theorem sx16 : decide (("settle" : Str) = "open") = false := by decide
theorem sx17 : decide (("settle" : Str) = "publish") = false := by decide
theorem sx18 : decide (("settle" : Str) = "splice") = false := by decide
theorem sx19 : decide (("settle" : Str) = "reveal") = false := by decide
theorem sx20 : decide (("splice" : Str) = "pay") = false := by decide
theorem sx21 : decide (("splice" : Str) = "open") = false := by decide
theorem sx22 : decide (("splice" : Str) = "publish") = false := by decide
theorem sx23 : decide (("splice" : Str) = "settle") = false := by decide
theorem sx24 : decide (("splice" : Str) = "reveal") = false := by decide
theorem sx25 : decide (("reveal" : Str) = "pay") = false := by decide
theorem sx26 : decide (("reveal" : Str) = "open") = false := by decide
theorem sx27 : decide (("reveal" : Str) = "publish") = false := by decide
theorem sx28 : decide (("reveal" : Str) = "settle") = false := by decide
theorem sx29 : decide (("reveal" : Str) = "splice") = false := by decide
theorem sx30 : decide (("purse" : Str) = "burnt") = false := by decide
theorem sx31 : decide (("purse" : Str) = "channel") = false := by decide
theorem sx32 : decide (("burnt" : Str) = "purse") = false := by decide
theorem sx33 : decide (("burnt" : Str) = "channel") = false := by decide
theorem sx34 : decide (("channel" : Str) = "purse") = false := by decide
theorem sx35 : decide (("channel" : Str) = "burnt") = false := by decide
/-! ### len of a set comprehension of tuples -/
def kLs (g : DG) (te : DE) (vs : List Nat) (e : DSt) (P : KD) : List D → (DH → Prop) → DH → Prop := fun ds still h1 => ∀ D0, h1 D0 = none → scS D0 still g te (wipeD e vs) ds [] (up h1 D0 (.sT [])) P
def kLsY (D0 : Addr) (acc : List (List Int)) (X : List (List Int) → DH → Prop) : KD := fun y h2 => ∃ k : List Int, y = .tup (k.map D.int) ∧ h2 D0 = some (.sT acc) ∧ acc.length + 1 < 64 ∧ X (insT k acc) (up h2 D0 (.sT (insT k acc)))
section
variable {i : DI} {g : DG} {te : DE} {vs : List Nat} {e : DSt} {h : DH} {P : KD} {R : KX} {α : Type} {f : α → D} {kf : α → List Int} {xs : List α} {acc : List (List Int)} {ks : List (List Int)} {k : List Int} {still : DH → Prop} {D0 : Addr} {X : List (List Int) → DH → Prop}
theorem w_lenSc : cLenSc i g te vs e h P R = i e h (kLs g te vs e P) R := propext Iff.rfl
theorem insT_len : (insT k acc).length ≤ acc.length + 1 := by
  unfold insT
  split
  · omega
  · rw [List.length_cons]; omega
def insL (acc : List (List Int)) (ks : List (List Int)) : List (List Int) := ks.foldl (fun a k => insT k a) acc
theorem insL_le : ∀ (ks acc : List (List Int)), (insL acc ks).length ≤ acc.length + ks.length
  | [], acc => by simp [insL]
  | k :: ks, acc => by
    have := insL_le ks (insT k acc)
    have := insT_len (k := k) (acc := acc)
    show (insL (insT k acc) ks).length ≤ acc.length + (ks.length + 1)
    omega
theorem insL_nd : ∀ (ks acc : List (List Int)), ks.Nodup → (∀ k ∈ ks, k ∉ acc) → (insL acc ks).length = acc.length + ks.length
  | [], acc, _, _ => by simp [insL]
  | k :: ks, acc, nd, n => by
    rw [List.nodup_cons] at nd
    have e : insT k acc = k :: acc := if_neg (n k (List.mem_cons_self ..))
    show (insL (insT k acc) ks).length = _
    rw [e, insL_nd ks (k :: acc) nd.2 fun z hz m => by
      rcases List.mem_cons.mp m with e | m
      · exact nd.1 (by rw [← e]; exact hz)
      · exact n z (List.mem_cons_of_mem _ hz) m, List.length_cons, List.length_cons]
    omega
theorem insL_twice : ∀ (ks acc : List (List Int)), (¬ ks.Nodup ∨ ∃ k ∈ ks, k ∈ acc) → (insL acc ks).length < acc.length + ks.length
  | [], acc, h => by
    rcases h with h | ⟨k, hk, _⟩
    · exact absurd List.nodup_nil h
    · cases hk
  | k :: ks, acc, h => by
    show (insL (insT k acc) ks).length < acc.length + (ks.length + 1)
    by_cases m : k ∈ acc
    · have e : insT k acc = acc := if_pos m
      rw [e]
      have := insL_le ks acc
      omega
    · have e : insT k acc = k :: acc := if_neg m
      rw [e]
      have := insL_twice ks (k :: acc) (by
        by_cases nd : ks.Nodup
        · rcases h with h | ⟨z, hz, mz⟩
          · refine .inr ⟨k, ?_, List.mem_cons_self ..⟩
            exact Classical.byContradiction fun c => h (List.nodup_cons.mpr ⟨c, nd⟩)
          · rcases List.mem_cons.mp hz with e | hz
            · exact absurd (by rw [← e]; exact mz) m
            · exact .inr ⟨z, hz, List.mem_cons_of_mem _ mz⟩
        · exact .inl nd)
      rw [List.length_cons] at this
      omega
theorem go_lenSc (hlen : xs.length < 64) (st : ∀ D0 acc, h D0 = none → still (up h D0 (.sT acc)))
    (step : ∀ D0 acc x (X : List (List Int) → DH → Prop), h D0 = none → x ∈ xs → (acc.length + 1 < 64 ∧ X (insT (kf x) acc) (up h D0 (.sT (insT (kf x) acc)))) → g (f x) (wipeD e vs) (up h D0 (.sT acc)) fun e1 h1 => te e1 h1 (kLsY D0 acc X) (fun _ _ => False))
    (ok : ∀ H, Sub h H → P (.int ((insL [] (xs.map kf)).length : Nat)) H) : kLs g te vs e P (xs.map f) still h := by
  intro D0 hD
  have all : ∀ (rest pre : List α), xs = pre ++ rest → scS D0 still g te (wipeD e vs) (rest.map f) (insL [] (pre.map kf)) (up h D0 (.sT (insL [] (pre.map kf)))) P := by
    intro rest
    induction rest with
    | nil =>
      intro pre ep
      rw [List.append_nil] at ep
      rw [← ep]
      exact ⟨st D0 _ hD, up_same, ok _ (Sub.new hD)⟩
    | cons x rest ih =>
      intro pre ep
      have e2 : insT (kf x) (insL [] (pre.map kf)) = insL [] ((pre ++ [x]).map kf) := by
        unfold insL
        rw [List.map_append, List.foldl_append]
        rfl
      have ln : (insL [] (pre.map kf)).length + 1 < 64 := by
        have h1 := insL_le (pre.map kf) []
        have h2 := congrArg List.length ep
        simp only [List.length_map, List.length_append, List.length_cons, List.length_nil] at h1 h2
        omega
      refine ⟨st D0 _ hD, step D0 _ x (fun acc' h' => scS D0 still g te (wipeD e vs) (rest.map f) acc' h' P) hD (by rw [ep]; simp) ⟨ln, ?_⟩⟩
      rw [e2]
      exact ih (pre ++ [x]) (by rw [ep]; simp)
  exact all xs [] rfl
theorem kLsY_tup (h0 : acc.length + 1 < 64 ∧ X (insT k acc) (up h D0 (.sT (insT k acc)))) : kLsY D0 acc X (.tup (k.map D.int)) (up h D0 (.sT acc)) := ⟨k, rfl, up_same, h0.1, by rw [up_up]; exact h0.2⟩
end
theorem go_setDT {h : DH} {P : KD} {p : Addr} {y z : D} {k : List Key} {kvs : List (List Key × D)} (he : h p = some (.dT kvs)) (hk : y.tkey? = some k) (hl : kvs.length < sizeLine) (q1 : ∀ d, valD kvs k = some d → P d h) (q2 : valD kvs k = none → P z (up h p (.dT (putM kvs k z)))) : mSetD (.ref p) [y, z] h P := .inr ⟨kvs, k, he, hk, hl, q1, q2⟩
/-! ### dicts whose keys are tuples, some of the module -/
section
variable {h : DH} {P : KD} {p : Addr} {y d d0 : D} {m : Bool} {k : List Key} {kvs : List (List Key × Bool × D)}
theorem go_ixDX (he : h p = some (.dX kvs)) (hk : y.xkey? = some (m, k)) (hv : valX kvs k = some d) (q : P d h) : doIx (.ref p) y h P := by
  have e1 : isDict h p = true := by unfold isDict; simp only [he]
  unfold doIx
  simp only [e1, if_true]
  unfold dGet
  simp only [he]
  exact ⟨m, k, hk, d, hv, q⟩
theorem go_inDX (he : h p = some (.dX kvs)) (hk : y.xkey? = some (m, k)) (q : P (.bl (valX kvs k).isSome) h) : doIn y (.ref p) h P := by
  have e1 : isDict h p = true := by unfold isDict; simp only [he]
  unfold doIn doInB
  simp only [e1, if_true]
  unfold dGet
  simp only [he]
  exact ⟨m, k, hk, q⟩
theorem go_ninDX (he : h p = some (.dX kvs)) (hk : y.xkey? = some (m, k)) (q : P (.bl (!(valX kvs k).isSome)) h) : doNotIn y (.ref p) h P := by
  have e1 : isDict h p = true := by unfold isDict; simp only [he]
  unfold doNotIn doInB
  simp only [e1, if_true]
  unfold dGet
  simp only [he]
  exact ⟨m, k, hk, q⟩
theorem go_setX {Q : DH → Prop} (he : h p = some (.dX kvs)) (hk : y.xkey? = some (m, k)) (hl : kvs.length < sizeLine) (q : Q (up h p (.dX (putX kvs k m d)))) : setD (.ref p) y d h Q := by
  unfold setD
  simp only [he]
  exact ⟨m, k, hk, hl, q⟩
theorem go_getX2 (he : h p = some (.dX kvs)) (hk : y.xkey? = some (m, k)) (q : P ((valX kvs k).getD d0) h) : mGet (.ref p) [y, d0] h P := by
  unfold mGet
  simp only
  unfold dGet
  simp only [he]
  exact ⟨m, k, hk, q⟩
def keyXD (q : List Key × Bool × D) : D := if q.2.1 = true then .ktup (q.1.map kD) else .tup (q.1.map kD)
theorem go_listX (he : h p = some (.dX kvs)) (q : kNew (kvs.map keyXD) P h) : bList1 [.ref p] h P := by
  have e2 : allOf h (.ref p) = some (kvs.map keyXD) := by simp only [allOf, he]; rfl
  unfold bList1
  exact ⟨_, e2, q⟩
end
end DW

namespace Lk66
open PySem PySem.Spec PyProof.Rows L2 DW
/-! ### the module, its defs: readings, promises (printed by gen.py) -/
def top (i : Nat) : Stmt := PySem.Challenge.pw_droveway_k66_maps.main.body.getD i (.Pass ⟨0, 0, 0, 0⟩)
def kt_bool : List (Tag × Bool) := [(.ty "NoneType", false), (.ty "bool", true), (.ty "int", false), (.ty "str", false), (.ty "tuple", false), (.ty "list", false), (.ty "dict", false), (.own 2, false)]
def xt_DrovewayError : List (Nat × Bool) := [(0, true), (1, true)]
def xt_OutOfBounds : List (Nat × Bool) := [(0, false), (1, true)]
def md : Mod where
  cls := ["DrovewayError", "OutOfBounds", "Map"]
  fn := [[], [], ["rows"]]
  free := ["dict", "int", "isinstance", "len", "list", "range", "sorted", "tuple"]
  mints := [("MOST_EDITION", 4294967295), ("MOST_CARRIED", 1000000000000000), ("MOST_SHARE", 100000), ("MOST_GAP", 1000000000000)]
  mstrs := []
  tups := []
  kits := [("bool", some "bool", kt_bool)]
  exks := [("DrovewayError", none, xt_DrovewayError), ("OutOfBounds", none, xt_OutOfBounds)]
  excs := [("OutOfBounds", 1)]
  lks := []
  flds := [("rows", [(2, 0)])]
theorem k_bool_NoneType : tabK kt_bool (.ty "NoneType") = some false := by decide +kernel
theorem k_bool_bool : tabK kt_bool (.ty "bool") = some true := by decide +kernel
theorem k_bool_int : tabK kt_bool (.ty "int") = some false := by decide +kernel
theorem k_bool_str : tabK kt_bool (.ty "str") = some false := by decide +kernel
theorem k_bool_tuple : tabK kt_bool (.ty "tuple") = some false := by decide +kernel
theorem k_bool_list : tabK kt_bool (.ty "list") = some false := by decide +kernel
theorem k_bool_dict : tabK kt_bool (.ty "dict") = some false := by decide +kernel
theorem k_bool_own2 : tabK kt_bool (.own 2) = some false := by decide +kernel
theorem x_DrovewayError_0 : tabX xt_DrovewayError 0 = some true := by decide +kernel
theorem x_DrovewayError_1 : tabX xt_DrovewayError 1 = some true := by decide +kernel
theorem x_OutOfBounds_0 : tabX xt_OutOfBounds 0 = some false := by decide +kernel
theorem x_OutOfBounds_1 : tabX xt_OutOfBounds 1 = some true := by decide +kernel
def t_check_notice : DS := sSeq (sPar3 1 2 3 (cCons (cBin doIx (cVar 0) (cD (.int 2))) (cCons (cBin doIx (cVar 0) (cD (.int 4))) (cCons (cBin doIx (cVar 0) (cD (.int 5))) (cNil))))) (sSeq (sIf (cOr (cNot (cTst (cChain doLe doLe (cD (.int 0)) (cVar 1) (cD (.int 4294967295))))) (cNot (cTst (cChain doLe doLe (cD (.int 0)) (cVar 3) (cD (.int 1000000000000000)))))) (sRaise 1 (cCons (cD (.str "an edition or an amount of a notice is out of its bounds")) (cNil))) (sNext)) (sIf (cOr (cNot (cTst (cChain doLe doLe (cD (.int 0)) (cBin doIx (cVar 2) (cD (.int 0))) (cD (.int 1000000000000000))))) (cOr (cNot (cTst (cChain doLe doLe (cD (.int 0)) (cBin doIx (cVar 2) (cD (.int 1))) (cD (.int 100000))))) (cNot (cTst (cChain doLe doLe (cD (.int 0)) (cBin doIx (cVar 2) (cD (.int 2))) (cD (.int 1000000000000))))))) (sRaise 1 (cCons (cD (.str "a toll of a notice is out of its bounds")) (cNil))) (sNext)))
def sp_check_notice : DSp := mkFn 1 4 t_check_notice
def t_place_of : DS := sRet (cTup (cCons (cBin doIx (cVar 0) (cD (.int 0))) (cCons (cBin doIx (cVar 0) (cD (.int 1))) (cNil))))
def sp_place_of : DSp := mkFn 1 1 t_place_of
def t_row_of : DS := sRet (cTup (cCons (cBin doIx (cVar 0) (cD (.int 0))) (cCons (cBin doIx (cVar 0) (cD (.int 1))) (cCons (cBin doIx (cVar 0) (cD (.int 2))) (cCons (cVar 0) (cNil))))))
def sp_row_of : DSp := mkFn 1 1 t_row_of
def t_way_of : DS := sRet (cTup (cCons (cBin doIx (cVar 0) (cD (.int 0))) (cCons (cBin doIx (cVar 0) (cD (.int 1))) (cCons (cBin doIx (cVar 0) (cD (.int 3))) (cCons (cBin doIx (cVar 0) (cD (.int 4))) (cCons (cBin doIx (cVar 0) (cD (.int 5))) (cNil)))))))
def sp_way_of : DSp := mkFn 1 1 t_way_of
def t_is_closed : DS := sRet (cBin doEq (cBin doIx (cVar 0) (cD (.int 5))) (cD (.int 0)))
def sp_is_closed : DSp := mkFn 1 1 t_is_closed
def t_joined_row : DS := sSeq (sIf (cOr (cTst (cBin doIs (cVar 0) (cD .non))) (cTst (cBin doGt (cBin doIx (cVar 1) (cD (.int 2))) (cBin doIx (cVar 0) (cD (.int 2)))))) (sRet (cVar 1)) (sNext)) (sSeq (sIf (cOr (cTst (cBin doLt (cBin doIx (cVar 1) (cD (.int 2))) (cBin doIx (cVar 0) (cD (.int 2))))) (cOr (cTst (cBin doIs (cBin doIx (cVar 0) (cD (.int 3))) (cD .non))) (cTst (cBin doEq (cBin doIx (cVar 0) (cD (.int 3))) (cBin doIx (cVar 1) (cD (.int 3))))))) (sRet (cVar 0)) (sNext)) (sRet (cTup (cCons (cBin doIx (cVar 0) (cD (.int 0))) (cCons (cBin doIx (cVar 0) (cD (.int 1))) (cCons (cBin doIx (cVar 0) (cD (.int 2))) (cCons (cD .non) (cNil))))))))
def sp_joined_row : DSp := mkFn 2 2 t_joined_row
def t_Map__d_init_d_ : DS := sFld (cVar 0) (cDict0) [(2, 0)]
def sp_Map__d_init_d_ : DSp := mkFn 1 1 t_Map__d_init_d_
def sp_Map : DSp := mkSp 2 sp_Map__d_init_d_
def t_Map__d_len_d_ : DS := sRet (cB (bLenO []) (cCons (cFld (cVar 0) [(2, 0)]) (cNil)))
def sp_Map__d_len_d_ : DSp := mkFn 1 1 t_Map__d_len_d_
def t_Map_row : DS := sRet (cM "dict" mGet (cFld (cVar 0) [(2, 0)]) (cCons (cTup (cCons (cVar 1) (cCons (cVar 2) (cNil)))) (cNil)))
def sp_Map_row : DSp := mkFn 3 3 t_Map_row
def t_Map_take : DS := sSeq (sAsg (cTup (cCons (cBin doIx (cVar 1) (cD (.int 0))) (cCons (cBin doIx (cVar 1) (cD (.int 1))) (cNil)))) (gN 2)) (sSeq (sAsg (cM "dict" mGet (cFld (cVar 0) [(2, 0)]) (cCons (cVar 2) (cNil))) (gN 3)) (sSeq (sAsg (cCall sp_joined_row (cCons (cVar 3) (cCons (cVar 1) (cNil)))) (gN 4)) (sSeq (sIf (cTst (cBin doEq (cVar 4) (cVar 3))) (sRet (cD (.bl false))) (sNext)) (sSeq (sSub (cFld (cVar 0) [(2, 0)]) (cVar 2) (cVar 4)) (sRet (cD (.bl true)))))))
def sp_Map_take : DSp := mkFn 2 5 t_Map_take
def t_Map_hear : DS := sSeq (sDrop (cCall sp_check_notice (cCons (cVar 1) (cNil)))) (sRet (cMeth (cVar 0) [(2, sp_Map_take)] (cCons (cCall sp_row_of (cCons (cVar 1) (cNil))) (cNil))))
def sp_Map_hear : DSp := mkFn 2 2 t_Map_hear
def t_Map_all_rows : DS := sRet (cLc (iSeq (cB bSortedA (cCons (cFld (cVar 0) [(2, 0)]) (cNil)))) (gN 1) tYesD (cBin doIx (cFld (cVar 0) [(2, 0)]) (cVar 1)) [1])
def sp_Map_all_rows : DSp := mkFn 1 2 t_Map_all_rows
def th_Map_all_rows : DS := sRet (cLc (iSrtD (cFld (cVar 0) [(2, 0)])) (gN 1) tYesD (cBin doIx (cFld (cVar 0) [(2, 0)]) (cVar 1)) [1])
def sph_Map_all_rows : DSp := mkFn 1 2 th_Map_all_rows
def t_Map_doubts : DS := sRet (cLc (iSeq (cMeth (cVar 0) [(2, sp_Map_all_rows)] (cNil))) (gN 1) (cTst (cBin doIs (cBin doIx (cVar 1) (cD (.int 3))) (cD .non))) (cSl (cVar 1) cNoPart (cPart (cD (.int 3)))) [1])
def sp_Map_doubts : DSp := mkFn 1 2 t_Map_doubts
def t_Map_notices : DS := sRet (cLc (iSeq (cMeth (cVar 0) [(2, sp_Map_all_rows)] (cNil))) (gN 1) (cTst (cBin doIsNot (cBin doIx (cVar 1) (cD (.int 3))) (cD .non))) (cBin doIx (cVar 1) (cD (.int 3))) [1])
def sp_Map_notices : DSp := mkFn 1 2 t_Map_notices
def t_Map_ways : DS := sRet (cLc (iSeq (cMeth (cVar 0) [(2, sp_Map_notices)] (cNil))) (gN 1) (cNot (cTru (cCall sp_is_closed (cCons (cVar 1) (cNil))))) (cCall sp_way_of (cCons (cVar 1) (cNil))) [1])
def sp_Map_ways : DSp := mkFn 1 2 t_Map_ways
def t_copy_map : DS := sSeq (sAsg (cCall sp_Map (cNil)) (gN 1)) (sSeq (sFld (cVar 1) (cB bDictA (cCons (cFld (cVar 0) [(2, 0)]) (cNil))) [(2, 0)]) (sRet (cVar 1)))
def sp_copy_map : DSp := mkFn 1 2 t_copy_map
def t_same_maps : DS := sRet (cBin doEq (cMeth (cVar 0) [(2, sp_Map_all_rows)] (cNil)) (cMeth (cVar 1) [(2, sp_Map_all_rows)] (cNil)))
def sp_same_maps : DSp := mkFn 2 2 t_same_maps
def t_join : DS := sSeq (sAsg (cCall sp_copy_map (cCons (cVar 0) (cNil))) (gN 2)) (sSeq (sFor (iSeq (cMeth (cVar 1) [(2, sp_Map_all_rows)] (cNil))) (gN 3) (sDrop (cMeth (cVar 2) [(2, sp_Map_take)] (cCons (cVar 3) (cNil))))) (sRet (cVar 2)))
def sp_join : DSp := mkFn 2 4 t_join
def t_law_rows : DS := sSeq (sAsg (cLst (cNil)) (gN 2)) (sSeq (sFor (iRng1D (cCons (cVar 1) (cNil))) (gN 3) (sSeq (sAsg (cD (.int 0)) (gN 4)) (sSeq (sIf (cTst (cBin doGt (cB (bLenO [(2, sp_Map__d_len_d_)]) (cCons (cVar 0) (cNil))) (cD (.int 0)))) (sAsg (cB bInt (cCons (cBin doIx (cVar 0) (cBin doMod (cB bInt (cCons (cVar 3) (cNil))) (cB (bLenO [(2, sp_Map__d_len_d_)]) (cCons (cVar 0) (cNil))))) (cNil))) (gN 4)) (sNext)) (sSeq (sIf (cTst (cBin doLt (cVar 4) (cD (.int 0)))) (sAsg (cBin doSub (cBin doSub (cD (.int 0)) (cBin doMul (cD (.int 2)) (cVar 4))) (cD (.int 1))) (gN 4)) (sNext)) (sSeq (sIf (cOr (cTst (cBin doGe (cVar 3) (cB (bLenO [(2, sp_Map__d_len_d_)]) (cCons (cVar 0) (cNil))))) (cTst (cBin doLt (cVar 4) (cD (.int 1000000000))))) (sSeq (sAsg (cBin doMod (cB bInt (cCons (cBin doAdd (cBin doAdd (cBin doMul (cBin doAdd (cBin doAdd (cVar 4) (cBin doMul (cD (.int 137)) (cVar 3))) (cD (.int 5))) (cD (.int 48271))) (cBin doMul (cBin doMul (cVar 3) (cVar 3)) (cD (.int 69621)))) (cD (.int 3))) (cNil))) (cD (.int 2147483647))) (gN 4)) (sAsg (cBin doMod (cB bInt (cCons (cBin doAdd (cBin doMul (cBin doAdd (cBin doAdd (cVar 4) (cBin doMul (cD (.int 19)) (cVar 3))) (cD (.int 1))) (cD (.int 3202034522624059733))) (cD (.int 7))) (cNil))) (cD (.int 18446744073709551557))) (gN 4))) (sNext)) (sDrop (cM "list" mAppend (cVar 2) (cCons (cVar 4) (cNil))))))))) (sRet (cVar 2)))
def sp_law_rows : DSp := mkFn 2 5 t_law_rows
def t_law_notice : DS := sSeq (sAsg (cBin doAdd (cD (.int 1)) (cBin doMod (cB bInt (cCons (cVar 0) (cNil))) (cD (.int 3)))) (gN 3)) (sSeq (sAsg (cBin doAdd (cD (.int 11)) (cBin doMod (cB bInt (cCons (cBin doDiv (cVar 0) (cD (.int 3))) (cNil))) (cD (.int 2)))) (gN 4)) (sSeq (sAsg (cTup (cCons (cBin doMod (cB bInt (cCons (cVar 2) (cNil))) (cD (.int 3))) (cCons (cD (.int 0)) (cCons (cBin doMod (cVar 1) (cD (.int 2))) (cNil))))) (gN 5)) (sRet (cTup (cCons (cVar 3) (cCons (cVar 4) (cCons (cVar 1) (cCons (cBin doAdd (cD (.int 20)) (cBin doMod (cB bInt (cCons (cVar 2) (cNil))) (cD (.int 2)))) (cCons (cVar 5) (cCons (cBin doIx (cTup (cCons (cD (.int 0)) (cCons (cD (.int 5)) (cCons (cD (.int 9)) (cCons (cD (.int 1000000)) (cNil)))))) (cBin doMod (cB bInt (cCons (cVar 2) (cNil))) (cD (.int 4)))) (cNil)))))))))))
def sp_law_notice : DSp := mkFn 3 6 t_law_notice
def t_law_row : DS := sSeq (sAsg (cCall sp_law_notice (cCons (cBin doMod (cB bInt (cCons (cVar 0) (cNil))) (cD (.int 6))) (cCons (cBin doMod (cB bInt (cCons (cBin doDiv (cVar 0) (cD (.int 6))) (cNil))) (cD (.int 4))) (cCons (cBin doMod (cB bInt (cCons (cBin doDiv (cVar 0) (cD (.int 24))) (cNil))) (cD (.int 8))) (cNil))))) (gN 1)) (sSeq (sIf (cTst (cBin doEq (cBin doMod (cB bInt (cCons (cBin doDiv (cVar 0) (cD (.int 192))) (cNil))) (cD (.int 7))) (cD (.int 0)))) (sRet (cTup (cCons (cBin doIx (cVar 1) (cD (.int 0))) (cCons (cBin doIx (cVar 1) (cD (.int 1))) (cCons (cBin doIx (cVar 1) (cD (.int 2))) (cCons (cD .non) (cNil))))))) (sNext)) (sRet (cTup (cCons (cBin doIx (cVar 1) (cD (.int 0))) (cCons (cBin doIx (cVar 1) (cD (.int 1))) (cCons (cBin doIx (cVar 1) (cD (.int 2))) (cCons (cVar 1) (cNil))))))))
def sp_law_row : DSp := mkFn 1 2 t_law_row
def t_law_state : DS := sSeq (sAsg (cBin doSub (cD (.int 0)) (cD (.int 1))) (gN 2)) (sSeq (sFor (iSeq (cVar 0)) (gN 3) (sIf (cAnd (cTst (cBin doEq (cSl (cVar 3) cNoPart (cPart (cD (.int 2)))) (cVar 1))) (cTst (cBin doGt (cBin doIx (cVar 3) (cD (.int 2))) (cVar 2)))) (sAsg (cBin doIx (cVar 3) (cD (.int 2))) (gN 2)) (sNext))) (sSeq (sIf (cTst (cBin doLt (cVar 2) (cD (.int 0)))) (sRet (cD .non)) (sNext)) (sSeq (sAsg (cLc (iSeq (cVar 0)) (gN 3) (cAnd (cTst (cBin doEq (cSl (cVar 3) cNoPart (cPart (cD (.int 2)))) (cVar 1))) (cTst (cBin doEq (cBin doIx (cVar 3) (cD (.int 2))) (cVar 2)))) (cBin doIx (cVar 3) (cD (.int 3))) [3]) (gN 4)) (sSeq (sFor (iSeq (cVar 4)) (gN 5) (sIf (cOr (cTst (cBin doIs (cVar 5) (cD .non))) (cTst (cBin doNe (cVar 5) (cBin doIx (cVar 4) (cD (.int 0)))))) (sRet (cTup (cCons (cBin doIx (cVar 1) (cD (.int 0))) (cCons (cBin doIx (cVar 1) (cD (.int 1))) (cCons (cVar 2) (cCons (cD .non) (cNil))))))) (sNext))) (sRet (cTup (cCons (cBin doIx (cVar 1) (cD (.int 0))) (cCons (cBin doIx (cVar 1) (cD (.int 1))) (cCons (cVar 2) (cCons (cBin doIx (cVar 4) (cD (.int 0))) (cNil)))))))))))
def sp_law_state : DSp := mkFn 2 6 t_law_state
def t_law_all : DS := sSeq (sAsg (cLst (cNil)) (gN 1)) (sSeq (sFor (iSeq (cTup (cCons (cD (.int 1)) (cCons (cD (.int 2)) (cCons (cD (.int 3)) (cNil)))))) (gN 2) (sFor (iSeq (cTup (cCons (cD (.int 11)) (cCons (cD (.int 12)) (cNil))))) (gN 3) (sSeq (sAsg (cCall sp_law_state (cCons (cVar 0) (cCons (cTup (cCons (cVar 2) (cCons (cVar 3) (cNil)))) (cNil)))) (gN 4)) (sIf (cTst (cBin doIsNot (cVar 4) (cD .non))) (sDrop (cM "list" mAppend (cVar 1) (cCons (cVar 4) (cNil)))) (sNext))))) (sRet (cVar 1)))
def sp_law_all : DSp := mkFn 1 5 t_law_all
def t_law_told : DS := sSeq (sAsg (cCall sp_law_all (cCons (cVar 1) (cNil))) (gN 2)) (sSeq (sIf (cOr (cTst (cBin doNe (cMeth (cVar 0) [(2, sp_Map_all_rows)] (cNil)) (cVar 2))) (cTst (cBin doNe (cB (bLenO [(2, sp_Map__d_len_d_)]) (cCons (cVar 0) (cNil))) (cB (bLenO [(2, sp_Map__d_len_d_)]) (cCons (cVar 2) (cNil)))))) (sRet (cD (.bl false))) (sNext)) (sSeq (sFor (iSeq (cTup (cCons (cD (.int 1)) (cCons (cD (.int 2)) (cCons (cD (.int 3)) (cCons (cD (.int 4)) (cNil))))))) (gN 3) (sIf (cTst (cBin doNe (cMeth (cVar 0) [(2, sp_Map_row)] (cCons (cVar 3) (cCons (cD (.int 11)) (cNil)))) (cCall sp_law_state (cCons (cVar 1) (cCons (cTup (cCons (cVar 3) (cCons (cD (.int 11)) (cNil)))) (cNil)))))) (sRet (cD (.bl false))) (sNext))) (sSeq (sAsg (cLc (iSeq (cVar 2)) (gN 5) (cTst (cBin doIsNot (cBin doIx (cVar 5) (cD (.int 3))) (cD .non))) (cBin doIx (cVar 5) (cD (.int 3))) [5]) (gN 4)) (sSeq (sIf (cOr (cTst (cBin doNe (cMeth (cVar 0) [(2, sp_Map_notices)] (cNil)) (cVar 4))) (cTst (cBin doNe (cMeth (cVar 0) [(2, sp_Map_doubts)] (cNil)) (cLc (iSeq (cVar 2)) (gN 5) (cTst (cBin doIs (cBin doIx (cVar 5) (cD (.int 3))) (cD .non))) (cSl (cVar 5) cNoPart (cPart (cD (.int 3)))) [5])))) (sRet (cD (.bl false))) (sNext)) (sRet (cBin doEq (cMeth (cVar 0) [(2, sp_Map_ways)] (cNil)) (cLc (iSeq (cVar 4)) (gN 6) (cTst (cBin doGt (cBin doIx (cVar 6) (cD (.int 5))) (cD (.int 0)))) (cTup (cCons (cBin doIx (cVar 6) (cD (.int 0))) (cCons (cBin doIx (cVar 6) (cD (.int 1))) (cCons (cBin doIx (cVar 6) (cD (.int 3))) (cCons (cBin doIx (cVar 6) (cD (.int 4))) (cCons (cBin doIx (cVar 6) (cD (.int 5))) (cNil))))))) [6])))))))
def sp_law_told : DSp := mkFn 2 7 t_law_told
def t_law_simple : DS := sSeq (sIf (cOr (cTst (cBin doNe (cCall sp_place_of (cCons (cVar 0) (cNil))) (cSl (cVar 0) cNoPart (cPart (cD (.int 2)))))) (cTst (cBin doNe (cCall sp_row_of (cCons (cVar 0) (cNil))) (cTup (cCons (cBin doIx (cVar 0) (cD (.int 0))) (cCons (cBin doIx (cVar 0) (cD (.int 1))) (cCons (cBin doIx (cVar 0) (cD (.int 2))) (cCons (cVar 0) (cNil))))))))) (sRet (cD (.bl false))) (sNext)) (sSeq (sIf (cTst (cBin doNe (cCall sp_is_closed (cCons (cVar 0) (cNil))) (cBin doEq (cBin doIx (cVar 0) (cD (.int 5))) (cD (.int 0))))) (sRet (cD (.bl false))) (sNext)) (sRet (cBin doEq (cCall sp_way_of (cCons (cVar 0) (cNil))) (cTup (cCons (cBin doIx (cVar 0) (cD (.int 0))) (cCons (cBin doIx (cVar 0) (cD (.int 1))) (cCons (cBin doIx (cVar 0) (cD (.int 3))) (cCons (cBin doIx (cVar 0) (cD (.int 4))) (cCons (cBin doIx (cVar 0) (cD (.int 5))) (cNil))))))))))
def sp_law_simple : DSp := mkFn 1 1 t_law_simple
def t_law_refused : DS := sSeq (sAsg (cB bList1 (cCons (cVar 1) (cNil))) (gN 3)) (sSeq (sSub (cVar 3) (cD (.int 2)) (cBin doIx (cTup (cCons (cD (.int 4294967296)) (cCons (cBin doSub (cD (.int 0)) (cD (.int 1))) (cCons (cD (.int 3)) (cCons (cD (.int 3)) (cCons (cD (.int 3)) (cCons (cD (.int 3)) (cNil)))))))) (cVar 2))) (sSeq (sSub (cVar 3) (cD (.int 4)) (cBin doIx (cTup (cCons (cTup (cCons (cD (.int 0)) (cCons (cD (.int 0)) (cCons (cD (.int 0)) (cNil))))) (cCons (cTup (cCons (cD (.int 0)) (cCons (cD (.int 0)) (cCons (cD (.int 0)) (cNil))))) (cCons (cTup (cCons (cBin doSub (cD (.int 0)) (cD (.int 1))) (cCons (cD (.int 0)) (cCons (cD (.int 0)) (cNil))))) (cCons (cTup (cCons (cD (.int 0)) (cCons (cD (.int 100001)) (cCons (cD (.int 0)) (cNil))))) (cCons (cTup (cCons (cD (.int 0)) (cCons (cD (.int 0)) (cCons (cD (.int 1000000000001)) (cNil))))) (cCons (cTup (cCons (cD (.int 0)) (cCons (cD (.int 0)) (cCons (cD (.int 0)) (cNil))))) (cNil)))))))) (cVar 2))) (sSeq (sSub (cVar 3) (cD (.int 5)) (cBin doIx (cTup (cCons (cD (.int 1)) (cCons (cD (.int 1)) (cCons (cD (.int 1)) (cCons (cD (.int 1)) (cCons (cD (.int 1)) (cCons (cD (.int 1000000000000001)) (cNil)))))))) (cVar 2))) (sSeq (sAsg (cMeth (cVar 0) [(2, sp_Map_all_rows)] (cNil)) (gN 4)) (sSeq (sTry (sDrop (cMeth (cVar 0) [(2, sp_Map_hear)] (cCons (cB bTuple (cCons (cVar 3) (cNil))) (cNil)))) [(tabX xt_OutOfBounds, some 5, fun a x => sRet (cAndV (cIsiX (cVar 5) a (exO (tabX xt_DrovewayError) x)) (cBin doEq (cMeth (cVar 0) [(2, sph_Map_all_rows)] (cNil)) (cVar 4))))]) (sRet (cD (.bl false))))))))
def sp_law_refused : DSp := mkFn 3 6 t_law_refused
def t_law : DS := sSeq (sAsg (cCall sp_law_rows (cCons (cVar 0) (cCons (cD (.int 24)) (cNil)))) (gN 1)) (sSeq (sAsg (cLc (iSeq (cSl (cVar 1) cNoPart (cPart (cBin doMod (cB bInt (cCons (cBin doIx (cVar 1) (cD (.int 22))) (cNil))) (cD (.int 23)))))) (gN 16) tYesD (cCall sp_law_row (cCons (cB bInt (cCons (cVar 16) (cNil))) (cNil))) [16]) (gN 2)) (sSeq (sAsg (cCall sp_Map (cNil)) (gN 3)) (sSeq (sFor (iRng1D (cCons (cB (bLenO [(2, sp_Map__d_len_d_)]) (cCons (cVar 2) (cNil))) (cNil))) (gN 4) (sSeq (sAsg (cCall sp_law_all (cCons (cSl (cVar 2) cNoPart (cPart (cVar 4))) (cNil))) (gN 5)) (sSeq (sAsg (cMeth (cVar 3) [(2, sp_Map_take)] (cCons (cBin doIx (cVar 2) (cVar 4)) (cNil))) (gN 6)) (sSeq (sIf (cOr (cNot (cTru (cIsi (cVar 6) (tabK kt_bool)))) (cTst (cBin doNe (cVar 6) (cBin doNe (cCall sp_law_all (cCons (cSl (cVar 2) cNoPart (cPart (cBin doAdd (cVar 4) (cD (.int 1))))) (cNil))) (cVar 5))))) (sRet (cD (.bl false))) (sNext)) (sIf (cNot (cTru (cCall sp_law_told (cCons (cVar 3) (cCons (cSl (cVar 2) cNoPart (cPart (cBin doAdd (cVar 4) (cD (.int 1))))) (cNil)))))) (sRet (cD (.bl false))) (sNext)))))) (sSeq (sAsg (cCall sp_Map (cNil)) (gN 7)) (sSeq (sFor (iSeq (cBin doAdd (cRev (cVar 2)) (cVar 2))) (gN 8) (sDrop (cMeth (cVar 7) [(2, sp_Map_take)] (cCons (cVar 8) (cNil))))) (sSeq (sAsg (cCall sp_Map (cNil)) (gN 9)) (sSeq (sAsg (cCall sp_Map (cNil)) (gN 10)) (sSeq (sAsg (cBin doMod (cB bInt (cCons (cBin doIx (cVar 1) (cD (.int 23))) (cNil))) (cBin doAdd (cB (bLenO [(2, sp_Map__d_len_d_)]) (cCons (cVar 2) (cNil))) (cD (.int 1)))) (gN 11)) (sSeq (sFor (iSeq (cSl (cVar 2) cNoPart (cPart (cVar 11)))) (gN 8) (sDrop (cMeth (cVar 9) [(2, sp_Map_take)] (cCons (cVar 8) (cNil))))) (sSeq (sFor (iSeq (cSl (cVar 2) (cPart (cVar 11)) cNoPart)) (gN 8) (sDrop (cMeth (cVar 10) [(2, sp_Map_take)] (cCons (cVar 8) (cNil))))) (sSeq (sAsg (cCall sp_join (cCons (cVar 9) (cCons (cVar 10) (cNil)))) (gN 12)) (sSeq (sIf (cOr (cNot (cTru (cCall sp_law_told (cCons (cVar 9) (cCons (cSl (cVar 2) cNoPart (cPart (cVar 11))) (cNil)))))) (cNot (cTru (cCall sp_law_told (cCons (cVar 10) (cCons (cSl (cVar 2) (cPart (cVar 11)) cNoPart) (cNil))))))) (sRet (cD (.bl false))) (sNext)) (sSeq (sIf (cOr (cNot (cTru (cCall sp_law_told (cCons (cVar 7) (cCons (cVar 2) (cNil)))))) (cOr (cNot (cTru (cCall sp_law_told (cCons (cVar 12) (cCons (cVar 2) (cNil)))))) (cNot (cTru (cCall sp_same_maps (cCons (cVar 12) (cCons (cVar 3) (cNil)))))))) (sRet (cD (.bl false))) (sNext)) (sSeq (sAsg (cCall sp_copy_map (cCons (cVar 3) (cNil))) (gN 13)) (sSeq (sAsg (cCall sp_law_notice (cCons (cBin doMod (cB bInt (cCons (cBin doIx (cVar 1) (cD (.int 23))) (cNil))) (cD (.int 6))) (cCons (cBin doAdd (cD (.int 4)) (cBin doMod (cB bInt (cCons (cBin doIx (cVar 1) (cD (.int 22))) (cNil))) (cD (.int 2)))) (cCons (cD (.int 1)) (cNil))))) (gN 14)) (sSeq (sDrop (cCall sp_check_notice (cCons (cVar 14) (cNil)))) (sSeq (sIf (cOr (cTst (cBin doIsNot (cMeth (cVar 13) [(2, sp_Map_hear)] (cCons (cVar 14) (cNil))) (cD (.bl true)))) (cOr (cTst (cBin doIsNot (cMeth (cVar 13) [(2, sp_Map_hear)] (cCons (cVar 14) (cNil))) (cD (.bl false)))) (cTru (cCall sp_same_maps (cCons (cVar 13) (cCons (cVar 3) (cNil))))))) (sRet (cD (.bl false))) (sNext)) (sSeq (sIf (cOr (cNot (cTru (cCall sp_law_told (cCons (cVar 3) (cCons (cVar 2) (cNil)))))) (cOr (cNot (cTru (cCall sp_law_told (cCons (cVar 13) (cCons (cBin doAdd (cVar 2) (cLst (cCons (cCall sp_row_of (cCons (cVar 14) (cNil))) (cNil)))) (cNil)))))) (cNot (cTru (cCall sp_law_simple (cCons (cVar 14) (cNil))))))) (sRet (cD (.bl false))) (sNext)) (sSeq (sFor (iRng1D (cCons (cD (.int 6)) (cNil))) (gN 15) (sIf (cNot (cTru (cCall sp_law_refused (cCons (cVar 3) (cCons (cVar 14) (cCons (cVar 15) (cNil))))))) (sRet (cD (.bl false))) (sNext))) (sRet (cCall sp_law_told (cCons (cVar 3) (cCons (cVar 2) (cNil))))))))))))))))))))))))
def sp_law : DSp := mkFn 1 17 t_law
def gt0 : Gt := md.gt [("check_notice", 0, sp_check_notice), ("place_of", 0, sp_place_of), ("row_of", 0, sp_row_of), ("way_of", 0, sp_way_of), ("is_closed", 0, sp_is_closed), ("joined_row", 0, sp_joined_row), ("copy_map", 2, sp_copy_map), ("same_maps", 1, sp_same_maps), ("join", 3, sp_join), ("_law_rows", 2, sp_law_rows), ("_law_notice", 0, sp_law_notice), ("_law_row", 1, sp_law_row), ("_law_state", 0, sp_law_state), ("_law_all", 1, sp_law_all), ("_law_told", 3, sp_law_told), ("_law_simple", 1, sp_law_simple), ("_law_refused", 3, sp_law_refused), ("law", 4, sp_law), ("Map", 1, sp_Map)] [] [("__len__", [(2, 0, sp_Map__d_len_d_)]), ("row", [(2, 0, sp_Map_row)]), ("take", [(2, 1, sp_Map_take)]), ("hear", [(2, 2, sp_Map_hear)]), ("all_rows", [(2, 0, sp_Map_all_rows)]), ("doubts", [(2, 1, sp_Map_doubts)]), ("notices", [(2, 1, sp_Map_notices)]), ("ways", [(2, 2, sp_Map_ways)])] []
def gt : Gt := { gt0 with hot := [], hotm := [("all_rows", [(2, 0, sph_Map_all_rows)])] }
/-! ### the readings are those of the text -/
abbrev N_check_notice : List Str := ["notice", "edition", "toll", "most"]
abbrev st_check_notice : Stmt := top 8
theorem r_check_notice : rdSt 40 40 ⟨gt, 0, N_check_notice, defScope st_check_notice, none, none, false⟩ (defBody st_check_notice) = t_check_notice := by kernel_rfl
theorem sc_check_notice : FnScope N_check_notice ["notice"] (defScope st_check_notice) := ⟨rfl, rfl, rfl, by decide +kernel, rfl, by decide +kernel, by decide +kernel⟩
abbrev N_place_of : List Str := ["notice"]
abbrev st_place_of : Stmt := top 9
theorem r_place_of : rdSt 40 40 ⟨gt, 0, N_place_of, defScope st_place_of, none, none, false⟩ (defBody st_place_of) = t_place_of := by kernel_rfl
theorem sc_place_of : FnScope N_place_of ["notice"] (defScope st_place_of) := ⟨rfl, rfl, rfl, by decide +kernel, rfl, by decide +kernel, by decide +kernel⟩
abbrev N_row_of : List Str := ["notice"]
abbrev st_row_of : Stmt := top 10
theorem r_row_of : rdSt 40 40 ⟨gt, 0, N_row_of, defScope st_row_of, none, none, false⟩ (defBody st_row_of) = t_row_of := by kernel_rfl
theorem sc_row_of : FnScope N_row_of ["notice"] (defScope st_row_of) := ⟨rfl, rfl, rfl, by decide +kernel, rfl, by decide +kernel, by decide +kernel⟩
abbrev N_way_of : List Str := ["notice"]
abbrev st_way_of : Stmt := top 11
theorem r_way_of : rdSt 40 40 ⟨gt, 0, N_way_of, defScope st_way_of, none, none, false⟩ (defBody st_way_of) = t_way_of := by kernel_rfl
theorem sc_way_of : FnScope N_way_of ["notice"] (defScope st_way_of) := ⟨rfl, rfl, rfl, by decide +kernel, rfl, by decide +kernel, by decide +kernel⟩
abbrev N_is_closed : List Str := ["notice"]
abbrev st_is_closed : Stmt := top 12
theorem r_is_closed : rdSt 40 40 ⟨gt, 0, N_is_closed, defScope st_is_closed, none, none, false⟩ (defBody st_is_closed) = t_is_closed := by kernel_rfl
theorem sc_is_closed : FnScope N_is_closed ["notice"] (defScope st_is_closed) := ⟨rfl, rfl, rfl, by decide +kernel, rfl, by decide +kernel, by decide +kernel⟩
abbrev N_joined_row : List Str := ["old", "new"]
abbrev st_joined_row : Stmt := top 14
theorem r_joined_row : rdSt 40 40 ⟨gt, 0, N_joined_row, defScope st_joined_row, none, none, false⟩ (defBody st_joined_row) = t_joined_row := by kernel_rfl
theorem sc_joined_row : FnScope N_joined_row ["old", "new"] (defScope st_joined_row) := ⟨rfl, rfl, rfl, by decide +kernel, rfl, by decide +kernel, by decide +kernel⟩
abbrev N_Map__d_init_d_ : List Str := ["self"]
abbrev st_Map__d_init_d_ : Stmt := inClass (top 15) 0
theorem r_Map__d_init_d_ : rdSt 40 40 ⟨gt, 0, N_Map__d_init_d_, defScope st_Map__d_init_d_, none, none, false⟩ (defBody st_Map__d_init_d_) = t_Map__d_init_d_ := by kernel_rfl
theorem sc_Map__d_init_d_ : FnScope N_Map__d_init_d_ ["self"] (defScope st_Map__d_init_d_) := ⟨rfl, rfl, rfl, by decide +kernel, rfl, by decide +kernel, by decide +kernel⟩
abbrev N_Map__d_len_d_ : List Str := ["self"]
abbrev st_Map__d_len_d_ : Stmt := inClass (top 15) 1
theorem r_Map__d_len_d_ : rdSt 40 40 ⟨gt, 0, N_Map__d_len_d_, defScope st_Map__d_len_d_, none, none, false⟩ (defBody st_Map__d_len_d_) = t_Map__d_len_d_ := by kernel_rfl
theorem sc_Map__d_len_d_ : FnScope N_Map__d_len_d_ ["self"] (defScope st_Map__d_len_d_) := ⟨rfl, rfl, rfl, by decide +kernel, rfl, by decide +kernel, by decide +kernel⟩
abbrev N_Map_row : List Str := ["self", "channel", "giver"]
abbrev st_Map_row : Stmt := inClass (top 15) 2
theorem r_Map_row : rdSt 40 40 ⟨gt, 0, N_Map_row, defScope st_Map_row, none, none, false⟩ (defBody st_Map_row) = t_Map_row := by kernel_rfl
theorem sc_Map_row : FnScope N_Map_row ["self", "channel", "giver"] (defScope st_Map_row) := ⟨rfl, rfl, rfl, by decide +kernel, rfl, by decide +kernel, by decide +kernel⟩
abbrev N_Map_take : List Str := ["self", "row", "place", "old", "new"]
abbrev st_Map_take : Stmt := inClass (top 15) 3
theorem r_Map_take : rdSt 40 40 ⟨gt, 1, N_Map_take, defScope st_Map_take, none, none, false⟩ (defBody st_Map_take) = t_Map_take := by kernel_rfl
theorem sc_Map_take : FnScope N_Map_take ["self", "row"] (defScope st_Map_take) := ⟨rfl, rfl, rfl, by decide +kernel, rfl, by decide +kernel, by decide +kernel⟩
abbrev N_Map_hear : List Str := ["self", "notice"]
abbrev st_Map_hear : Stmt := inClass (top 15) 4
theorem r_Map_hear : rdSt 40 40 ⟨gt, 2, N_Map_hear, defScope st_Map_hear, none, none, false⟩ (defBody st_Map_hear) = t_Map_hear := by kernel_rfl
theorem sc_Map_hear : FnScope N_Map_hear ["self", "notice"] (defScope st_Map_hear) := ⟨rfl, rfl, rfl, by decide +kernel, rfl, by decide +kernel, by decide +kernel⟩
abbrev N_Map_all_rows : List Str := ["self", "place"]
abbrev st_Map_all_rows : Stmt := inClass (top 15) 5
theorem r_Map_all_rows : rdSt 40 40 ⟨gt, 0, N_Map_all_rows, defScope st_Map_all_rows, none, none, false⟩ (defBody st_Map_all_rows) = t_Map_all_rows := by kernel_rfl
theorem rh_Map_all_rows : rdSt 40 40 ⟨gt, 0, N_Map_all_rows, defScope st_Map_all_rows, some (0, ⟨0, some []⟩), none, false⟩ (defBody st_Map_all_rows) = th_Map_all_rows := by kernel_rfl
theorem sc_Map_all_rows : FnScope N_Map_all_rows ["self"] (defScope st_Map_all_rows) := ⟨rfl, rfl, rfl, by decide +kernel, rfl, by decide +kernel, by decide +kernel⟩
abbrev N_Map_doubts : List Str := ["self", "row"]
abbrev st_Map_doubts : Stmt := inClass (top 15) 6
theorem r_Map_doubts : rdSt 40 40 ⟨gt, 1, N_Map_doubts, defScope st_Map_doubts, none, none, false⟩ (defBody st_Map_doubts) = t_Map_doubts := by kernel_rfl
theorem sc_Map_doubts : FnScope N_Map_doubts ["self"] (defScope st_Map_doubts) := ⟨rfl, rfl, rfl, by decide +kernel, rfl, by decide +kernel, by decide +kernel⟩
abbrev N_Map_notices : List Str := ["self", "row"]
abbrev st_Map_notices : Stmt := inClass (top 15) 7
theorem r_Map_notices : rdSt 40 40 ⟨gt, 1, N_Map_notices, defScope st_Map_notices, none, none, false⟩ (defBody st_Map_notices) = t_Map_notices := by kernel_rfl
theorem sc_Map_notices : FnScope N_Map_notices ["self"] (defScope st_Map_notices) := ⟨rfl, rfl, rfl, by decide +kernel, rfl, by decide +kernel, by decide +kernel⟩
abbrev N_Map_ways : List Str := ["self", "notice"]
abbrev st_Map_ways : Stmt := inClass (top 15) 8
theorem r_Map_ways : rdSt 40 40 ⟨gt, 2, N_Map_ways, defScope st_Map_ways, none, none, false⟩ (defBody st_Map_ways) = t_Map_ways := by kernel_rfl
theorem sc_Map_ways : FnScope N_Map_ways ["self"] (defScope st_Map_ways) := ⟨rfl, rfl, rfl, by decide +kernel, rfl, by decide +kernel, by decide +kernel⟩
abbrev N_copy_map : List Str := ["known", "copied"]
abbrev st_copy_map : Stmt := top 16
theorem r_copy_map : rdSt 40 40 ⟨gt, 2, N_copy_map, defScope st_copy_map, none, none, false⟩ (defBody st_copy_map) = t_copy_map := by kernel_rfl
theorem sc_copy_map : FnScope N_copy_map ["known"] (defScope st_copy_map) := ⟨rfl, rfl, rfl, by decide +kernel, rfl, by decide +kernel, by decide +kernel⟩
abbrev N_same_maps : List Str := ["one", "other"]
abbrev st_same_maps : Stmt := top 17
theorem r_same_maps : rdSt 40 40 ⟨gt, 1, N_same_maps, defScope st_same_maps, none, none, false⟩ (defBody st_same_maps) = t_same_maps := by kernel_rfl
theorem sc_same_maps : FnScope N_same_maps ["one", "other"] (defScope st_same_maps) := ⟨rfl, rfl, rfl, by decide +kernel, rfl, by decide +kernel, by decide +kernel⟩
abbrev N_join : List Str := ["one", "other", "joined", "row"]
abbrev st_join : Stmt := top 18
theorem r_join : rdSt 40 40 ⟨gt, 3, N_join, defScope st_join, none, none, false⟩ (defBody st_join) = t_join := by kernel_rfl
theorem sc_join : FnScope N_join ["one", "other"] (defScope st_join) := ⟨rfl, rfl, rfl, by decide +kernel, rfl, by decide +kernel, by decide +kernel⟩
abbrev N_law_rows : List Str := ["script", "count", "rows", "k", "cell"]
abbrev st_law_rows : Stmt := top 20
theorem r_law_rows : rdSt 40 40 ⟨gt, 2, N_law_rows, defScope st_law_rows, none, none, false⟩ (defBody st_law_rows) = t_law_rows := by kernel_rfl
theorem sc_law_rows : FnScope N_law_rows ["script", "count"] (defScope st_law_rows) := ⟨rfl, rfl, rfl, by decide +kernel, rfl, by decide +kernel, by decide +kernel⟩
abbrev N_law_notice : List Str := ["place", "edition", "kind", "channel", "giver", "toll"]
abbrev st_law_notice : Stmt := top 21
theorem r_law_notice : rdSt 40 40 ⟨gt, 0, N_law_notice, defScope st_law_notice, none, none, false⟩ (defBody st_law_notice) = t_law_notice := by kernel_rfl
theorem sc_law_notice : FnScope N_law_notice ["place", "edition", "kind"] (defScope st_law_notice) := ⟨rfl, rfl, rfl, by decide +kernel, rfl, by decide +kernel, by decide +kernel⟩
abbrev N_law_row : List Str := ["row", "notice"]
abbrev st_law_row : Stmt := top 22
theorem r_law_row : rdSt 40 40 ⟨gt, 1, N_law_row, defScope st_law_row, none, none, false⟩ (defBody st_law_row) = t_law_row := by kernel_rfl
theorem sc_law_row : FnScope N_law_row ["row"] (defScope st_law_row) := ⟨rfl, rfl, rfl, by decide +kernel, rfl, by decide +kernel, by decide +kernel⟩
abbrev N_law_state : List Str := ["rows", "place", "latest", "row", "heard", "one"]
abbrev st_law_state : Stmt := top 23
theorem r_law_state : rdSt 40 40 ⟨gt, 0, N_law_state, defScope st_law_state, none, none, false⟩ (defBody st_law_state) = t_law_state := by kernel_rfl
theorem sc_law_state : FnScope N_law_state ["rows", "place"] (defScope st_law_state) := ⟨rfl, rfl, rfl, by decide +kernel, rfl, by decide +kernel, by decide +kernel⟩
abbrev N_law_all : List Str := ["rows", "states", "channel", "giver", "state"]
abbrev st_law_all : Stmt := top 24
theorem r_law_all : rdSt 40 40 ⟨gt, 1, N_law_all, defScope st_law_all, none, none, false⟩ (defBody st_law_all) = t_law_all := by kernel_rfl
theorem sc_law_all : FnScope N_law_all ["rows"] (defScope st_law_all) := ⟨rfl, rfl, rfl, by decide +kernel, rfl, by decide +kernel, by decide +kernel⟩
abbrev N_law_told : List Str := ["known", "rows", "states", "channel", "notices", "state", "one"]
abbrev st_law_told : Stmt := top 25
theorem r_law_told : rdSt 40 40 ⟨gt, 3, N_law_told, defScope st_law_told, none, none, false⟩ (defBody st_law_told) = t_law_told := by kernel_rfl
theorem sc_law_told : FnScope N_law_told ["known", "rows"] (defScope st_law_told) := ⟨rfl, rfl, rfl, by decide +kernel, rfl, by decide +kernel, by decide +kernel⟩
abbrev N_law_simple : List Str := ["notice"]
abbrev st_law_simple : Stmt := top 26
theorem r_law_simple : rdSt 40 40 ⟨gt, 1, N_law_simple, defScope st_law_simple, none, none, false⟩ (defBody st_law_simple) = t_law_simple := by kernel_rfl
theorem sc_law_simple : FnScope N_law_simple ["notice"] (defScope st_law_simple) := ⟨rfl, rfl, rfl, by decide +kernel, rfl, by decide +kernel, by decide +kernel⟩
abbrev N_law_refused : List Str := ["known", "notice", "at", "wrong", "before", "e"]
abbrev st_law_refused : Stmt := top 27
theorem r_law_refused : rdSt 40 40 ⟨gt, 3, N_law_refused, defScope st_law_refused, none, none, false⟩ (defBody st_law_refused) = t_law_refused := by kernel_rfl
theorem sc_law_refused : FnScope N_law_refused ["known", "notice", "at"] (defScope st_law_refused) := ⟨rfl, rfl, rfl, by decide +kernel, rfl, by decide +kernel, by decide +kernel⟩
abbrev N_law : List Str := ["script", "cells", "rows", "known", "k", "before", "changed", "back", "row", "first", "second", "half", "both", "copied", "notice", "at", "cell"]
abbrev st_law : Stmt := top 28
theorem r_law : rdSt 40 40 ⟨gt, 4, N_law, defScope st_law, none, none, false⟩ (defBody st_law) = t_law := by kernel_rfl
theorem sc_law : FnScope N_law ["script"] (defScope st_law) := ⟨rfl, rfl, rfl, by decide +kernel, rfl, by decide +kernel, by decide +kernel⟩
/-! ### the chain -/
def d_check_notice : He.DefD := ⟨("check_notice", none), "check_notice", "check_notice", defArgs st_check_notice, defBody st_check_notice, defScope st_check_notice, [], []⟩
def d_place_of : He.DefD := ⟨("place_of", none), "place_of", "place_of", defArgs st_place_of, defBody st_place_of, defScope st_place_of, [], []⟩
def d_row_of : He.DefD := ⟨("row_of", none), "row_of", "row_of", defArgs st_row_of, defBody st_row_of, defScope st_row_of, [], []⟩
def d_way_of : He.DefD := ⟨("way_of", none), "way_of", "way_of", defArgs st_way_of, defBody st_way_of, defScope st_way_of, [], []⟩
def d_is_closed : He.DefD := ⟨("is_closed", none), "is_closed", "is_closed", defArgs st_is_closed, defBody st_is_closed, defScope st_is_closed, [], []⟩
def d_joined_row : He.DefD := ⟨("joined_row", none), "joined_row", "joined_row", defArgs st_joined_row, defBody st_joined_row, defScope st_joined_row, [], []⟩
def d_Map__d_init_d_ : He.DefD := ⟨("Map", some "__init__"), "__init__", "Map.__init__", defArgs st_Map__d_init_d_, defBody st_Map__d_init_d_, defScope st_Map__d_init_d_, [], []⟩
def d_Map__d_len_d_ : He.DefD := ⟨("Map", some "__len__"), "__len__", "Map.__len__", defArgs st_Map__d_len_d_, defBody st_Map__d_len_d_, defScope st_Map__d_len_d_, [], []⟩
def d_Map_row : He.DefD := ⟨("Map", some "row"), "row", "Map.row", defArgs st_Map_row, defBody st_Map_row, defScope st_Map_row, [], []⟩
def d_Map_take : He.DefD := ⟨("Map", some "take"), "take", "Map.take", defArgs st_Map_take, defBody st_Map_take, defScope st_Map_take, [], []⟩
def d_Map_hear : He.DefD := ⟨("Map", some "hear"), "hear", "Map.hear", defArgs st_Map_hear, defBody st_Map_hear, defScope st_Map_hear, [], []⟩
def d_Map_all_rows : He.DefD := ⟨("Map", some "all_rows"), "all_rows", "Map.all_rows", defArgs st_Map_all_rows, defBody st_Map_all_rows, defScope st_Map_all_rows, [], []⟩
def d_Map_doubts : He.DefD := ⟨("Map", some "doubts"), "doubts", "Map.doubts", defArgs st_Map_doubts, defBody st_Map_doubts, defScope st_Map_doubts, [], []⟩
def d_Map_notices : He.DefD := ⟨("Map", some "notices"), "notices", "Map.notices", defArgs st_Map_notices, defBody st_Map_notices, defScope st_Map_notices, [], []⟩
def d_Map_ways : He.DefD := ⟨("Map", some "ways"), "ways", "Map.ways", defArgs st_Map_ways, defBody st_Map_ways, defScope st_Map_ways, [], []⟩
def d_copy_map : He.DefD := ⟨("copy_map", none), "copy_map", "copy_map", defArgs st_copy_map, defBody st_copy_map, defScope st_copy_map, [], []⟩
def d_same_maps : He.DefD := ⟨("same_maps", none), "same_maps", "same_maps", defArgs st_same_maps, defBody st_same_maps, defScope st_same_maps, [], []⟩
def d_join : He.DefD := ⟨("join", none), "join", "join", defArgs st_join, defBody st_join, defScope st_join, [], []⟩
def d_law_rows : He.DefD := ⟨("_law_rows", none), "_law_rows", "_law_rows", defArgs st_law_rows, defBody st_law_rows, defScope st_law_rows, [], []⟩
def d_law_notice : He.DefD := ⟨("_law_notice", none), "_law_notice", "_law_notice", defArgs st_law_notice, defBody st_law_notice, defScope st_law_notice, [], []⟩
def d_law_row : He.DefD := ⟨("_law_row", none), "_law_row", "_law_row", defArgs st_law_row, defBody st_law_row, defScope st_law_row, [], []⟩
def d_law_state : He.DefD := ⟨("_law_state", none), "_law_state", "_law_state", defArgs st_law_state, defBody st_law_state, defScope st_law_state, [], []⟩
def d_law_all : He.DefD := ⟨("_law_all", none), "_law_all", "_law_all", defArgs st_law_all, defBody st_law_all, defScope st_law_all, [], []⟩
def d_law_told : He.DefD := ⟨("_law_told", none), "_law_told", "_law_told", defArgs st_law_told, defBody st_law_told, defScope st_law_told, [], []⟩
def d_law_simple : He.DefD := ⟨("_law_simple", none), "_law_simple", "_law_simple", defArgs st_law_simple, defBody st_law_simple, defScope st_law_simple, [], []⟩
def d_law_refused : He.DefD := ⟨("_law_refused", none), "_law_refused", "_law_refused", defArgs st_law_refused, defBody st_law_refused, defScope st_law_refused, [], []⟩
def d_law : He.DefD := ⟨("law", none), "law", "law", defArgs st_law, defBody st_law, defScope st_law, [], []⟩
def fn : List He.DefD := (d_check_notice :: d_place_of :: d_row_of :: d_way_of :: d_is_closed :: d_joined_row :: d_Map__d_init_d_ :: d_Map__d_len_d_ :: d_Map_row :: d_Map_take :: d_Map_hear :: d_Map_all_rows :: d_Map_doubts :: d_Map_notices :: d_Map_ways :: d_copy_map :: d_same_maps :: d_join :: d_law_rows :: d_law_notice :: d_law_row :: d_law_state :: d_law_all :: d_law_told :: d_law_simple :: d_law_refused :: d_law :: [])
def pr : List He.DefD := []
def tf : List He.Defn := []
def fns : List Str := ["check_notice", "place_of", "row_of", "way_of", "is_closed", "joined_row", "copy_map", "same_maps", "join", "_law_rows", "_law_notice", "_law_row", "_law_state", "_law_all", "_law_told", "_law_simple", "_law_refused", "law"]
def mks : List Str := ["Map"]
def mts : List (Str × Str) := [("Map", "__len__"), ("Map", "row"), ("Map", "take"), ("Map", "hear"), ("Map", "all_rows"), ("Map", "doubts"), ("Map", "notices"), ("Map", "ways")]
def ex (K : PySem.W.Frag) : Bool := md.ok K && ((fns.all fun x => nameB K x none) && ((mks.all fun x => mkB K x) && ((mts.all fun p => methB K p.1 p.2) && pr.all fun d => propB K d.at_.1 (d.at_.2.getD "") && prOk K d)))
section
variable {P : Program} {w : World} {K : PySem.W.Frag} {mg : Str → Option Value} {h : Heap}
theorem chain (X : K.In h) (Gn : h.Ns mainGlobals mg) (cc : SaysP fn pr tf ex w h K) : ∃ fd : FuncData, (∀ (s : Shared) (v : Value), BindsTo s fd ⟨[v], []⟩ [("script", v)]) ∧ ∀ base : Heap, FnOk P w K mg base (L2N.CX P w) 5 (He.ga K "law") fd ["script"] (LSp (md.pg P w K mg base) sp_law) := by
  have c := cc.x
  obtain ⟨c1, c2⟩ := He.ba c.more
  obtain ⟨c2, c3⟩ := He.ba c2
  obtain ⟨c3, c4⟩ := He.ba c3
  obtain ⟨c4, c5⟩ := He.ba c4
  have sd := c.t.d
  have gl : ∀ x, x ∈ fns → mg x = some (.ref (He.ga K x)) := fun x hx => PySem.W.mg_of X Gn (He.eqO_ok (List.all_eq_true.mp c2 x hx))
  obtain ⟨fd_check_notice, F_check_notice⟩ := sd.def_ 0 (d := d_check_notice) rfl
  have b_check_notice := FunD.bindsN (ps := ["notice"]) F_check_notice fun _ _ _ _ _ _ us hl => match us, hl with | [_], _ => rfl
  obtain ⟨fd_place_of, F_place_of⟩ := sd.def_ 1 (d := d_place_of) rfl
  have b_place_of := FunD.bindsN (ps := ["notice"]) F_place_of fun _ _ _ _ _ _ us hl => match us, hl with | [_], _ => rfl
  obtain ⟨fd_row_of, F_row_of⟩ := sd.def_ 2 (d := d_row_of) rfl
  have b_row_of := FunD.bindsN (ps := ["notice"]) F_row_of fun _ _ _ _ _ _ us hl => match us, hl with | [_], _ => rfl
  obtain ⟨fd_way_of, F_way_of⟩ := sd.def_ 3 (d := d_way_of) rfl
  have b_way_of := FunD.bindsN (ps := ["notice"]) F_way_of fun _ _ _ _ _ _ us hl => match us, hl with | [_], _ => rfl
  obtain ⟨fd_is_closed, F_is_closed⟩ := sd.def_ 4 (d := d_is_closed) rfl
  have b_is_closed := FunD.bindsN (ps := ["notice"]) F_is_closed fun _ _ _ _ _ _ us hl => match us, hl with | [_], _ => rfl
  obtain ⟨fd_joined_row, F_joined_row⟩ := sd.def_ 5 (d := d_joined_row) rfl
  have b_joined_row := FunD.bindsN (ps := ["old", "new"]) F_joined_row fun _ _ _ _ _ _ us hl => match us, hl with | [_, _], _ => rfl
  obtain ⟨fd_Map__d_init_d_, F_Map__d_init_d_⟩ := sd.def_ 6 (d := d_Map__d_init_d_) rfl
  have b_Map__d_init_d_ := FunD.bindsN (ps := ["self"]) F_Map__d_init_d_ fun _ _ _ _ _ _ us hl => match us, hl with | [_], _ => rfl
  obtain ⟨fd_Map__d_len_d_, F_Map__d_len_d_⟩ := sd.def_ 7 (d := d_Map__d_len_d_) rfl
  have b_Map__d_len_d_ := FunD.bindsN (ps := ["self"]) F_Map__d_len_d_ fun _ _ _ _ _ _ us hl => match us, hl with | [_], _ => rfl
  obtain ⟨fd_Map_row, F_Map_row⟩ := sd.def_ 8 (d := d_Map_row) rfl
  have b_Map_row := FunD.bindsN (ps := ["self", "channel", "giver"]) F_Map_row fun _ _ _ _ _ _ us hl => match us, hl with | [_, _, _], _ => rfl
  obtain ⟨fd_Map_take, F_Map_take⟩ := sd.def_ 9 (d := d_Map_take) rfl
  have b_Map_take := FunD.bindsN (ps := ["self", "row"]) F_Map_take fun _ _ _ _ _ _ us hl => match us, hl with | [_, _], _ => rfl
  obtain ⟨fd_Map_hear, F_Map_hear⟩ := sd.def_ 10 (d := d_Map_hear) rfl
  have b_Map_hear := FunD.bindsN (ps := ["self", "notice"]) F_Map_hear fun _ _ _ _ _ _ us hl => match us, hl with | [_, _], _ => rfl
  obtain ⟨fd_Map_all_rows, F_Map_all_rows⟩ := sd.def_ 11 (d := d_Map_all_rows) rfl
  have b_Map_all_rows := FunD.bindsN (ps := ["self"]) F_Map_all_rows fun _ _ _ _ _ _ us hl => match us, hl with | [_], _ => rfl
  obtain ⟨fd_Map_doubts, F_Map_doubts⟩ := sd.def_ 12 (d := d_Map_doubts) rfl
  have b_Map_doubts := FunD.bindsN (ps := ["self"]) F_Map_doubts fun _ _ _ _ _ _ us hl => match us, hl with | [_], _ => rfl
  obtain ⟨fd_Map_notices, F_Map_notices⟩ := sd.def_ 13 (d := d_Map_notices) rfl
  have b_Map_notices := FunD.bindsN (ps := ["self"]) F_Map_notices fun _ _ _ _ _ _ us hl => match us, hl with | [_], _ => rfl
  obtain ⟨fd_Map_ways, F_Map_ways⟩ := sd.def_ 14 (d := d_Map_ways) rfl
  have b_Map_ways := FunD.bindsN (ps := ["self"]) F_Map_ways fun _ _ _ _ _ _ us hl => match us, hl with | [_], _ => rfl
  obtain ⟨fd_copy_map, F_copy_map⟩ := sd.def_ 15 (d := d_copy_map) rfl
  have b_copy_map := FunD.bindsN (ps := ["known"]) F_copy_map fun _ _ _ _ _ _ us hl => match us, hl with | [_], _ => rfl
  obtain ⟨fd_same_maps, F_same_maps⟩ := sd.def_ 16 (d := d_same_maps) rfl
  have b_same_maps := FunD.bindsN (ps := ["one", "other"]) F_same_maps fun _ _ _ _ _ _ us hl => match us, hl with | [_, _], _ => rfl
  obtain ⟨fd_join, F_join⟩ := sd.def_ 17 (d := d_join) rfl
  have b_join := FunD.bindsN (ps := ["one", "other"]) F_join fun _ _ _ _ _ _ us hl => match us, hl with | [_, _], _ => rfl
  obtain ⟨fd_law_rows, F_law_rows⟩ := sd.def_ 18 (d := d_law_rows) rfl
  have b_law_rows := FunD.bindsN (ps := ["script", "count"]) F_law_rows fun _ _ _ _ _ _ us hl => match us, hl with | [_, _], _ => rfl
  obtain ⟨fd_law_notice, F_law_notice⟩ := sd.def_ 19 (d := d_law_notice) rfl
  have b_law_notice := FunD.bindsN (ps := ["place", "edition", "kind"]) F_law_notice fun _ _ _ _ _ _ us hl => match us, hl with | [_, _, _], _ => rfl
  obtain ⟨fd_law_row, F_law_row⟩ := sd.def_ 20 (d := d_law_row) rfl
  have b_law_row := FunD.bindsN (ps := ["row"]) F_law_row fun _ _ _ _ _ _ us hl => match us, hl with | [_], _ => rfl
  obtain ⟨fd_law_state, F_law_state⟩ := sd.def_ 21 (d := d_law_state) rfl
  have b_law_state := FunD.bindsN (ps := ["rows", "place"]) F_law_state fun _ _ _ _ _ _ us hl => match us, hl with | [_, _], _ => rfl
  obtain ⟨fd_law_all, F_law_all⟩ := sd.def_ 22 (d := d_law_all) rfl
  have b_law_all := FunD.bindsN (ps := ["rows"]) F_law_all fun _ _ _ _ _ _ us hl => match us, hl with | [_], _ => rfl
  obtain ⟨fd_law_told, F_law_told⟩ := sd.def_ 23 (d := d_law_told) rfl
  have b_law_told := FunD.bindsN (ps := ["known", "rows"]) F_law_told fun _ _ _ _ _ _ us hl => match us, hl with | [_, _], _ => rfl
  obtain ⟨fd_law_simple, F_law_simple⟩ := sd.def_ 24 (d := d_law_simple) rfl
  have b_law_simple := FunD.bindsN (ps := ["notice"]) F_law_simple fun _ _ _ _ _ _ us hl => match us, hl with | [_], _ => rfl
  obtain ⟨fd_law_refused, F_law_refused⟩ := sd.def_ 25 (d := d_law_refused) rfl
  have b_law_refused := FunD.bindsN (ps := ["known", "notice", "at"]) F_law_refused fun _ _ _ _ _ _ us hl => match us, hl with | [_, _, _], _ => rfl
  obtain ⟨fd_law, F_law⟩ := sd.def_ 26 (d := d_law) rfl
  have b_law := FunD.bindsN (ps := ["script"]) F_law fun _ _ _ _ _ _ us hl => match us, hl with | [_], _ => rfl
  have bl := FunD.bindsA (ps := ["script"]) F_law fun _ _ _ _ _ _ us hl => match us, hl with | [_], _ => rfl
  refine ⟨fd_law, fun s v => bl s [v] rfl, fun base => ?_⟩
  have st0 : GSt (md.pg P w K mg base) gt0 := md.stat X Gn (by decide +kernel) c1 _ _ _ _
  have st : GSt (md.pg P w K mg base) gt := st0.hot _ _
  have g0 : GOk (md.pg P w K mg base) gt 0 := .of st ⟨all_cons (fun z => absurd z (by decide)) (all_cons (fun z => absurd z (by decide)) (all_cons (fun z => absurd z (by decide)) (all_cons (fun z => absurd z (by decide)) (all_cons (fun z => absurd z (by decide)) (all_cons (fun z => absurd z (by decide)) (all_cons (fun z => absurd z (by decide)) (all_cons (fun z => absurd z (by decide)) (all_cons (fun z => absurd z (by decide)) (all_cons (fun z => absurd z (by decide)) (all_cons (fun z => absurd z (by decide)) (all_cons (fun z => absurd z (by decide)) (all_cons (fun z => absurd z (by decide)) (all_cons (fun z => absurd z (by decide)) (all_cons (fun z => absurd z (by decide)) (all_cons (fun z => absurd z (by decide)) (all_cons (fun z => absurd z (by decide)) (all_cons (fun z => absurd z (by decide)) (all_cons (fun z => absurd z (by decide)) (all_nil))))))))))))))))))), all_nil, all_cons (all_cons (fun z => absurd z (by decide)) (all_nil)) (all_cons (all_cons (fun z => absurd z (by decide)) (all_nil)) (all_cons (all_cons (fun z => absurd z (by decide)) (all_nil)) (all_cons (all_cons (fun z => absurd z (by decide)) (all_nil)) (all_cons (all_cons (fun z => absurd z (by decide)) (all_nil)) (all_cons (all_cons (fun z => absurd z (by decide)) (all_nil)) (all_cons (all_cons (fun z => absurd z (by decide)) (all_nil)) (all_cons (all_cons (fun z => absurd z (by decide)) (all_nil)) (all_nil)))))))), all_nil, all_nil, all_cons (all_cons (fun z => absurd z (by decide)) (all_nil)) (all_nil)⟩
  have ok_check_notice := fn_ok F_check_notice sc_check_notice g0 r_check_notice
  have c_check_notice : CallG (md.pg P w K mg base) 0 "check_notice" sp_check_notice := callG_fn (gl _ (by decide +kernel)) F_check_notice.kp b_check_notice ok_check_notice
  have ok_place_of := fn_ok F_place_of sc_place_of g0 r_place_of
  have c_place_of : CallG (md.pg P w K mg base) 0 "place_of" sp_place_of := callG_fn (gl _ (by decide +kernel)) F_place_of.kp b_place_of ok_place_of
  have ok_row_of := fn_ok F_row_of sc_row_of g0 r_row_of
  have c_row_of : CallG (md.pg P w K mg base) 0 "row_of" sp_row_of := callG_fn (gl _ (by decide +kernel)) F_row_of.kp b_row_of ok_row_of
  have ok_way_of := fn_ok F_way_of sc_way_of g0 r_way_of
  have c_way_of : CallG (md.pg P w K mg base) 0 "way_of" sp_way_of := callG_fn (gl _ (by decide +kernel)) F_way_of.kp b_way_of ok_way_of
  have ok_is_closed := fn_ok F_is_closed sc_is_closed g0 r_is_closed
  have c_is_closed : CallG (md.pg P w K mg base) 0 "is_closed" sp_is_closed := callG_fn (gl _ (by decide +kernel)) F_is_closed.kp b_is_closed ok_is_closed
  have ok_joined_row := fn_ok F_joined_row sc_joined_row g0 r_joined_row
  have c_joined_row : CallG (md.pg P w K mg base) 0 "joined_row" sp_joined_row := callG_fn (gl _ (by decide +kernel)) F_joined_row.kp b_joined_row ok_joined_row
  have ok_Map__d_init_d_ := fn_ok F_Map__d_init_d_ sc_Map__d_init_d_ g0 r_Map__d_init_d_
  obtain ⟨n_Map, k_Map⟩ := He.ba (List.all_eq_true.mp c3 "Map" (by decide +kernel))
  have c_Map : CallG (md.pg P w K mg base) 1 "Map" sp_Map := callG_mk (PySem.W.mg_of X Gn (He.eqO_ok n_Map)) (He.mkr_ok k_Map) b_Map__d_init_d_ ok_Map__d_init_d_
  have ok_Map__d_len_d_ := fn_ok F_Map__d_len_d_ sc_Map__d_len_d_ g0 r_Map__d_len_d_
  have c_Map__d_len_d_ : MethG (md.pg P w K mg base) 0 "__len__" 2 sp_Map__d_len_d_ := methG_of (methB_ok (List.all_eq_true.mp c4 ("Map", "__len__") (by decide +kernel)) rfl (show ("__len__" : Str) ∉ md.fs 2 by decide +kernel)) b_Map__d_len_d_ ok_Map__d_len_d_
  have ok_Map_row := fn_ok F_Map_row sc_Map_row g0 r_Map_row
  have c_Map_row : MethG (md.pg P w K mg base) 0 "row" 2 sp_Map_row := methG_of (methB_ok (List.all_eq_true.mp c4 ("Map", "row") (by decide +kernel)) rfl (show ("row" : Str) ∉ md.fs 2 by decide +kernel)) b_Map_row ok_Map_row
  have ok_Map_all_rows := fn_ok F_Map_all_rows sc_Map_all_rows g0 r_Map_all_rows
  have h_Map_all_rows : HotM (md.pg P w K mg base) 0 "all_rows" 2 sph_Map_all_rows := hotM_of (methB_ok (List.all_eq_true.mp c4 ("Map", "all_rows") (by decide +kernel)) rfl (show ("all_rows" : Str) ∉ md.fs 2 by decide +kernel)) b_Map_all_rows (fn_okH F_Map_all_rows sc_Map_all_rows g0 rh_Map_all_rows)
  have c_Map_all_rows : MethG (md.pg P w K mg base) 0 "all_rows" 2 sp_Map_all_rows := methG_of (methB_ok (List.all_eq_true.mp c4 ("Map", "all_rows") (by decide +kernel)) rfl (show ("all_rows" : Str) ∉ md.fs 2 by decide +kernel)) b_Map_all_rows ok_Map_all_rows
  have ok_law_notice := fn_ok F_law_notice sc_law_notice g0 r_law_notice
  have c_law_notice : CallG (md.pg P w K mg base) 0 "_law_notice" sp_law_notice := callG_fn (gl _ (by decide +kernel)) F_law_notice.kp b_law_notice ok_law_notice
  have ok_law_state := fn_ok F_law_state sc_law_state g0 r_law_state
  have c_law_state : CallG (md.pg P w K mg base) 0 "_law_state" sp_law_state := callG_fn (gl _ (by decide +kernel)) F_law_state.kp b_law_state ok_law_state
  have g1 : GOk (md.pg P w K mg base) gt 1 := .of st ⟨all_cons (fun _ => c_check_notice) (all_cons (fun _ => c_place_of) (all_cons (fun _ => c_row_of) (all_cons (fun _ => c_way_of) (all_cons (fun _ => c_is_closed) (all_cons (fun _ => c_joined_row) (all_cons (fun z => absurd z (by decide)) (all_cons (fun z => absurd z (by decide)) (all_cons (fun z => absurd z (by decide)) (all_cons (fun z => absurd z (by decide)) (all_cons (fun _ => c_law_notice) (all_cons (fun z => absurd z (by decide)) (all_cons (fun _ => c_law_state) (all_cons (fun z => absurd z (by decide)) (all_cons (fun z => absurd z (by decide)) (all_cons (fun z => absurd z (by decide)) (all_cons (fun z => absurd z (by decide)) (all_cons (fun z => absurd z (by decide)) (all_cons (fun z => absurd z (by decide)) (all_nil))))))))))))))))))), all_nil, all_cons (all_cons (fun _ => c_Map__d_len_d_) (all_nil)) (all_cons (all_cons (fun _ => c_Map_row) (all_nil)) (all_cons (all_cons (fun z => absurd z (by decide)) (all_nil)) (all_cons (all_cons (fun z => absurd z (by decide)) (all_nil)) (all_cons (all_cons (fun _ => c_Map_all_rows) (all_nil)) (all_cons (all_cons (fun z => absurd z (by decide)) (all_nil)) (all_cons (all_cons (fun z => absurd z (by decide)) (all_nil)) (all_cons (all_cons (fun z => absurd z (by decide)) (all_nil)) (all_nil)))))))), all_nil, all_nil, all_cons (all_cons (fun _ => h_Map_all_rows) (all_nil)) (all_nil)⟩
  have ok_Map_take := fn_ok F_Map_take sc_Map_take g1 r_Map_take
  have c_Map_take : MethG (md.pg P w K mg base) 1 "take" 2 sp_Map_take := methG_of (methB_ok (List.all_eq_true.mp c4 ("Map", "take") (by decide +kernel)) rfl (show ("take" : Str) ∉ md.fs 2 by decide +kernel)) b_Map_take ok_Map_take
  have ok_Map_doubts := fn_ok F_Map_doubts sc_Map_doubts g1 r_Map_doubts
  have c_Map_doubts : MethG (md.pg P w K mg base) 1 "doubts" 2 sp_Map_doubts := methG_of (methB_ok (List.all_eq_true.mp c4 ("Map", "doubts") (by decide +kernel)) rfl (show ("doubts" : Str) ∉ md.fs 2 by decide +kernel)) b_Map_doubts ok_Map_doubts
  have ok_Map_notices := fn_ok F_Map_notices sc_Map_notices g1 r_Map_notices
  have c_Map_notices : MethG (md.pg P w K mg base) 1 "notices" 2 sp_Map_notices := methG_of (methB_ok (List.all_eq_true.mp c4 ("Map", "notices") (by decide +kernel)) rfl (show ("notices" : Str) ∉ md.fs 2 by decide +kernel)) b_Map_notices ok_Map_notices
  have ok_same_maps := fn_ok F_same_maps sc_same_maps g1 r_same_maps
  have c_same_maps : CallG (md.pg P w K mg base) 1 "same_maps" sp_same_maps := callG_fn (gl _ (by decide +kernel)) F_same_maps.kp b_same_maps ok_same_maps
  have ok_law_row := fn_ok F_law_row sc_law_row g1 r_law_row
  have c_law_row : CallG (md.pg P w K mg base) 1 "_law_row" sp_law_row := callG_fn (gl _ (by decide +kernel)) F_law_row.kp b_law_row ok_law_row
  have ok_law_all := fn_ok F_law_all sc_law_all g1 r_law_all
  have c_law_all : CallG (md.pg P w K mg base) 1 "_law_all" sp_law_all := callG_fn (gl _ (by decide +kernel)) F_law_all.kp b_law_all ok_law_all
  have ok_law_simple := fn_ok F_law_simple sc_law_simple g1 r_law_simple
  have c_law_simple : CallG (md.pg P w K mg base) 1 "_law_simple" sp_law_simple := callG_fn (gl _ (by decide +kernel)) F_law_simple.kp b_law_simple ok_law_simple
  have g2 : GOk (md.pg P w K mg base) gt 2 := .of st ⟨all_cons (fun _ => c_check_notice) (all_cons (fun _ => c_place_of) (all_cons (fun _ => c_row_of) (all_cons (fun _ => c_way_of) (all_cons (fun _ => c_is_closed) (all_cons (fun _ => c_joined_row) (all_cons (fun z => absurd z (by decide)) (all_cons (fun _ => c_same_maps) (all_cons (fun z => absurd z (by decide)) (all_cons (fun z => absurd z (by decide)) (all_cons (fun _ => c_law_notice) (all_cons (fun _ => c_law_row) (all_cons (fun _ => c_law_state) (all_cons (fun _ => c_law_all) (all_cons (fun z => absurd z (by decide)) (all_cons (fun _ => c_law_simple) (all_cons (fun z => absurd z (by decide)) (all_cons (fun z => absurd z (by decide)) (all_cons (fun _ => c_Map) (all_nil))))))))))))))))))), all_nil, all_cons (all_cons (fun _ => c_Map__d_len_d_) (all_nil)) (all_cons (all_cons (fun _ => c_Map_row) (all_nil)) (all_cons (all_cons (fun _ => c_Map_take) (all_nil)) (all_cons (all_cons (fun z => absurd z (by decide)) (all_nil)) (all_cons (all_cons (fun _ => c_Map_all_rows) (all_nil)) (all_cons (all_cons (fun _ => c_Map_doubts) (all_nil)) (all_cons (all_cons (fun _ => c_Map_notices) (all_nil)) (all_cons (all_cons (fun z => absurd z (by decide)) (all_nil)) (all_nil)))))))), all_nil, all_nil, all_cons (all_cons (fun _ => h_Map_all_rows) (all_nil)) (all_nil)⟩
  have ok_Map_hear := fn_ok F_Map_hear sc_Map_hear g2 r_Map_hear
  have c_Map_hear : MethG (md.pg P w K mg base) 2 "hear" 2 sp_Map_hear := methG_of (methB_ok (List.all_eq_true.mp c4 ("Map", "hear") (by decide +kernel)) rfl (show ("hear" : Str) ∉ md.fs 2 by decide +kernel)) b_Map_hear ok_Map_hear
  have ok_Map_ways := fn_ok F_Map_ways sc_Map_ways g2 r_Map_ways
  have c_Map_ways : MethG (md.pg P w K mg base) 2 "ways" 2 sp_Map_ways := methG_of (methB_ok (List.all_eq_true.mp c4 ("Map", "ways") (by decide +kernel)) rfl (show ("ways" : Str) ∉ md.fs 2 by decide +kernel)) b_Map_ways ok_Map_ways
  have ok_copy_map := fn_ok F_copy_map sc_copy_map g2 r_copy_map
  have c_copy_map : CallG (md.pg P w K mg base) 2 "copy_map" sp_copy_map := callG_fn (gl _ (by decide +kernel)) F_copy_map.kp b_copy_map ok_copy_map
  have ok_law_rows := fn_ok F_law_rows sc_law_rows g2 r_law_rows
  have c_law_rows : CallG (md.pg P w K mg base) 2 "_law_rows" sp_law_rows := callG_fn (gl _ (by decide +kernel)) F_law_rows.kp b_law_rows ok_law_rows
  have g3 : GOk (md.pg P w K mg base) gt 3 := .of st ⟨all_cons (fun _ => c_check_notice) (all_cons (fun _ => c_place_of) (all_cons (fun _ => c_row_of) (all_cons (fun _ => c_way_of) (all_cons (fun _ => c_is_closed) (all_cons (fun _ => c_joined_row) (all_cons (fun _ => c_copy_map) (all_cons (fun _ => c_same_maps) (all_cons (fun z => absurd z (by decide)) (all_cons (fun _ => c_law_rows) (all_cons (fun _ => c_law_notice) (all_cons (fun _ => c_law_row) (all_cons (fun _ => c_law_state) (all_cons (fun _ => c_law_all) (all_cons (fun z => absurd z (by decide)) (all_cons (fun _ => c_law_simple) (all_cons (fun z => absurd z (by decide)) (all_cons (fun z => absurd z (by decide)) (all_cons (fun _ => c_Map) (all_nil))))))))))))))))))), all_nil, all_cons (all_cons (fun _ => c_Map__d_len_d_) (all_nil)) (all_cons (all_cons (fun _ => c_Map_row) (all_nil)) (all_cons (all_cons (fun _ => c_Map_take) (all_nil)) (all_cons (all_cons (fun _ => c_Map_hear) (all_nil)) (all_cons (all_cons (fun _ => c_Map_all_rows) (all_nil)) (all_cons (all_cons (fun _ => c_Map_doubts) (all_nil)) (all_cons (all_cons (fun _ => c_Map_notices) (all_nil)) (all_cons (all_cons (fun _ => c_Map_ways) (all_nil)) (all_nil)))))))), all_nil, all_nil, all_cons (all_cons (fun _ => h_Map_all_rows) (all_nil)) (all_nil)⟩
  have ok_join := fn_ok F_join sc_join g3 r_join
  have c_join : CallG (md.pg P w K mg base) 3 "join" sp_join := callG_fn (gl _ (by decide +kernel)) F_join.kp b_join ok_join
  have ok_law_told := fn_ok F_law_told sc_law_told g3 r_law_told
  have c_law_told : CallG (md.pg P w K mg base) 3 "_law_told" sp_law_told := callG_fn (gl _ (by decide +kernel)) F_law_told.kp b_law_told ok_law_told
  have ok_law_refused := fn_ok F_law_refused sc_law_refused g3 r_law_refused
  have c_law_refused : CallG (md.pg P w K mg base) 3 "_law_refused" sp_law_refused := callG_fn (gl _ (by decide +kernel)) F_law_refused.kp b_law_refused ok_law_refused
  have g4 : GOk (md.pg P w K mg base) gt 4 := .of st ⟨all_cons (fun _ => c_check_notice) (all_cons (fun _ => c_place_of) (all_cons (fun _ => c_row_of) (all_cons (fun _ => c_way_of) (all_cons (fun _ => c_is_closed) (all_cons (fun _ => c_joined_row) (all_cons (fun _ => c_copy_map) (all_cons (fun _ => c_same_maps) (all_cons (fun _ => c_join) (all_cons (fun _ => c_law_rows) (all_cons (fun _ => c_law_notice) (all_cons (fun _ => c_law_row) (all_cons (fun _ => c_law_state) (all_cons (fun _ => c_law_all) (all_cons (fun _ => c_law_told) (all_cons (fun _ => c_law_simple) (all_cons (fun _ => c_law_refused) (all_cons (fun z => absurd z (by decide)) (all_cons (fun _ => c_Map) (all_nil))))))))))))))))))), all_nil, all_cons (all_cons (fun _ => c_Map__d_len_d_) (all_nil)) (all_cons (all_cons (fun _ => c_Map_row) (all_nil)) (all_cons (all_cons (fun _ => c_Map_take) (all_nil)) (all_cons (all_cons (fun _ => c_Map_hear) (all_nil)) (all_cons (all_cons (fun _ => c_Map_all_rows) (all_nil)) (all_cons (all_cons (fun _ => c_Map_doubts) (all_nil)) (all_cons (all_cons (fun _ => c_Map_notices) (all_nil)) (all_cons (all_cons (fun _ => c_Map_ways) (all_nil)) (all_nil)))))))), all_nil, all_nil, all_cons (all_cons (fun _ => h_Map_all_rows) (all_nil)) (all_nil)⟩
  have ok_law := fn_ok F_law sc_law g4 r_law
  exact ok_law
end
/-! ### the head -/
abbrev R : PySem.W.OpenRow := PySem.W.OpenLaw.row PySem.Challenge.rw_droveway_k66_maps
abbrev hk : PySem.W.Hook := hookP 6 fn pr tf ex
def ob (s : PySem.W.SharedT) : He.AlD × Bool × List He.FnW := obsP 6 fn pr tf ex (HandSHeadRun.getT s)
theorem ob_eq (s : PySem.W.SharedT) : ob s = hk.obs s.abs := obsP_eq (HandSHeadRun.getT_eq s)
def nm0 : List Str := ["__name__", "DrovewayError", "OutOfBounds", "MOST_EDITION", "MOST_CARRIED", "MOST_SHARE", "MOST_GAP", "check_notice", "place_of", "row_of", "way_of", "is_closed", "joined_row", "Map", "copy_map", "same_maps", "join", "_law_rows", "_law_notice", "_law_row", "_law_state", "_law_all", "_law_told", "_law_simple", "_law_refused"]
def nms : List Str := nm0
abbrev qv : Program := PySem.W.view R.prog [28]
theorem run_a (w : World) : RunA R qv 3000 nms w := by
  intro os
  kernel_rfl
def fn0 : List He.DefD := (d_check_notice :: d_place_of :: d_row_of :: d_way_of :: d_is_closed :: d_joined_row :: d_Map__d_init_d_ :: d_Map__d_len_d_ :: d_Map_row :: d_Map_take :: d_Map_hear :: d_Map_all_rows :: d_Map_doubts :: d_Map_notices :: d_Map_ways :: d_copy_map :: d_same_maps :: d_join :: d_law_rows :: d_law_notice :: d_law_row :: d_law_state :: d_law_all :: d_law_told :: d_law_simple :: d_law_refused :: d_law :: [])
theorem run_f0 (w : World) : RunF R 3000 6 fn0 w := by
  intro os
  kernel_rfl
theorem run_e (w : World) : RunX R 3000 6 pr tf ex w := by
  intro os
  kernel_rfl
theorem fn_eq : fn = fn0 := rfl
theorem run (w : World) : HandSHeadRun.RunEq R qv hk ob 3000 nms w := run_join (fun _ => rfl) (run_a w) (RunF.of_eq fn_eq (run_f0 w)) (run_e w)
end Lk66

open DW PySem L2 in
local macro_rules | `(tactic| walk_at "dw1") => `(tactic| simp only [w_seq, w_next, w_brk, w_cnt, w_drop, w_ret, w_retN, w_if, w_asg, w_var, w_D, w_bin, w_chain, w_chain3, w_nil, w_cons, w_tup, w_lst, w_tru, w_tst, w_and, w_or, w_not, w_andV, w_orV, w_notV, w_ifE, w_neg, w_call, w_B, w_raise, w_try, w_for, w_gN, w_add, w_sub, w_mul, w_div, w_mod, w_pow15, w_pow12, w_pow9, w_lt, w_ltIB, w_le, w_gt, w_ge, w_eqI, w_neI, w_bInt, w_lenR, w_lenT, w_lenK, w_ixR, w_ixT, w_ixK, w_ixU, w_lenU, w_rng1, w_kRng1, w_seqI, w_itT, w_itK, w_itR, w_isiX, w_kIsiX, w_exO, w_isi, w_isiI, w_isiB, w_isiT, w_isiR, w_isiN, w_isiS, dEndsAt, noEx, List.length_map, Lk66.k_bool_NoneType, Lk66.k_bool_bool, Lk66.k_bool_int, Lk66.k_bool_str, Lk66.k_bool_tuple, Lk66.k_bool_list, Lk66.k_bool_dict, Lk66.k_bool_own2, Lk66.x_DrovewayError_0, Lk66.x_DrovewayError_1, Lk66.x_OutOfBounds_0, Lk66.x_OutOfBounds_1, ex_some, at0, at1, at2, at3, at4, at5, at6, at7, at8, at9, at10, at11, at12, at13, at14, at15, at16, at17, at18, at19, at20, at21, at22, at23, at24, w_eqB, w_neB, w_eqS, w_neS, w_isN, w_isNotN, w_isB, w_isNotB, isNon_non, isNon_int, isNon_bl, isNon_str, isNon_tup, isNon_ref, w_max2, w_min2, w_gT, w_gK, w_gsC, w_gsN, w_M, w_tyU, w_appU, w_tupU, w_tupT, w_listU, w_listR, w_listT, w_itU, w_isiU, w_rng2, w_kRng2, w_maxA2, w_augF, w_dict1, w_lenSc, w_lc2, w_kLcI, w_lcI0, w_lcI1, w_augN, w_kAugN, w_oEq0, w_oNe0, w_oIn0, w_oEqI, w_oEqB, w_oEqS, w_oEqT, w_oEqK, w_oEqN, w_oNeI, w_oNeB, w_oNeS, w_oNeT, w_oNeK, w_oNeN, w_oInT, w_oInK, w_oInR, w_oInS, w_lenO0, w_lenOT, w_lenOK, w_lenOR, w_lenOS, w_lenOU, w_par2, w_par3, w_delL, w_dict0, w_sub2, w_lenS, w_unNx, w_unRt, w_unBk, w_unCt, w_fld, w_sfld, w_meth1, w_prop1, w_callK, w_iRev, w_iRevT, w_iEnum, w_iEnumT, w_iZip, m_kWh, m_kLcB, w_lc, w_yes, w_kLcYU, w_wipe, w_wipe0, w_sl, w_kSl, w_part, w_kPart, w_noPart, w_slT, w_slR, w_slU, w_rev, w_revU, w_catT, m_kIf, m_kAsg, m_kRt, m_kAnd, m_kOr, m_kNot, m_kIfE, m_kT, m_kTru, m_kAndV, m_kOrV, m_kNotV, m_kCh, m_kCh3, m_bl, m_int, m_and, m_or, m_and2, m_or2, m_tf, m_ft, m_id, dec_b, mkFn, lk, List.set, List.map, List.length, List.replicate, List.append, List.cons_append, List.nil_append, List.getD_cons_zero, List.getD_cons_succ, Nat.reduceSub, Nat.reduceAdd, true_and, and_true, if_true, if_false, ite_true, ite_false, Bool.not_not, Bool.not_true, Bool.not_false, Bool.and_true, Bool.true_and, Bool.and_false, Bool.false_and, Bool.or_true, Bool.true_or, Bool.or_false, Bool.false_or, eq_self, decide_true, decide_false, Bool.decide_eq_true, reduceCtorEq])
open DW PySem L2 in
local macro_rules | `(tactic| walk_at "dw2") => `(tactic| simp only [up_up, kT, kTru, kAnd, kOr, kNot, kAndV, kOrV, kNotV, kCh, kCh3, kIfE, w_onB, w_onT, tRu])
open DW PySem L2 in
local macro_rules | `(tactic| walk_at "go1") => `(tactic| first | with_reducible refine go_nx ?_ | with_reducible refine go_asg ?_ | with_reducible refine go_rt ?_ | simp only [w_kIfT, w_kIfF, w_kWhT, w_kWhF, w_kLcT, w_kLcF, w_kLc2T, w_kLc2F])
open DW PySem L2 in
local macro_rules | `(tactic| walk_at "sd1") => `(tactic| (with_reducible refine And.intro ?sd ?_; (case sd => first | exact mul_r (by omega) (by omega) | exact mul_l (by omega) (by omega) | exact div_small (by omega) (by omega) | omega | exact small1000 (by decide) | exact le1000 (by decide))))
open DW PySem L2 in
local macro_rules | `(tactic| walk_at "run") => `(tactic| repeat (first | walk_at "dw1" | walk_at "dw2" | walk_at "sd1" | walk_at "go1"))
open DW PySem L2 in
local macro_rules | `(tactic| walk_at "br") => `(tactic| simp only [kIf, kWh, kLcB, Bool.and_eq_true, Bool.or_eq_true, Bool.not_eq_true', decide_eq_true_eq, decide_eq_false_iff_not, Bool.and_eq_false_iff, Bool.or_eq_false_iff])
open DW PySem L2 in
local macro_rules | `(tactic| walk_at "at") => `(tactic| first | assumption | (with_reducible exact up_same) | ((with_reducible refine up_at ?_ (by assumption)); walk_at "at") | ((with_reducible refine sub_at (by assumption) ?_); walk_at "at") | ((with_reducible refine up_neq (by assumption) ?_); walk_at "at") | ((with_reducible refine up_neq' (by assumption) ?_); walk_at "at") | ((with_reducible apply up_lst); (walk_at "at"); walk_at "at") | ((with_reducible apply up_ins); (walk_at "at"); walk_at "at"))
open DW PySem L2 in
local macro_rules | `(tactic| walk_at "sb") => `(tactic| first | exact Sub.refl _ | assumption | ((with_reducible refine Sub.trans ?_ (Sub.new (by assumption))); walk_at "sb") | ((with_reducible refine Sub.trans ?_ (by assumption)); walk_at "sb"))
open DW PySem L2 in
local macro_rules | `(tactic| walk_at "hp") => `(tactic| first
  | ((with_reducible apply go_fld); (walk_at "at"); rfl; rfl)
  | ((with_reducible apply go_ixL); walk_at "at")
  | ((with_reducible apply go_lenL); walk_at "at")
  | ((with_reducible apply go_lenOL); walk_at "at")
  | ((with_reducible apply go_itL); walk_at "at")
  | ((with_reducible apply go_isiL); walk_at "at")
  | ((with_reducible apply go_isiO2); walk_at "at")
  | ((with_reducible apply go_tupL); walk_at "at")
  | ((with_reducible apply go_listL); walk_at "at")
  | ((with_reducible apply go_slL); walk_at "at")
  | ((with_reducible apply go_revL); walk_at "at")
  | ((with_reducible apply go_iRevL); walk_at "at")
  | ((with_reducible apply go_iEnumL); walk_at "at")
  | ((with_reducible apply go_truL); walk_at "at")
  | ((with_reducible apply go_meth); walk_at "at")
  | ((with_reducible apply go_put); (walk_at "at"); rfl; rfl)
  | ((with_reducible refine And.intro ?ty ?_); (case ty => first | ((with_reducible apply go_tyDT); walk_at "at") | ((with_reducible apply go_tyL); walk_at "at")))
  | ((with_reducible apply go_prop); walk_at "at"))
open DW PySem L2 in
local macro_rules | `(tactic| walk_at "sx") => `(tactic| simp only [DW.sx0, DW.sx1, DW.sx2, DW.sx3, DW.sx4, DW.sx5, DW.sx6, DW.sx7, DW.sx8, DW.sx9, DW.sx10, DW.sx11, DW.sx12, DW.sx13, DW.sx14, DW.sx15, DW.sx16, DW.sx17, DW.sx18, DW.sx19, DW.sx20, DW.sx21, DW.sx22, DW.sx23, DW.sx24, DW.sx25, DW.sx26, DW.sx27, DW.sx28, DW.sx29, DW.sx30, DW.sx31, DW.sx32, DW.sx33, DW.sx34, DW.sx35])
open DW PySem L2 in
local macro_rules | `(tactic| walk_at "au") => `(tactic| repeat (first | walk_at "dw1" | walk_at "dw2" | walk_at "sd1" | walk_at "go1" | walk_at "sx" | walk_at "hp"))
open DW PySem L2 in
local macro_rules | `(tactic| walk_at "un") => `(tactic| simp only [w_fsC, w_fsN, true_and])
open DW PySem L2 in
local macro_rules | `(tactic| walk_at "uu") => `(tactic| repeat (first | walk_at "dw1" | walk_at "dw2" | walk_at "sd1" | walk_at "go1" | walk_at "sx" | walk_at "hp" | walk_at "un"))

namespace Lk66
open PySem L2 DW
theorem law_rows_spec {ns : List Int} {n : Nat} {h : DH} {P : KD} {R : KX} (hn : n ≤ 1000) (ok : ∀ xs : List Int, xs.length = n → (∀ x ∈ xs, 0 ≤ x) → kNew (xs.map D.int) P h) : sp_law_rows [.rol (ns.map D.int), .int (n : Nat)] h P R := by
  unfold sp_law_rows t_law_rows
  walk_at "run"
  refine go_newE fun p hp => ?_
  walk_at "run"
  refine for_rng (fun k e h' => ∃ xs : List Int, ∃ x3 x4, xs.length = k ∧ (∀ x ∈ xs, 0 ≤ x) ∧ h' = up h p (.lst (xs.map D.int)) ∧ e = [some (.rol (ns.map D.int)), some (.int (n : Nat)), some (.ref p), x3, x4]) (fun k e h' X hk i next => ?_) (fun e h' i => ?_) _ _ ⟨[], _, _, rfl, (fun _ z => by cases z), rfl, rfl⟩
  · obtain ⟨xs, x3, x4, hx, h0, rfl, rfl⟩ := i
    have hkn : k < n := by omega
    walk_at "run"
    generalize hN : kNx _ _ = N
    have key : ∀ c : Int, N [some (.rol (ns.map D.int)), some (.int (n : Nat)), some (.ref p), some (.int (k : Nat)), some (.int c)] (up h p (.lst (xs.map D.int))) := by
      subst hN
      intro c
      walk_at "run"
      generalize hN : kNx _ _ = N
      have key : ∀ c : Int, 0 ≤ c → N [some (.rol (ns.map D.int)), some (.int (n : Nat)), some (.ref p), some (.int (k : Nat)), some (.int c)] (up h p (.lst (xs.map D.int))) := by
        subst hN
        intro c hc
        walk_at "run"
        generalize hN : kNx _ _ = N
        have key : ∀ c : Int, 0 ≤ c → N [some (.rol (ns.map D.int)), some (.int (n : Nat)), some (.ref p), some (.int (k : Nat)), some (.int c)] (up h p (.lst (xs.map D.int))) := by
          subst hN
          intro c hc
          walk_at "run"
          refine ⟨by rw [hx]; exact small1000 (by omega), ?_⟩
          refine next _ _ ⟨xs ++ [c], _, _, by simp [hx], fun x m => ?_, by simp, rfl⟩
          rcases List.mem_append.mp m with m | m
          · exact h0 x m
          · rw [List.mem_singleton.mp m]; exact hc
        walk_at "br"
        split
        · walk_at "run"
          refine key _ ?_
          omega
        · walk_at "run"
          exact key _ hc
      walk_at "br"
      split
      · walk_at "run"
        exact key _ (by omega)
      · walk_at "run"
        exact key _ (by omega)
    walk_at "br"
    split
    · rename_i hl
      walk_at "run"
      obtain ⟨c, e, _⟩ := atI_lt (xs := ns) (i := (k : Int) % (ns.length : Nat)) (Int.emod_nonneg _ (by omega)) (Int.emod_lt_of_pos _ (by omega))
      refine ⟨_, atI_map e, ?_⟩
      walk_at "run"
      exact key _
    · walk_at "run"
      exact key _
  · obtain ⟨xs, x3, x4, hx, h0, rfl, rfl⟩ := i
    walk_at "run"
    exact fgt (ok xs (by simpa using hx) h0 p hp)
/-! ### rows of a map -/
abbrev T3 := Int × Int × Int
abbrev Nt := Int × Int × Int × Int × T3 × Int
instance : DecidableEq (T3) := fun a b => instDecidableEqProd a b
instance : DecidableEq (T3 × Int) := fun a b => instDecidableEqProd a b
instance : DecidableEq (Int × T3 × Int) := fun a b => instDecidableEqProd a b
instance : DecidableEq (Int × Int × T3 × Int) := fun a b => instDecidableEqProd a b
instance : DecidableEq (Int × Int × Int × T3 × Int) := fun a b => instDecidableEqProd a b
instance : DecidableEq Nt := fun a b => instDecidableEqProd a b
def dN (n : Nt) : D := .tup [.int n.1, .int n.2.1, .int n.2.2.1, .int n.2.2.2.1, .tup [.int n.2.2.2.2.1.1, .int n.2.2.2.2.1.2.1, .int n.2.2.2.2.1.2.2], .int n.2.2.2.2.2]
def pN (n : Nt) : PyData := .tuple [.int n.1, .int n.2.1, .int n.2.2.1, .int n.2.2.2.1, .tuple [.int n.2.2.2.2.1.1, .int n.2.2.2.2.1.2.1, .int n.2.2.2.2.1.2.2], .int n.2.2.2.2.2]
theorem da_N : Da dN pN 2 := by
  refine ⟨fun h m a l => ?_, fun a b => ?_⟩
  · match m, l with
    | m + 2, _ => simp [toPy, toPys, dN, pN]
  · obtain ⟨a1, a2, a3, a4, ⟨a5, a6, a7⟩, a8⟩ := a
    obtain ⟨b1, b2, b3, b4, ⟨b5, b6, b7⟩, b8⟩ := b
    simp [pN, PyData.eqv, PyData.eqvAll, Prod.ext_iff]
def dO : Option Nt → D
  | none => .non
  | some n => dN n
def pO : Option Nt → PyData
  | none => .none
  | some n => pN n
theorem da_O : Da dO pO 2 := by
  refine ⟨fun h m a l => ?_, fun a b => ?_⟩
  · cases a with
    | none => cases m <;> rfl
    | some n => exact da_N.py h m n l
  · cases a with
    | none =>
      cases b with
      | none => simp [pO, PyData.eqv]
      | some b => simp [pO, pN, PyData.eqv]
    | some a =>
      cases b with
      | none => simp [pO, pN, PyData.eqv]
      | some b => simpa [pO] using da_N.eq a b
abbrev Rw := Int × Int × Int × Option Nt
instance : DecidableEq (Int × Option Nt) := fun a b => instDecidableEqProd a b
instance : DecidableEq (Int × Int × Option Nt) := fun a b => instDecidableEqProd a b
instance : DecidableEq Rw := fun a b => instDecidableEqProd a b
def dR (r : Rw) : D := .tup [.int r.1, .int r.2.1, .int r.2.2.1, dO r.2.2.2]
def pR (r : Rw) : PyData := .tuple [.int r.1, .int r.2.1, .int r.2.2.1, pO r.2.2.2]
theorem da_R : Da dR pR 3 := by
  refine ⟨fun h m a l => ?_, fun a b => ?_⟩
  · match m, l with
    | m + 3, _ => simp [toPy, toPys, dR, pR, da_O.py h (m + 2) a.2.2.2 (by omega)]
  · obtain ⟨a1, a2, a3, a4⟩ := a
    obtain ⟨b1, b2, b3, b4⟩ := b
    simp only [pR, PyData.eqv, PyData.eqvAll, Bool.and_true, Bool.and_eq_true, da_O.eq, Prod.ext_iff]
    simp
def dOR : Option Rw → D
  | none => .non
  | some n => dR n
def pOR : Option Rw → PyData
  | none => .none
  | some n => pR n
theorem da_OR : Da dOR pOR 3 := by
  refine ⟨fun h m a l => ?_, fun a b => ?_⟩
  · cases a with
    | none => cases m <;> rfl
    | some n => exact da_R.py h m n l
  · cases a with
    | none =>
      cases b with
      | none => simp [pOR, PyData.eqv]
      | some b => simp [pOR, pR, PyData.eqv]
    | some a =>
      cases b with
      | none => simp [pOR, pR, PyData.eqv]
      | some b => simpa [pOR] using da_R.eq a b
theorem dO_ni {o : Option Nt} : (∀ i, dO o ≠ .int i) ∧ ∀ i, dO o ≠ .str i := by cases o <;> exact ⟨(fun _ z => by cases z), fun _ z => by cases z⟩
theorem dOR_ni {o : Option Rw} : (∀ i, dOR o ≠ .int i) ∧ ∀ i, dOR o ≠ .str i := by cases o <;> exact ⟨(fun _ z => by cases z), fun _ z => by cases z⟩
section
variable {h : DH} {P : KD}
theorem eqO {a b : Option Nt} : doEq (dO a) (dO b) h P = P (.bl (decide (a = b))) h := doEq_of (da_O.py h 20 a (by decide)) (da_O.py h 20 b (by decide)) (bool_dec (da_O.eq a b)) (fun i _ z => dO_ni.1 i z.1) (fun i _ z => dO_ni.2 i z.1)
theorem eqOR {a b : Option Rw} : doEq (dOR a) (dOR b) h P = P (.bl (decide (a = b))) h := doEq_of (da_OR.py h 20 a (by decide)) (da_OR.py h 20 b (by decide)) (bool_dec (da_OR.eq a b)) (fun i _ z => dOR_ni.1 i z.1) (fun i _ z => dOR_ni.2 i z.1)
theorem neOR {a b : Option Rw} : doNe (dOR a) (dOR b) h P = P (.bl (!decide (a = b))) h := doNe_of (da_OR.py h 20 a (by decide)) (da_OR.py h 20 b (by decide)) (bool_dec (da_OR.eq a b)) (fun i _ z => dOR_ni.1 i z.1) (fun i _ z => dOR_ni.2 i z.1)
theorem isN_O {o : Option Nt} : (dO o).isNon = o.isNone := by cases o <;> rfl
theorem isN_OR {o : Option Rw} : (dOR o).isNon = o.isNone := by cases o <;> rfl
end
/-! ### what a map knows -/
abbrev Pl := Int × Int
def pl (r : Rw) : Pl := (r.1, r.2.1)
def kP (p : Pl) : List Key := [.inl p.1, .inl p.2]
def iP (p : Pl) : List Int := [p.1, p.2]
theorem kP_inj {p q : Pl} (e : kP p = kP q) : p = q := by
  unfold kP at e
  injection e with e1 e2
  injection e2 with e2 e3
  exact Prod.ext (Sum.inl.inj e1) (Sum.inl.inj e2)
def kvR (r : Rw) : List Key × D := (kP (pl r), dR r)
def look (l : List Rw) (p : Pl) : Option Rw := l.find? fun r => decide (pl r = p)
theorem look_pl {l : List Rw} {p : Pl} {r : Rw} (e : look l p = some r) : pl r = p ∧ r ∈ l := by
  unfold look at e
  exact ⟨by simpa using List.find?_some e, List.mem_of_find?_eq_some e⟩
theorem look_none {l : List Rw} {p : Pl} (h : p ∉ l.map pl) : look l p = none := by
  unfold look
  rw [List.find?_eq_none]
  intro r hr e
  exact h (List.mem_map.mpr ⟨r, hr, of_decide_eq_true e⟩)
theorem look_isSome {l : List Rw} {p : Pl} (h : p ∈ l.map pl) : ∃ r, look l p = some r := by
  obtain ⟨r, hr, e⟩ := List.mem_map.mp h
  cases z : look l p with
  | some r => exact ⟨r, rfl⟩
  | none =>
    unfold look at z
    rw [List.find?_eq_none] at z
    exact absurd (decide_eq_true e) (z r hr)
theorem look_of {p : Pl} {r : Rw} : ∀ {l : List Rw}, (l.map pl).Nodup → r ∈ l → pl r = p → look l p = some r
  | [], _, m, _ => by cases m
  | q :: l, n, m, e => by
    rw [List.map_cons, List.nodup_cons] at n
    unfold look
    rw [List.find?_cons]
    by_cases z : pl q = p
    · rw [decide_eq_true z]
      rcases List.mem_cons.mp m with m | m
      · rw [m]
      · exact absurd (List.mem_map.mpr ⟨r, m, by rw [e, z]⟩) n.1
    · rw [decide_eq_false z]
      rcases List.mem_cons.mp m with m | m
      · rw [← m] at z; exact absurd e z
      · exact look_of n.2 m e
theorem valD_look {l : List Rw} {p : Pl} : valD (l.map kvR) (kP p) = (look l p).map dR := by
  unfold valD look
  induction l with
  | nil => rfl
  | cons r l ih =>
    rw [List.map_cons, List.find?_cons, List.find?_cons]
    have e : decide ((kvR r).1 = kP p) = decide (pl r = p) := decide_eq_decide.mpr ⟨fun e => kP_inj e, fun e => by show kP (pl r) = _; rw [e]⟩
    rw [e]
    cases decide (pl r = p) with
    | true => rfl
    | false => exact ih
theorem dOR_look {o : Option Rw} : (o.map dR).getD .non = dOR o := by cases o <;> rfl
/-- put a row -/
def putR (l : List Rw) (r : Rw) : List Rw := if pl r ∈ l.map pl then l.map fun q => if pl q = pl r then r else q else l ++ [r]
theorem putM_R {l : List Rw} {r : Rw} : putM (l.map kvR) (kP (pl r)) (dR r) = (putR l r).map kvR := by
  unfold putM putR
  by_cases m : pl r ∈ l.map pl
  · rw [if_pos m, if_pos]
    · rw [List.map_map, List.map_map]
      refine List.map_congr_left fun q _ => ?_
      simp only [Function.comp]
      by_cases e : pl q = pl r
      · rw [if_pos e]
        first
        | rw [if_pos (show (kvR q).1 = kP (pl r) from by show kP (pl q) = _; rw [e])]
        | rw [if_pos (decide_eq_true (show (kvR q).1 = kP (pl r) from by show kP (pl q) = _; rw [e]))]
        first | rfl | (show ((kvR q).1, dR r) = _; show (kP (pl q), dR r) = _; rw [e]; rfl)
      · rw [if_neg e]
        first
        | rw [if_neg (show ¬ (kvR q).1 = kP (pl r) from fun z => e (kP_inj z))]
        | rw [if_neg (by simpa using show ¬ (kvR q).1 = kP (pl r) from fun z => e (kP_inj z))]
    · rw [List.any_eq_true]
      obtain ⟨q, hq, e⟩ := List.mem_map.mp m
      exact ⟨kvR q, List.mem_map.mpr ⟨q, hq, rfl⟩, decide_eq_true (by show kP (pl q) = _; rw [e])⟩
  · rw [if_neg m, if_neg]
    · rw [List.map_append]; rfl
    · rw [List.any_eq_true]
      rintro ⟨q, hq, e⟩
      obtain ⟨z, hz, rfl⟩ := List.mem_map.mp hq
      exact m (List.mem_map.mpr ⟨z, hz, kP_inj (of_decide_eq_true e)⟩)
theorem putR_pl {l : List Rw} {r : Rw} : (putR l r).map pl = if pl r ∈ l.map pl then l.map pl else l.map pl ++ [pl r] := by
  unfold putR
  split
  · rw [List.map_map]
    refine List.map_congr_left fun q _ => ?_
    simp only [Function.comp]
    split
    · rename_i e; exact e.symm
    · rfl
  · rw [List.map_append]; rfl
theorem putR_nd {l : List Rw} {r : Rw} (n : (l.map pl).Nodup) : ((putR l r).map pl).Nodup := by
  rw [putR_pl]
  split
  · exact n
  · rename_i m
    rw [List.nodup_append]
    refine ⟨n, by simp, fun a ha b hb e => ?_⟩
    rw [List.mem_singleton.mp hb] at e
    exact m (e ▸ ha)
theorem look_put {l : List Rw} {r : Rw} {p : Pl} : look (putR l r) p = if pl r = p then some r else look l p := by
  unfold putR
  by_cases m : pl r ∈ l.map pl
  · rw [if_pos m]
    by_cases e : pl r = p
    · rw [if_pos e]
      subst e
      unfold look
      induction l with
      | nil => cases m
      | cons q l ih =>
        rw [List.map_cons, List.find?_cons]
        by_cases z : pl q = pl r
        · rw [if_pos z, decide_eq_true rfl]
        · rw [if_neg z, decide_eq_false z]
          rw [List.map_cons] at m
          rcases List.mem_cons.mp m with m | m
          · exact absurd m.symm z
          · exact ih m
    · rw [if_neg e]
      unfold look
      clear m
      induction l with
      | nil => rfl
      | cons q l ih =>
        rw [List.map_cons, List.find?_cons, List.find?_cons, ih]
        by_cases z : pl q = pl r
        · rw [if_pos z, decide_eq_false e, decide_eq_false (by rw [z]; exact e)]
        · rw [if_neg z]
  · rw [if_neg m]
    unfold look
    rw [List.find?_append]
    by_cases e : pl r = p
    · rw [if_pos e]
      have : l.find? (fun q => decide (pl q = p)) = none := look_none (l := l) (by rw [← e]; exact m)
      rw [this]
      simp [e]
    · rw [if_neg e]
      simp [e]
def jr : Option Rw → Rw → Rw
  | none, r => r
  | some o, r => if o.2.2.1 < r.2.2.1 then r else if r.2.2.1 < o.2.2.1 ∨ o.2.2.2 = none ∨ o.2.2.2 = r.2.2.2 then o else (o.1, o.2.1, o.2.2.1, none)
theorem jr_pl {o : Option Rw} {r : Rw} (h : ∀ q, o = some q → pl q = pl r) : pl (jr o r) = pl r := by
  cases o with
  | none => rfl
  | some q =>
    unfold jr
    simp only
    split
    · rfl
    · split
      · exact h q rfl
      · exact h q rfl
/-- take a row in -/
def tk (l : List Rw) (r : Rw) : List Rw := if some (jr (look l (pl r)) r) = look l (pl r) then l else putR l (jr (look l (pl r)) r)
theorem tk_jpl {l : List Rw} {r : Rw} : pl (jr (look l (pl r)) r) = pl r := jr_pl fun _ e => (look_pl e).1
theorem look_tk {l : List Rw} {r : Rw} {p : Pl} : look (tk l r) p = if pl r = p then some (jr (look l p) r) else look l p := by
  unfold tk
  by_cases e : pl r = p
  · rw [if_pos e]
    subst e
    split
    · rename_i z; exact z.symm
    · rw [look_put, if_pos tk_jpl]
  · rw [if_neg e]
    split
    · rfl
    · rw [look_put, if_neg (by rw [tk_jpl]; exact e)]
theorem tk_nd {l : List Rw} {r : Rw} (n : (l.map pl).Nodup) : ((tk l r).map pl).Nodup := by
  unfold tk
  split
  · exact n
  · exact putR_nd n
theorem tk_sub {l : List Rw} {r : Rw} {Z : List Pl} (n : ∀ p ∈ l.map pl, p ∈ Z) (hr : pl r ∈ Z) : ∀ p ∈ (tk l r).map pl, p ∈ Z := by
  unfold tk
  split
  · exact n
  · rw [putR_pl, tk_jpl]
    split
    · exact n
    · intro p hp
      rcases List.mem_append.mp hp with z | z
      · exact n p z
      · rw [List.mem_singleton.mp z]; exact hr
/-! ### the rows in order -/
def P6 : List Pl := [(1, 11), (1, 12), (2, 11), (2, 12), (3, 11), (3, 12)]
structure Mp (l : List Rw) : Prop where
  nd : (l.map pl).Nodup
  p6 : ∀ p ∈ l.map pl, p ∈ P6
theorem Mp.nil : Mp [] := ⟨List.nodup_nil, fun _ z => by cases z⟩
theorem Mp.tkM {l : List Rw} {r : Rw} (m : Mp l) (hr : pl r ∈ P6) : Mp (tk l r) := ⟨tk_nd m.nd, tk_sub m.p6 hr⟩
theorem P6_nd : P6.Nodup := by decide
theorem Mp.len {l : List Rw} (m : Mp l) : l.length ≤ 6 := by
  have := List.Nodup.length_le_of_subset m.nd fun p hp => m.p6 p hp
  simpa [P6] using this
def al (l : List Rw) : List Rw := P6.filterMap (look l)
theorem al_mem {l : List Rw} {r : Rw} (m : Mp l) : r ∈ al l ↔ r ∈ l := by
  unfold al
  rw [List.mem_filterMap]
  constructor
  · rintro ⟨p, _, e⟩; exact (look_pl e).2
  · intro h
    exact ⟨pl r, m.p6 _ (List.mem_map.mpr ⟨r, h, rfl⟩), look_of m.nd h rfl⟩
theorem al_pl {l : List Rw} : (al l).map pl = P6.filter fun p => (look l p).isSome := by
  unfold al
  generalize P6 = Z
  induction Z with
  | nil => rfl
  | cons p Z ih =>
    rw [List.filterMap_cons, List.filter_cons]
    cases e : look l p with
    | none => simpa using ih
    | some r => simp [ih, (look_pl e).1]
theorem al_nd {l : List Rw} : ((al l).map pl).Nodup := by
  rw [al_pl]
  exact List.Nodup.sublist List.filter_sublist P6_nd
theorem al_Mp {l : List Rw} : Mp (al l) := ⟨al_nd, fun p hp => by rw [al_pl] at hp; exact (List.mem_filter.mp hp).1⟩
theorem look_al {l : List Rw} {p : Pl} (m : Mp l) : look (al l) p = look l p := by
  cases e : look l p with
  | some r => exact look_of al_nd ((al_mem m).mpr (look_pl e).2) (look_pl e).1
  | none =>
    refine look_none fun z => ?_
    obtain ⟨r, hr, e2⟩ := List.mem_map.mp z
    have := look_of m.nd ((al_mem m).mp hr) e2
    rw [e] at this; cases this
theorem al_len {l : List Rw} : (al l).length ≤ 6 := al_Mp.len
theorem al_congr {l l' : List Rw} (h : ∀ p, look l p = look l' p) : al l = al l' := by unfold al; rw [funext h]
section
variable {h : DH} {P : KD} {R : KX} {m d : Addr} {l : List Rw}
theorem codeP : ∀ p ∈ P6, ∀ q ∈ P6, TS.code 64 (iP p) ≤ TS.code 64 (iP q) → TS.code 64 (iP q) ≤ TS.code 64 (iP p) → p = q := by
  unfold iP
  decide
theorem sort_eq (M : Mp l) {ys : List (List Int)} (p : ys.Perm (l.map fun r => iP (pl r))) (w : ys.Pairwise fun x y => TS.code 64 x ≤ TS.code 64 y) : ys = (al l).map fun r => iP (pl r) := by
  have e1 : (al l).map (fun r => iP (pl r)) = ((al l).map pl).map iP := by rw [List.map_map]; rfl
  have e2 : l.map (fun r => iP (pl r)) = (l.map pl).map iP := by rw [List.map_map]; rfl
  have pp : (l.map pl).Perm ((al l).map pl) := by
    rw [List.perm_ext_iff_of_nodup M.nd al_nd]
    intro p
    constructor
    · intro z
      obtain ⟨r, hr, e⟩ := List.mem_map.mp z
      exact List.mem_map.mpr ⟨r, (al_mem M).mpr hr, e⟩
    · intro z
      obtain ⟨r, hr, e⟩ := List.mem_map.mp z
      exact List.mem_map.mpr ⟨r, (al_mem M).mp hr, e⟩
  rw [e1]
  rw [e2] at p
  refine List.Perm.eq_of_pairwise (le := fun x y => TS.code 64 x ≤ TS.code 64 y) (fun a b ha hb u v => ?_) w ?_ (p.trans (pp.map iP))
  · obtain ⟨x, hx, rfl⟩ := List.mem_map.mp (p.mem_iff.mp ha)
    obtain ⟨y, hy, rfl⟩ := List.mem_map.mp hb
    rw [codeP _ (M.p6 _ hx) _ (al_Mp.p6 _ hy) u v]
  · rw [List.pairwise_map, al_pl]
    refine List.Pairwise.sublist List.filter_sublist ?_
    unfold P6 iP
    decide
theorem keys_i {p : Pl} : kP p = (iP p).map Sum.inl := rfl
theorem kv_keysR : (l.map kvR).map (·.1) = (l.map fun r => iP (pl r)).map (List.map Sum.inl) := by
  rw [List.map_map, List.map_map]; rfl
theorem all_spec (hm : h m = some (.ins 2 [.ref d])) (hd : h d = some (.dT (l.map kvR))) (M : Mp l) (ok : kNew ((al l).map dR) P h) : sp_Map_all_rows [.ref m] h P R := by
  unfold sp_Map_all_rows t_Map_all_rows
  walk_at "au"
  refine go_sortT hd (l.map fun r => iP (pl r)) 2 64 kv_keysR (by rw [List.length_map]; have := M.len; omega) (by decide) (fun k hk => ?_) fun ys y1 y2 => ?_
  · obtain ⟨r, hr, rfl⟩ := List.mem_map.mp hk
    have := M.p6 _ (List.mem_map.mpr ⟨r, hr, rfl⟩)
    refine ⟨rfl, ?_⟩
    revert this
    generalize pl r = q
    unfold iP TS.Bd
    revert q
    decide
  · have e := sort_eq M y1 y2
    subst e
    refine go_new fun p h1 hp S hpl => ?_
    rw [List.map_map] at hpl
    walk_at "au"
    refine go_lcM (fun d => ((d.tkey?).bind (valD (l.map kvR))).getD .non) (by rw [List.length_map]; exact le1000 (by have := @al_len l; omega)) (fun L acc hL => up_at hpl hL) (fun L acc dd X hL hdd h3 hX => ?_) ?_
    · obtain ⟨r, hr, rfl⟩ := List.mem_map.mp hdd
      have lk : look l (pl r) = some r := by
        have := look_of (l := al l) al_nd hr rfl
        rw [look_al M] at this; exact this
      have ev : valD (l.map kvR) (kP (pl r)) = some (dR r) := by rw [valD_look, lk]; rfl
      have e : (((D.tup ((iP (pl r)).map D.int)).tkey?).bind (valD (l.map kvR))).getD .non = dR r := by
        show (valD (l.map kvR) (kP (pl r))).getD .non = _
        rw [ev]; rfl
      simp only [Function.comp] at hX
      rw [e] at hX
      simp only [Function.comp]
      walk_at "au"
      refine go_ixDT (k := kP (pl r)) (show up h1 L (.lst acc) d = some (.dT (l.map kvR)) by walk_at "at") rfl ev ?_
      walk_at "au"
      exact hX
    · have e : (((al l).map ((fun k => D.tup (k.map D.int)) ∘ fun r => iP (pl r))).map fun d => ((d.tkey?).bind (valD (l.map kvR))).getD .non) = (al l).map dR := by
        rw [List.map_map]
        refine List.map_congr_left fun r hr => ?_
        have lk : look l (pl r) = some r := by
          have := look_of (l := al l) al_nd hr rfl
          rw [look_al M] at this; exact this
        show (valD (l.map kvR) (kP (pl r))).getD .non = _
        rw [valD_look, lk]; rfl
      rw [List.map_map] at e ⊢
      rw [e]
      exact new_k ok S
theorem jr_spec {o : Option Rw} {r : Rw} (ok : P (dR (jr o r)) h) : sp_joined_row [dOR o, dR r] h P R := by
  unfold sp_joined_row t_joined_row
  cases o with
  | none =>
    walk_at "au"
    exact fgt ok
  | some o =>
    obtain ⟨o1, o2, o3, o4⟩ := o
    obtain ⟨r1, r2, r3, r4⟩ := r
    unfold dOR dR at *
    unfold jr at ok
    simp only at ok
    walk_at "au"
    walk_at "br"
    split
    · rename_i z
      rw [if_pos z] at ok
      walk_at "au"
      exact fgt ok
    rename_i z
    rw [if_neg z] at ok
    walk_at "au"
    rw [isN_O, eqO]
    walk_at "au"
    walk_at "br"
    have y : r3 < o3 ∨ o4 = none ∨ o4 = r4 → P (.tup [.int o1, .int o2, .int o3, dO o4]) h := fun w => by rw [if_pos w] at ok; exact ok
    have n : ¬ (r3 < o3 ∨ o4 = none ∨ o4 = r4) → P (.tup [.int o1, .int o2, .int o3, dO none]) h := fun w => by rw [if_neg w] at ok; exact ok
    split
    · rename_i z
      exact fgt (y (.inl z))
    rename_i z1
    split
    · rename_i z
      exact fgt (y (.inr (.inl (by simpa using z))))
    rename_i z2
    walk_at "au"
    split
    · rename_i z
      walk_at "au"
      exact fgt (y (.inr (.inr z)))
    rename_i z3
    walk_at "au"
    exact fgt (n (by rintro (w | w | w); exact z1 w; exact z2 (by simp [w]); exact z3 w))
theorem take_spec {r : Rw} (hm : h m = some (.ins 2 [.ref d])) (hd : h d = some (.dT (l.map kvR))) (M : Mp l) (hr : pl r ∈ P6) (ok : P (.bl (decide (look (tk l r) (pl r) ≠ look l (pl r)))) (up h d (.dT ((tk l r).map kvR)))) : sp_Map_take [.ref m, dR r] h P R := by
  have hk : (D.tup [.int r.1, .int r.2.1]).tkey? = some (kP (pl r)) := rfl
  unfold sp_Map_take t_Map_take
  have er : dR r = .tup [.int r.1, .int r.2.1, .int r.2.2.1, dO r.2.2.2] := rfl
  rw [er]
  walk_at "au"
  refine go_getT1 hd hk ?_
  rw [valD_look, dOR_look]
  walk_at "au"
  rw [← er]
  refine jr_spec ?_
  walk_at "au"
  rw [show ∀ x, dR x = dOR (some x) from fun _ => rfl, eqOR]
  walk_at "au"
  rw [look_tk, if_pos rfl] at ok
  unfold tk at ok
  walk_at "br"
  split
  · rename_i z
    rw [if_pos z, up_id hd, decide_eq_false (by rw [z]; exact fun w => w rfl)] at ok
    walk_at "au"
    exact fgt ok
  · rename_i z
    rw [if_neg z, decide_eq_true z] at ok
    walk_at "au"
    refine go_setT hd hk (by rw [List.length_map]; exact small1000 (by have := M.len; omega)) ?_
    show kNx _ _ _ (up h d (.dT (putM (l.map kvR) (kP (pl r)) (dR (jr (look l (pl r)) r)))))
    have e := putM_R (l := l) (r := jr (look l (pl r)) r)
    rw [tk_jpl] at e
    rw [e]
    walk_at "au"
    exact fgt ok
end
section
variable {h : DH} {P : KD} {R : KX} {m d m2 d2 : Addr} {l l2 : List Rw}
theorem map_spec (ok : ∀ m d H, h m = none → h d = none → Sub h H → H m = some (.ins 2 [.ref d]) → H d = some (.dT []) → P (.ref m) H) : sp_Map [] h P R := by
  unfold sp_Map mkSp
  intro m hm
  unfold sp_Map__d_init_d_ t_Map__d_init_d_
  walk_at "au"
  refine go_dictTE fun d hd => ?_
  walk_at "au"
  obtain ⟨n, hd'⟩ := up_none hd
  refine fgt ⟨rfl, ok m d _ hm hd' ?_ up_same (by rw [up_ne n]; exact up_same)⟩
  exact Sub.over (Sub.trans (Sub.new hm) (Sub.new hd)) hm
theorem hash6 : ∀ p ∈ P6, ∀ q ∈ P6, ihash (iP p) = ihash (iP q) → p = q := by
  unfold iP
  decide +kernel
theorem hash_nd (M : Mp l) : ((l.map fun r => iP (pl r)).map ihash).Nodup := by
  have n := M.nd
  have p := M.p6
  rw [show (l.map fun r => iP (pl r)).map ihash = (l.map pl).map fun p => ihash (iP p) by rw [List.map_map, List.map_map]; rfl]
  generalize l.map pl = ps at n p
  unfold List.Nodup at n ⊢
  rw [List.pairwise_map]
  refine List.Pairwise.imp_of_mem (fun {a b} ha hb ne e => ne (hash6 _ (p a ha) _ (p b hb) e)) n
theorem copy_spec (hm : h m = some (.ins 2 [.ref d])) (hd : h d = some (.dT (l.map kvR))) (M : Mp l)
    (ok : ∀ m2 d2 H, h m2 = none → h d2 = none → Sub h H → H m2 = some (.ins 2 [.ref d2]) → H d2 = some (.dT (l.map kvR)) → P (.ref m2) H) : sp_copy_map [.ref m] h P R := by
  unfold sp_copy_map t_copy_map
  walk_at "au"
  refine map_spec fun m2 d0 h1 f1 f2 S1 e1 e2 => ?_
  walk_at "au"
  refine go_dictTc (S1 _ _ hd) (l.map fun r => iP (pl r)) kv_keysR (hash_nd M) fun d2 f3 => ?_
  walk_at "au"
  have S2 : Sub h (up (up h1 d2 (.dT (l.map kvR))) m2 (.ins 2 [.ref d2])) := Sub.over (Sub.trans S1 (Sub.new f3)) f1
  have n := ne_new e1 f3
  exact fgt (ok m2 d2 _ f1 (sub_none S1 f3) S2 up_same (by rw [up_ne (Ne.symm n)]; exact up_same))
/-- a loop of takes -/
theorem takes {E : DEnds} {i j : Nat} {still : DH → Prop} (hij : i ≠ j) : ∀ (rows : List Rw) (l : List Rw) (e : DSt) (h : DH), i < e.length → e[j]? = some (some (.ref m)) → h m = some (.ins 2 [.ref d]) → h d = some (.dT (l.map kvR)) → Mp l → (∀ r ∈ rows, pl r ∈ P6) → (∀ k, still (up h d (.dT k))) →
    (∀ x, E.nx (e.set i x) (up h d (.dT ((rows.foldl tk l).map kvR)))) → forS still (gN i) (sDrop (cMeth (cVar j) [(2, sp_Map_take)] (cCons (cVar i) cNil))) (rows.map dR) E e h
  | [], l, e, h, hi, hj, hm, hd, M, hp, st, ok => by
    refine ⟨?_, ?_⟩
    · have := st (l.map kvR); rw [up_id hd] at this; exact this
    · have := ok e[i]
      rw [List.foldl_nil, up_id hd, List.set_getElem_self] at this
      exact this
  | r :: rows, l, e, h, hi, hj, hm, hd, M, hp, st, ok => by
    have lkj : lk (e.set i (some (dR r))) j = some (.ref m) := by rw [lk_get, List.getElem?_set_ne hij, hj]; rfl
    have lki : lk (e.set i (some (dR r))) i = some (dR r) := by rw [lk_get, List.getElem?_set_self hi]; rfl
    refine ⟨?_, ?_⟩
    · have := st (l.map kvR); rw [up_id hd] at this; exact this
    · simp only [w_gN, w_drop, w_meth1, w_cons, w_nil, w_var, lkj, lki]
      refine go_meth hm ?_
      simp only [w_cons, w_nil, w_var, lki]
      refine take_spec hm hd M (hp r (List.mem_cons_self ..)) ?_
      refine takes hij rows (tk l r) _ _ (by rw [List.length_set]; exact hi) (by rw [List.getElem?_set_ne hij]; exact hj) (up_ins hm hd) up_same (M.tkM (hp r (List.mem_cons_self ..))) (fun q hq => hp q (List.mem_cons_of_mem _ hq)) (fun k => by rw [up_up]; exact st k) fun x => ?_
      rw [up_up, List.set_set]
      exact ok x
end
/-! ### what a meeting leaves -/
def stp (p : Pl) (o : Option Rw) (r : Rw) : Option Rw := if pl r = p then some (jr o r) else o
theorem look_fold {p : Pl} : ∀ {rows l : List Rw}, look (rows.foldl tk l) p = rows.foldl (stp p) (look l p)
  | [], l => rfl
  | r :: rows, l => by
    rw [List.foldl_cons, List.foldl_cons, look_fold, look_tk]; rfl
theorem Mp.fold : ∀ {rows l : List Rw}, Mp l → (∀ r ∈ rows, pl r ∈ P6) → Mp (rows.foldl tk l)
  | [], l, M, _ => M
  | r :: rows, l, M, h => (M.tkM (h r (List.mem_cons_self ..))).fold fun q hq => h q (List.mem_cons_of_mem _ hq)
/-- rows of different places -/
theorem fold_nd {p : Pl} : ∀ {rows : List Rw} {o : Option Rw}, (rows.map pl).Nodup → rows.foldl (stp p) o = match look rows p with
    | none => o
    | some r => some (jr o r)
  | [], o, _ => rfl
  | r :: rows, o, n => by
    rw [List.map_cons, List.nodup_cons] at n
    rw [List.foldl_cons, fold_nd n.2]
    unfold stp look
    rw [List.find?_cons]
    by_cases e : pl r = p
    · rw [if_pos e, decide_eq_true e]
      have : rows.find? (fun q => decide (pl q = p)) = none := look_none (l := rows) (by rw [← e]; exact n.1)
      rw [this]
    · rw [if_neg e, decide_eq_false e]
/-! ### the order of rows -/
def Le (a b : Option Rw) : Prop := ∀ r, a = some r → ∃ o, b = some o ∧ pl r = pl o ∧ (r.2.2.1 < o.2.2.1 ∨ r.2.2.1 = o.2.2.1 ∧ (o.2.2.2 = none ∨ o.2.2.2 = r.2.2.2))
theorem Le.refl {a : Option Rw} : Le a a := fun r e => ⟨r, e, rfl, .inr ⟨rfl, .inr rfl⟩⟩
theorem Le.nil {b : Option Rw} : Le none b := fun _ e => by cases e
theorem Le.trans {a b c : Option Rw} (x : Le a b) (y : Le b c) : Le a c := fun r e => by
  obtain ⟨o, e2, p1, z⟩ := x r e
  obtain ⟨u, e3, p2, w⟩ := y o e2
  refine ⟨u, e3, p1.trans p2, ?_⟩
  rcases z with z | ⟨z1, z2⟩
  · rcases w with w | ⟨w1, w2⟩
    · exact .inl (by omega)
    · exact .inl (by omega)
  · rcases w with w | ⟨w1, w2⟩
    · exact .inl (by omega)
    · refine .inr ⟨by omega, ?_⟩
      rcases w2 with w2 | w2
      · exact .inl w2
      · rw [w2]; exact z2
theorem Le.anti {a b : Option Rw} (x : Le a b) (y : Le b a) : a = b := by
  cases a with
  | none =>
    cases b with
    | none => rfl
    | some o => obtain ⟨u, e, _⟩ := y o rfl; cases e
  | some r =>
    obtain ⟨o, rfl, p1, z⟩ := x r rfl
    obtain ⟨u, e, p2, w⟩ := y o rfl
    cases e
    obtain ⟨r1, r2, r3, r4⟩ := r
    obtain ⟨o1, o2, o3, o4⟩ := o
    unfold pl at p1
    simp only [Prod.mk.injEq] at *
    obtain ⟨rfl, rfl⟩ := p1
    have h3 : r3 = o3 := by omega
    subst h3
    have h4 : r4 = o4 := by
      rcases z with z | ⟨_, z⟩
      · omega
      rcases w with w | ⟨_, w⟩
      · omega
      rcases z with z | z
      · rcases w with w | w
        · rw [z, w]
        · exact w
      · exact z.symm
    rw [h4]
theorem jr_lub {o : Option Rw} {r : Rw} {c : Option Rw} (x : Le o c) (y : Le (some r) c) : Le (some (jr o r)) c := by
  cases o with
  | none => exact y
  | some o =>
    unfold jr
    simp only
    split
    · exact y
    · split
      · exact x
      · rename_i n1 n2
        obtain ⟨u, rfl, p1, z⟩ := x o rfl
        obtain ⟨u', e, p2, w⟩ := y r rfl
        cases e
        intro q e
        cases e
        refine ⟨u, rfl, p1, ?_⟩
        have d1 : ¬ r.2.2.1 < o.2.2.1 := fun z => n2 (.inl z)
        have d3 : ¬ o.2.2.2 = r.2.2.2 := fun z => n2 (.inr (.inr z))
        show o.2.2.1 < u.2.2.1 ∨ o.2.2.1 = u.2.2.1 ∧ (u.2.2.2 = none ∨ u.2.2.2 = none)
        rcases z with z | ⟨z1, z2⟩
        · exact .inl z
        · rcases w with w | ⟨w1, w2⟩
          · omega
          · rcases z2 with z2 | z2
            · exact .inr ⟨z1, .inl z2⟩
            · rcases w2 with w2 | w2
              · exact .inr ⟨z1, .inl w2⟩
              · exact absurd (z2.symm.trans w2) d3
theorem jr_le {o : Option Rw} {r : Rw} (h : ∀ q, o = some q → pl q = pl r) : Le o (some (jr o r)) ∧ Le (some r) (some (jr o r)) := by
  cases o with
  | none => exact ⟨Le.nil, Le.refl⟩
  | some o =>
    have hp := h o rfl
    unfold jr
    simp only
    split
    · rename_i z
      exact ⟨fun q e => by cases e; exact ⟨r, rfl, hp, .inl z⟩, Le.refl⟩
    · rename_i n1
      split
      · rename_i n2
        refine ⟨Le.refl, fun q e => ?_⟩
        cases e
        refine ⟨o, rfl, hp.symm, ?_⟩
        by_cases z : r.2.2.1 < o.2.2.1
        · exact .inl z
        · refine .inr ⟨by omega, ?_⟩
          rcases n2 with n2 | n2 | n2
          · exact absurd n2 z
          · exact .inl n2
          · exact .inr n2
      · rename_i n2
        have d1 : ¬ r.2.2.1 < o.2.2.1 := fun z => n2 (.inl z)
        refine ⟨fun q e => ?_, fun q e => ?_⟩
        · cases e; exact ⟨_, rfl, rfl, .inr ⟨rfl, .inl rfl⟩⟩
        · cases e; exact ⟨_, rfl, hp.symm, .inr ⟨by show r.2.2.1 = o.2.2.1; omega, .inl rfl⟩⟩
def LM (l m : List Rw) : Prop := ∀ p, Le (look l p) (look m p)
def LR (r : Rw) (l : List Rw) : Prop := Le (some r) (look l (pl r))
theorem LM.refl {l : List Rw} : LM l l := fun _ => Le.refl
theorem LM.nil {l : List Rw} : LM [] l := fun _ => Le.nil
theorem LM.trans {a b c : List Rw} (x : LM a b) (y : LM b c) : LM a c := fun p => (x p).trans (y p)
theorem LR.mono {r : Rw} {a b : List Rw} (x : LR r a) (y : LM a b) : LR r b := Le.trans x (y _)
theorem LM.same {a b : List Rw} (x : LM a b) (y : LM b a) : al a = al b := al_congr fun p => (x p).anti (y p)
theorem LM.tk {l : List Rw} {r : Rw} : LM l (tk l r) := fun p => by
  rw [look_tk]
  by_cases e : pl r = p
  · rw [if_pos e]
    subst e
    exact (jr_le fun q e => (look_pl e).1).1
  · rw [if_neg e]; exact Le.refl
theorem LR.tk {l : List Rw} {r : Rw} : LR r (tk l r) := by
  unfold LR
  rw [look_tk, if_pos rfl]
  exact (jr_le fun q e => (look_pl e).1).2
theorem tk_lub {l c : List Rw} {r : Rw} (x : LM l c) (y : LR r c) : LM (tk l r) c := fun p => by
  rw [look_tk]
  by_cases e : pl r = p
  · rw [if_pos e]
    subst e
    exact jr_lub (x _) y
  · rw [if_neg e]; exact x p
theorem jr_same {o : Option Rw} {r : Rw} (h : Le (some r) o) : some (jr o r) = o := by
  obtain ⟨u, rfl, p, z⟩ := h r rfl
  unfold jr
  simp only
  rcases z with z | ⟨z1, z2⟩
  · rw [if_neg (by omega), if_pos (.inl z)]
  · rw [if_neg (by omega), if_pos (.inr z2)]
theorem tk_same {l : List Rw} {r : Rw} (h : LR r l) : tk l r = l := by
  show (if some (jr (look l (pl r)) r) = look l (pl r) then l else _) = l
  rw [if_pos (jr_same h)]
/-- the row is known -/
def kn (l : List Rw) (r : Rw) : Bool := decide (look (tk l r) (pl r) = look l (pl r))
theorem kn_iff {l : List Rw} {r : Rw} : kn l r = true ↔ LR r l := by
  unfold kn
  rw [decide_eq_true_iff]
  constructor
  · intro e
    have := LR.tk (l := l) (r := r)
    unfold LR at this ⊢
    rw [e] at this
    exact this
  · intro h
    rw [tk_same h]
theorem fold_lub {c : List Rw} : ∀ {rows l : List Rw}, (∀ r ∈ rows, LR r c) → LM l c → LM (rows.foldl tk l) c
  | [], l, _, x => x
  | r :: rows, l, h, x => fold_lub (rows := rows) (fun q hq => h q (List.mem_cons_of_mem _ hq)) (tk_lub x (h r (List.mem_cons_self ..)))
theorem fold_ge : ∀ {rows l : List Rw}, LM l (rows.foldl tk l)
  | [], _ => LM.refl
  | _ :: _, _ => LM.tk.trans fold_ge
theorem fold_has : ∀ {rows l : List Rw}, ∀ r ∈ rows, LR r (rows.foldl tk l)
  | [], _, _, m => by cases m
  | q :: rows, l, r, m => by
    rcases List.mem_cons.mp m with rfl | m
    · exact LR.tk.mono fold_ge
    · exact fold_has (rows := rows) r m
theorem LM.al {l : List Rw} (M : Mp l) : LM l (al l) ∧ LM (al l) l := ⟨fun p => by rw [look_al M]; exact Le.refl, fun p => by rw [look_al M]; exact Le.refl⟩
theorem LR.mem {l : List Rw} {r : Rw} (M : Mp l) (h : r ∈ l) : LR r l := by
  unfold LR
  rw [look_of M.nd h rfl]
  exact Le.refl
/-! ### rows that a map gets -/
theorem tk_all {Q : Rw → Prop} {l : List Rw} {r : Rw} (h : ∀ q ∈ l, Q q) (hj : Q (jr (look l (pl r)) r)) : ∀ q ∈ tk l r, Q q := by
  unfold tk
  split
  · exact h
  · unfold putR
    split
    · intro q hq
      obtain ⟨z, hz, rfl⟩ := List.mem_map.mp hq
      split
      · exact hj
      · exact h z hz
    · intro q hq
      rcases List.mem_append.mp hq with z | z
      · exact h q z
      · rw [List.mem_singleton.mp z]; exact hj
theorem jr_all {Q : Rw → Prop} {l : List Rw} {r : Rw} (h : ∀ q ∈ l, Q q) (hr : Q r) (hd : ∀ q, Q q → Q (q.1, q.2.1, q.2.2.1, none)) : Q (jr (look l (pl r)) r) := by
  cases e : look l (pl r) with
  | none => exact hr
  | some o =>
    have ho := h o (look_pl e).2
    unfold jr
    simp only
    split
    · exact hr
    · split
      · exact ho
      · exact hd o ho
/-! ### what the law reckons -/
structure Gr (r : Rw) : Prop where
  p6 : pl r ∈ P6
  ed : 0 ≤ r.2.2.1
  mo : ∀ w, r.2.2.2 = some w → 0 ≤ w.2.2.2.2.2
def rat (rows : List Rw) (p : Pl) : List Rw := rows.filter fun r => decide (pl r = p)
def stpE (b : Int) (r : Rw) : Int := if b < r.2.2.1 then r.2.2.1 else b
def lat (rows : List Rw) (p : Pl) : Int := (rat rows p).foldl stpE (-1)
def hrd (rows : List Rw) (p : Pl) : List (Option Nt) := ((rat rows p).filter fun r => decide (r.2.2.1 = lat rows p)).map (·.2.2.2)
def odd (hs : List (Option Nt)) (o : Option Nt) : Bool := o.isNone || decide (o ≠ (hs.head?).getD none)
def stS (rows : List Rw) (p : Pl) : Option Rw :=
  if lat rows p < 0 then none else if (hrd rows p).any (odd (hrd rows p)) = true then some (p.1, p.2, lat rows p, none) else some (p.1, p.2, lat rows p, ((hrd rows p).head?).getD none)
theorem lat_ge : ∀ (l : List Rw) (b : Int), b ≤ l.foldl stpE b ∧ (∀ r ∈ l, r.2.2.1 ≤ l.foldl stpE b) ∧ (l.foldl stpE b = b ∨ ∃ r ∈ l, r.2.2.1 = l.foldl stpE b)
  | [], b => ⟨Int.le_refl _, (fun _ z => by cases z), .inl rfl⟩
  | r :: l, b => by
    obtain ⟨h1, h2, h3⟩ := lat_ge l (stpE b r)
    have s1 : b ≤ stpE b r := by unfold stpE; split <;> omega
    have s2 : r.2.2.1 ≤ stpE b r := by unfold stpE; split <;> omega
    have s3 : stpE b r = b ∨ stpE b r = r.2.2.1 := by
      unfold stpE
      split
      · exact .inr rfl
      · exact .inl rfl
    rw [List.foldl_cons]
    refine ⟨by omega, fun q hq => ?_, ?_⟩
    · rcases List.mem_cons.mp hq with rfl | hq
      · omega
      · exact h2 q hq
    · rcases h3 with h3 | ⟨q, hq, e⟩
      · rcases s3 with s3 | s3
        · exact .inl (h3.trans s3)
        · exact .inr ⟨r, List.mem_cons_self .., by rw [h3, s3]⟩
      · exact .inr ⟨q, List.mem_cons_of_mem _ hq, e⟩
theorem mem_rat {rows : List Rw} {p : Pl} {r : Rw} : r ∈ rat rows p ↔ r ∈ rows ∧ pl r = p := by
  unfold rat
  rw [List.mem_filter, decide_eq_true_iff]
theorem mem_hrd {rows : List Rw} {p : Pl} {o : Option Nt} : o ∈ hrd rows p ↔ ∃ r ∈ rows, pl r = p ∧ r.2.2.1 = lat rows p ∧ r.2.2.2 = o := by
  unfold hrd
  rw [List.mem_map]
  constructor
  · rintro ⟨r, hr, e⟩
    obtain ⟨h1, h2⟩ := List.mem_filter.mp hr
    exact ⟨r, (mem_rat.mp h1).1, (mem_rat.mp h1).2, of_decide_eq_true h2, e⟩
  · rintro ⟨r, h1, h2, h3, e⟩
    exact ⟨r, List.mem_filter.mpr ⟨mem_rat.mpr ⟨h1, h2⟩, decide_eq_true h3⟩, e⟩
theorem head_hrd {rows : List Rw} {p : Pl} {o : Option Nt} (h : o ∈ hrd rows p) : ∃ q, (hrd rows p).head? = some q ∧ q ∈ hrd rows p := by
  cases e : hrd rows p with
  | nil => rw [e] at h; cases h
  | cons q l => exact ⟨q, rfl, List.mem_cons_self ..⟩
/-- above all rows of the place -/
theorem st_up {rows : List Rw} {p : Pl} {r : Rw} (hr : r ∈ rows) (e : pl r = p) (h0 : 0 ≤ r.2.2.1) : Le (some r) (stS rows p) := by
  obtain ⟨_, h2, _⟩ := lat_ge (rat rows p) (-1)
  have h := h2 r (mem_rat.mpr ⟨hr, e⟩)
  have h : r.2.2.1 ≤ lat rows p := h
  unfold stS
  rw [if_neg (by omega)]
  intro q hq
  cases hq
  by_cases c : r.2.2.1 = lat rows p
  · have m : r.2.2.2 ∈ hrd rows p := mem_hrd.mpr ⟨r, hr, e, c, rfl⟩
    split
    · exact ⟨_, rfl, e, .inr ⟨c, .inl rfl⟩⟩
    · rename_i n
      refine ⟨_, rfl, e, .inr ⟨c, .inr ?_⟩⟩
      have z : odd (hrd rows p) r.2.2.2 = false := by
        cases z : odd (hrd rows p) r.2.2.2 with
        | false => rfl
        | true => exact absurd (List.any_eq_true.mpr ⟨_, m, z⟩) n
      unfold odd at z
      rw [Bool.or_eq_false_iff, decide_eq_false_iff_not] at z
      exact (Classical.not_not.mp z.2).symm
  · split
    · exact ⟨_, rfl, e, .inl (by show r.2.2.1 < lat rows p; omega)⟩
    · exact ⟨_, rfl, e, .inl (by show r.2.2.1 < lat rows p; omega)⟩
/-- the least such -/
theorem st_lub {rows : List Rw} {p : Pl} {u : Option Rw} (h : ∀ r ∈ rows, pl r = p → Le (some r) u) : Le (stS rows p) u := by
  unfold stS
  by_cases c : lat rows p < 0
  · rw [if_pos c]; exact Le.nil
  rw [if_neg c]
  obtain ⟨_, _, h3⟩ := lat_ge (rat rows p) (-1)
  have h3 : lat rows p = -1 ∨ ∃ r ∈ rat rows p, r.2.2.1 = lat rows p := h3
  rcases h3 with h3 | ⟨r0, hr0, e0⟩
  · omega
  obtain ⟨m1, m2⟩ := mem_rat.mp hr0
  have hm : r0.2.2.2 ∈ hrd rows p := mem_hrd.mpr ⟨r0, m1, m2, e0, rfl⟩
  obtain ⟨q, eq, mq⟩ := head_hrd hm
  obtain ⟨rh, h1, h2, h4, h5⟩ := mem_hrd.mp mq
  obtain ⟨u0, rfl, p1, z1⟩ := h rh h1 h2 rh rfl
  have pu : (p.1, p.2) = pl u0 := by rw [← p1, h2]
  rw [eq]
  have low : lat rows p < u0.2.2.1 → ∀ o, Le (some ((p.1, p.2, lat rows p, o) : Rw)) (some u0) := fun l o r e => by
    cases e
    exact ⟨u0, rfl, pu, .inl l⟩
  rcases z1 with z1 | ⟨z1, z2⟩
  · split
    · exact low (by omega) _
    · exact low (by omega) _
  · split
    · rename_i a
      obtain ⟨o, ho, oo⟩ := List.any_eq_true.mp a
      obtain ⟨r1, k1, k2, k3, k4⟩ := mem_hrd.mp ho
      obtain ⟨u1, e1, _, w1⟩ := h r1 k1 k2 r1 rfl
      cases e1
      intro r e
      cases e
      refine ⟨u0, rfl, pu, .inr ⟨by show lat rows p = _; omega, .inl ?_⟩⟩
      unfold odd at oo
      rw [eq, Bool.or_eq_true, decide_eq_true_eq] at oo
      rcases w1 with w1 | ⟨_, w2⟩
      · omega
      · rcases w2 with w2 | w2
        · exact w2
        · rcases oo with oo | oo
          · rw [w2, k4]
            exact Option.isNone_iff_eq_none.mp oo
          · rcases z2 with z2 | z2
            · exact z2
            · exact absurd (show o = q by rw [← k4, ← w2, z2, h5]) oo
    · intro r e
      cases e
      refine ⟨u0, rfl, pu, .inr ⟨by show lat rows p = _; omega, ?_⟩⟩
      show u0.2.2.2 = none ∨ u0.2.2.2 = q
      rw [← h5]; exact z2
/-- a map that knows these rows -/
structure Kn (l rows : List Rw) : Prop where
  mp : Mp l
  lk : ∀ p, look l p = stS rows p
theorem fold_le {p : Pl} {u : Option Rw} : ∀ {rows : List Rw} {acc : Option Rw}, Le acc u → (∀ r ∈ rows, pl r = p → Le (some r) u) → Le (rows.foldl (stp p) acc) u
  | [], _, x, _ => x
  | r :: rows, acc, x, h => by
    rw [List.foldl_cons]
    refine fold_le (rows := rows) ?_ fun q hq => h q (List.mem_cons_of_mem _ hq)
    unfold stp
    by_cases e : pl r = p
    · rw [if_pos e]; exact jr_lub x (h r (List.mem_cons_self ..) e)
    · rw [if_neg e]; exact x
theorem Kn.of {l rows : List Rw} (mp : Mp l) (g : ∀ r ∈ rows, Gr r) (h1 : ∀ r ∈ rows, LR r l) (h2 : ∀ p u, (∀ r ∈ rows, pl r = p → Le (some r) u) → Le (look l p) u) : Kn l rows := by
  refine ⟨mp, fun p => Le.anti (h2 p _ fun r hr e => st_up hr e (g r hr).ed) (st_lub fun r hr e => ?_)⟩
  have := h1 r hr
  unfold LR at this
  rw [e] at this
  exact this
theorem Kn.fold {rows : List Rw} (g : ∀ r ∈ rows, Gr r) : Kn (rows.foldl tk []) rows :=
  Kn.of (Mp.nil.fold fun r hr => (g r hr).p6) g (fun r hr => fold_has r hr) fun p u h => by
    rw [look_fold]
    exact fold_le Le.nil h
theorem Kn.nil : Kn [] [] := ⟨Mp.nil, fun _ => rfl⟩
/-- it takes in more -/
theorem Kn.more {l rows more : List Rw} (k : Kn l rows) (g : ∀ r ∈ rows, Gr r) (gm : ∀ r ∈ more, Gr r) : Kn (more.foldl tk l) (rows ++ more) := by
  have gg : ∀ r ∈ rows ++ more, Gr r := fun r hr => (List.mem_append.mp hr).elim (g r) (gm r)
  refine Kn.of (k.mp.fold fun r hr => (gm r hr).p6) gg (fun r hr => ?_) fun p u h => ?_
  · rcases List.mem_append.mp hr with hr | hr
    · refine LR.mono (a := l) ?_ fold_ge
      unfold LR
      rw [k.lk]
      exact st_up hr rfl (g r hr).ed
    · exact fold_has r hr
  · rw [look_fold]
    refine fold_le ?_ fun r hr e => h r (List.mem_append_right _ hr) e
    rw [k.lk]
    exact st_lub fun r hr e => h r (List.mem_append_left _ hr) e
theorem st_same {a b : List Rw} (h : ∀ r, r ∈ a ↔ r ∈ b) (ga : ∀ r ∈ a, Gr r) (p : Pl) : stS a p = stS b p :=
  Le.anti (st_lub fun r hr e => st_up ((h r).mp hr) e (ga r hr).ed) (st_lub fun r hr e => st_up ((h r).mpr hr) e (ga r ((h r).mpr hr)).ed)
theorem Kn.same {l a b : List Rw} (k : Kn l a) (h : ∀ r, r ∈ a ↔ r ∈ b) (ga : ∀ r ∈ a, Gr r) : Kn l b := ⟨k.mp, fun p => by rw [k.lk, st_same h ga]⟩
/-- one that is joined with another one -/
theorem Kn.join {l l2 rows more : List Rw} (k : Kn l rows) (k2 : Kn l2 more) (g : ∀ r ∈ rows, Gr r) (gm : ∀ r ∈ more, Gr r) : Kn ((al l2).foldl tk l) (rows ++ more) := by
  have gg : ∀ r ∈ rows ++ more, Gr r := fun r hr => (List.mem_append.mp hr).elim (g r) (gm r)
  refine Kn.of (k.mp.fold fun r hr => al_Mp.p6 _ (List.mem_map.mpr ⟨r, hr, rfl⟩)) gg (fun r hr => ?_) fun p u h => ?_
  · rcases List.mem_append.mp hr with hr | hr
    · refine LR.mono (a := l) ?_ fold_ge
      unfold LR
      rw [k.lk]
      exact st_up hr rfl (g r hr).ed
    · have z : Le (some r) (look l2 (pl r)) := by rw [k2.lk]; exact st_up hr rfl (gm r hr).ed
      obtain ⟨o, eo, _⟩ := z r rfl
      obtain ⟨po, mo⟩ := look_pl eo
      have hm : o ∈ al l2 := (al_mem k2.mp).mpr mo
      have := fold_has (rows := al l2) (l := l) o hm
      unfold LR at this ⊢
      rw [po] at this
      rw [eo] at z
      exact z.trans this
  · rw [look_fold]
    refine fold_le ?_ fun r hr e => ?_
    · rw [k.lk]
      exact st_lub fun r hr e => h r (List.mem_append_left _ hr) e
    · have := look_of k2.mp.nd ((al_mem k2.mp).mp hr) e
      rw [← this, k2.lk]
      exact st_lub fun r hr e => h r (List.mem_append_right _ hr) e
def allS (rows : List Rw) : List Rw := P6.filterMap (stS rows)
theorem Kn.al {l rows : List Rw} (k : Kn l rows) : al l = allS rows := by
  unfold Lk66.al allS
  rw [funext k.lk]
theorem al_length {l : List Rw} (M : Mp l) : (al l).length = l.length := by
  have e1 := List.Nodup.length_le_of_subset (l₁ := (al l).map pl) (l₂ := l.map pl) al_nd fun p hp => by
    obtain ⟨r, hr, e⟩ := List.mem_map.mp hp
    exact List.mem_map.mpr ⟨r, (al_mem M).mp hr, e⟩
  have e2 := List.Nodup.length_le_of_subset (l₁ := l.map pl) (l₂ := (al l).map pl) M.nd fun p hp => by
    obtain ⟨r, hr, e⟩ := List.mem_map.mp hp
    exact List.mem_map.mpr ⟨r, (al_mem M).mpr hr, e⟩
  rw [List.length_map, List.length_map] at e1 e2
  omega
def f3 (r : Rw) : D := .tup [.int r.1, .int r.2.1, .int r.2.2.1]
def d3 (t : T3) : D := .tup [.int t.1, .int t.2.1, .int t.2.2]
def p3 (t : T3) : PyData := .tuple [.int t.1, .int t.2.1, .int t.2.2]
theorem da_3 : Da d3 p3 1 := by
  refine ⟨fun h m a l => ?_, fun a b => ?_⟩
  · match m, l with
    | m + 1, _ => simp [toPy, toPys, d3, p3]
  · simp [p3, PyData.eqv, PyData.eqvAll, Prod.ext_iff]
abbrev Wy := Int × Int × Int × T3 × Int
instance : DecidableEq Wy := fun a b => instDecidableEqProd a b
def dW (x : Wy) : D := .tup [.int x.1, .int x.2.1, .int x.2.2.1, d3 x.2.2.2.1, .int x.2.2.2.2]
def pW (x : Wy) : PyData := .tuple [.int x.1, .int x.2.1, .int x.2.2.1, p3 x.2.2.2.1, .int x.2.2.2.2]
theorem da_W : Da dW pW 2 := by
  refine ⟨fun h m a l => ?_, fun a b => ?_⟩
  · match m, l with
    | m + 2, _ => simp [toPy, toPys, dW, pW, d3, p3]
  · obtain ⟨a1, a2, a3, ⟨a4, a5, a6⟩, a7⟩ := a
    obtain ⟨b1, b2, b3, ⟨b4, b5, b6⟩, b7⟩ := b
    simp [pW, p3, PyData.eqv, PyData.eqvAll, Prod.ext_iff]
def wyN (n : Nt) : Wy := (n.1, n.2.1, n.2.2.2.1, n.2.2.2.2.1, n.2.2.2.2.2)
theorem dN_eq (n : Nt) : dN n = .tup [.int n.1, .int n.2.1, .int n.2.2.1, .int n.2.2.2.1, .tup [.int n.2.2.2.2.1.1, .int n.2.2.2.2.1.2.1, .int n.2.2.2.2.1.2.2], .int n.2.2.2.2.2] := rfl
def nts (l : List Rw) : List Nt := l.filterMap (·.2.2.2)
theorem nts_eq {l : List Rw} : (l.filter fun r => r.2.2.2.isSome).map (fun r => dO r.2.2.2) = (nts l).map dN := by
  unfold nts
  induction l with
  | nil => rfl
  | cons r a ih =>
    obtain ⟨r1, r2, r3, r4⟩ := r
    cases r4 with
    | none => exact ih
    | some w =>
      rw [List.filter_cons, List.filterMap_cons]
      simp only [Option.isSome_some, if_true, List.map_cons]
      rw [ih]; rfl
def dbt (l : List Rw) : List T3 := (l.filter fun r => r.2.2.2.isNone).map fun r => (r.1, r.2.1, r.2.2.1)
def wys (l : List Rw) : List Wy := ((nts l).filter fun n => decide (n.2.2.2.2.2 ≠ 0)).map wyN
structure At (h : DH) (m d : Addr) (l : List Rw) : Prop where
  m : h m = some (.ins 2 [.ref d])
  d : h d = some (.dT (l.map kvR))
theorem At.mv {h H : DH} {m d : Addr} {l : List Rw} (x : At h m d l) (s : Sub h H) : At H m d l := ⟨s _ _ x.m, s _ _ x.d⟩
section
variable {h H : DH} {P : KD} {R : KX} {m d m2 d2 p q a : Addr} {l l2 rows : List Rw} {nt : Nt} {r : Rw}
theorem allr_spec (x : At h m d l) (M : Mp l) (ok : ∀ p H, h p = none → Sub h H → H p = some (.lst ((al l).map dR)) → P (.ref p) H) : sp_Map_all_rows [.ref m] h P R := all_spec x.m x.d M (go_new ok)
theorem len_spec (x : At h m d l) (ok : P (.int (l.length : Nat)) h) : sp_Map__d_len_d_ [.ref m] h P R := by
  have hm := x.m
  unfold sp_Map__d_len_d_ t_Map__d_len_d_
  walk_at "au"
  refine go_lenDT x.d ?_
  rw [List.length_map]
  exact fgt ok
theorem row_spec {c g : Int} (x : At h m d l) (ok : P (dOR (look l (c, g))) h) : sp_Map_row [.ref m, .int c, .int g] h P R := by
  have hm := x.m
  have hd := x.d
  unfold sp_Map_row t_Map_row
  walk_at "au"
  refine go_getT1 x.d (show (D.tup [.int c, .int g]).tkey? = some (kP (c, g)) from rfl) ?_
  rw [valD_look, dOR_look]
  exact fgt ok
theorem notices_spec (x : At h m d l) (M : Mp l) (ok : ∀ p H, h p = none → Sub h H → H p = some (.lst ((nts (al l)).map dN)) → P (.ref p) H) : sp_Map_notices [.ref m] h P R := by
  have hm := x.m
  unfold sp_Map_notices t_Map_notices
  walk_at "au"
  refine allr_spec x M fun p h1 f1 S1 e1 => ?_
  walk_at "au"
  refine go_lcG (fun r => r.2.2.2.isSome) (k := fun r : Rw => dO r.2.2.2) (le1000 (by have := @al_len l; omega)) (fun L acc hL => up_at e1 hL) (fun L acc dd X hL hdd h3 hX h0 => ?_) ?_
  · obtain ⟨r1, r2, r3, r4⟩ := dd
    unfold dR
    simp only
    walk_at "au"
    cases r4 with
    | none =>
      unfold dO
      walk_at "au"
      exact ⟨up_same, h0 rfl⟩
    | some w =>
      have := hX rfl
      have e : (dO (some w)).isNon = false := rfl
      rw [e]
      walk_at "au"
      exact this
  · rw [nts_eq]
    exact new_k (go_new ok) S1
theorem doubts_spec (x : At h m d l) (M : Mp l) (ok : ∀ p H, h p = none → Sub h H → H p = some (.lst ((dbt (al l)).map d3)) → P (.ref p) H) : sp_Map_doubts [.ref m] h P R := by
  have hm := x.m
  unfold sp_Map_doubts t_Map_doubts
  walk_at "au"
  refine allr_spec x M fun p h1 f1 S1 e1 => ?_
  walk_at "au"
  refine go_lcG (fun r => r.2.2.2.isNone) (k := f3) (le1000 (by have := @al_len l; omega)) (fun L acc hL => up_at e1 hL) (fun L acc dd X hL hdd h3 hX h0 => ?_) ?_
  · obtain ⟨r1, r2, r3, r4⟩ := dd
    unfold dR
    simp only
    walk_at "au"
    cases r4 with
    | none =>
      unfold dO
      walk_at "au"
      have := hX rfl
      rw [show cutD [.int r1, .int r2, .int r3, .non] none (some 3) = [.int r1, .int r2, .int r3] from rfl]
      exact this
    | some w =>
      have e : (dO (some w)).isNon = false := rfl
      rw [e]
      walk_at "au"
      exact ⟨up_same, h0 rfl⟩
  · have e : ((al l).filter fun r => r.2.2.2.isNone).map f3 = (dbt (al l)).map d3 := by
      unfold dbt
      rw [List.map_map]; rfl
    rw [e]
    exact new_k (go_new ok) S1
theorem closed_spec (ok : P (.bl (decide (nt.2.2.2.2.2 = 0))) h) : sp_is_closed [dN nt] h P R := by
  unfold sp_is_closed t_is_closed
  rw [dN_eq]
  walk_at "au"
  exact fgt ok
theorem wayof_spec (ok : P (dW (wyN nt)) h) : sp_way_of [dN nt] h P R := by
  unfold sp_way_of t_way_of
  rw [dN_eq]
  walk_at "au"
  exact fgt ok
theorem ways_spec (x : At h m d l) (M : Mp l) (ok : ∀ p H, h p = none → Sub h H → H p = some (.lst ((wys (al l)).map dW)) → P (.ref p) H) : sp_Map_ways [.ref m] h P R := by
  have hm := x.m
  unfold sp_Map_ways t_Map_ways
  walk_at "au"
  refine notices_spec x M fun p h1 f1 S1 e1 => ?_
  walk_at "au"
  have ln : (nts (al l)).length ≤ 6 := Nat.le_trans (List.length_filterMap_le _ _) al_len
  refine go_lcG (fun n : Nt => decide (n.2.2.2.2.2 ≠ 0)) (k := fun n => dW (wyN n)) (le1000 (by omega)) (fun L acc hL => up_at e1 hL) (fun L acc dd X hL hdd h3 hX h0 => ?_) ?_
  · walk_at "au"
    refine closed_spec ?_
    walk_at "au"
    by_cases c : dd.2.2.2.2.2 = 0
    · rw [decide_eq_true c]
      walk_at "au"
      exact ⟨up_same, h0 (decide_eq_false fun z => z c)⟩
    · rw [decide_eq_false c]
      walk_at "au"
      refine wayof_spec ?_
      walk_at "au"
      exact hX (decide_eq_true c)
  · have e : ((nts (al l)).filter fun n : Nt => decide (n.2.2.2.2.2 ≠ 0)).map (fun n => dW (wyN n)) = (wys (al l)).map dW := by
      unfold wys
      rw [List.map_map]; rfl
    rw [e]
    exact new_k (go_new ok) S1
theorem same_spec (x : At h m d l) (M : Mp l) (x2 : At h m2 d2 l2) (M2 : Mp l2) (ok : ∀ H, Sub h H → P (.bl (decide (al l = al l2))) H) : sp_same_maps [.ref m, .ref m2] h P R := by
  have hm := x.m
  unfold sp_same_maps t_same_maps
  walk_at "au"
  refine allr_spec x M fun p h1 f1 S1 e1 => ?_
  have x2' := x2.mv S1
  have hm2 := x2'.m
  walk_at "au"
  refine allr_spec x2' M2 fun q h2 f2 S2 e2 => ?_
  rw [da_R.eqLL (by decide) (S2 _ _ e1) e2]
  exact fgt (ok _ (S1.trans S2))
theorem mapn_spec (ok : ∀ m d H, h m = none → h d = none → Sub h H → At H m d [] → P (.ref m) H) : sp_Map [] h P R := map_spec fun m d H f1 f2 S e1 e2 => ok m d H f1 f2 S ⟨e1, e2⟩
theorem takeA_spec (x : At h m d l) (M : Mp l) (hr : pl r ∈ P6) (ok : At (up h d (.dT ((tk l r).map kvR))) m d (tk l r) → P (.bl (decide (look (tk l r) (pl r) ≠ look l (pl r)))) (up h d (.dT ((tk l r).map kvR)))) : sp_Map_take [.ref m, dR r] h P R :=
  take_spec x.m x.d M hr (ok ⟨up_ins x.m x.d, up_same⟩)
end
def moL (k : Int) : Int := if k % 4 = 0 then 0 else if k % 4 = 1 then 5 else if k % 4 = 2 then 9 else 1000000
def ntL (p e k : Int) : Nt := (1 + p % 3, 11 + p / 3 % 2, e, 20 + k % 2, (k % 3, 0, e % 2), moL k)
def rowN (nt : Nt) : Rw := (nt.1, nt.2.1, nt.2.2.1, some nt)
def lrow (row : Int) : Rw := ((ntL (row % 6) (row / 6 % 4) (row / 24 % 8)).1, (ntL (row % 6) (row / 6 % 4) (row / 24 % 8)).2.1, (ntL (row % 6) (row / 6 % 4) (row / 24 % 8)).2.2.1, if row / 192 % 7 = 0 then none else some (ntL (row % 6) (row / 6 % 4) (row / 24 % 8)))
theorem moL_nn {k : Int} : 0 ≤ moL k := by
  unfold moL
  split
  · decide
  · split
    · decide
    · split <;> decide
theorem moL_le {k : Int} : moL k ≤ 1000000 := by
  unfold moL
  split
  · decide
  · split
    · decide
    · split <;> decide
theorem in6 {c g : Int} (hc : 1 ≤ c ∧ c ≤ 3) (hg : 11 ≤ g ∧ g ≤ 12) : ((c, g) : Pl) ∈ P6 := by
  rcases (show c = 1 ∨ c = 2 ∨ c = 3 by omega) with rfl | rfl | rfl <;> rcases (show g = 11 ∨ g = 12 by omega) with rfl | rfl <;> decide
theorem ntL_p6 (p e k : Int) : ((ntL p e k).1, (ntL p e k).2.1) ∈ P6 := in6 (by show 1 ≤ 1 + p % 3 ∧ 1 + p % 3 ≤ 3; omega) (by show 11 ≤ 11 + p / 3 % 2 ∧ 11 + p / 3 % 2 ≤ 12; omega)
theorem lrow_gr {row : Int} : Gr (lrow row) := by
  refine ⟨ntL_p6 (row % 6) (row / 6 % 4) (row / 24 % 8), ?_, fun w e => ?_⟩
  · show 0 ≤ row / 6 % 4
    omega
  · unfold lrow at e
    simp only at e
    split at e
    · cases e
    · cases e; exact moL_nn
theorem rowN_gr {p e k : Int} (h : 0 ≤ e) : Gr (rowN (ntL p e k)) := ⟨ntL_p6 p e k, h, fun w e => by cases e; exact moL_nn⟩
def dP (p : Pl) : D := .tup [.int p.1, .int p.2]
def pP (p : Pl) : PyData := .tuple [.int p.1, .int p.2]
theorem da_P : Da dP pP 1 := by
  refine ⟨fun h m a l => ?_, fun a b => ?_⟩
  · match m, l with
    | m + 1, _ => simp [toPy, toPys, dP, pP]
  · simp [pP, PyData.eqv, PyData.eqvAll, Prod.ext_iff]
section
variable {h H : DH} {P : KD} {R : KX} {m d p q a : Addr} {l rows : List Rw} {c g : Int}
theorem eqP {a b : Pl} : doEq (dP a) (dP b) h P = P (.bl (decide (a = b))) h := doEq_of (da_P.py h 20 a (by decide)) (da_P.py h 20 b (by decide)) (bool_dec (da_P.eq a b)) (fun _ _ z => by cases z.1) (fun _ _ z => by cases z.1)
theorem neO {a b : Option Nt} : doNe (dO a) (dO b) h P = P (.bl (!decide (a = b))) h := doNe_of (da_O.py h 20 a (by decide)) (da_O.py h 20 b (by decide)) (bool_dec (da_O.eq a b)) (fun i _ z => dO_ni.1 i z.1) (fun i _ z => dO_ni.2 i z.1)
theorem notice_spec {pl_ e k : Int} (ok : P (dN (ntL pl_ e k)) h) : sp_law_notice [.int pl_, .int e, .int k] h P R := by
  unfold sp_law_notice t_law_notice
  walk_at "au"
  have ok' : P (.tup [.int (1 + pl_ % 3), .int (11 + pl_ / 3 % 2), .int e, .int (20 + k % 2), .tup [.int (k % 3), .int 0, .int (e % 2)], .int (moL k)]) h := ok
  unfold moL at ok'
  rcases (show k % 4 = 0 ∨ k % 4 = 1 ∨ k % 4 = 2 ∨ k % 4 = 3 by omega) with z | z | z | z
  · rw [z] at ok' ⊢
    refine ⟨.int 0, rfl, ?_⟩
    walk_at "au"
    exact fgt ok'
  · rw [z] at ok' ⊢
    refine ⟨.int 5, rfl, ?_⟩
    walk_at "au"
    exact fgt ok'
  · rw [z] at ok' ⊢
    refine ⟨.int 9, rfl, ?_⟩
    walk_at "au"
    exact fgt ok'
  · rw [z] at ok' ⊢
    refine ⟨.int 1000000, rfl, ?_⟩
    walk_at "au"
    exact fgt ok'
theorem lrow_spec {row : Int} (ok : P (dR (lrow row)) h) : sp_law_row [.int row] h P R := by
  unfold sp_law_row t_law_row
  walk_at "au"
  refine notice_spec ?_
  rw [dN_eq]
  walk_at "au"
  unfold lrow dR at ok
  simp only at ok
  walk_at "br"
  split
  · rename_i z
    rw [if_pos z] at ok
    walk_at "au"
    exact fgt ok
  · rename_i z
    rw [if_neg z] at ok
    walk_at "au"
    exact fgt ok
theorem rat_app {pre : List Rw} {r : Rw} {p : Pl} : rat (pre ++ [r]) p = if pl r = p then rat pre p ++ [r] else rat pre p := by
  unfold rat
  rw [List.filter_append, List.filter_cons, List.filter_nil]
  by_cases e : pl r = p
  · rw [if_pos e, if_pos (decide_eq_true e)]
  · rw [if_neg e, if_neg (by simpa using e), List.append_nil]
theorem dR_eq (r : Rw) : dR r = .tup [.int r.1, .int r.2.1, .int r.2.2.1, dO r.2.2.2] := rfl
theorem isN_O' {o : Option Nt} : (dO o).isNon = o.isNone := by cases o <;> rfl
theorem state_spec (hq : h q = some (.lst (rows.map dR))) (hl : rows.length ≤ 900) (ok : P (dOR (stS rows (c, g))) h) : sp_law_state [.ref q, .tup [.int c, .int g]] h P R := by
  unfold sp_law_state t_law_state
  walk_at "au"
  refine for_ind (fun rem e h' => ∃ pre rest x3, rows = pre ++ rest ∧ rem = rest.map dR ∧ h' = h ∧ e = [some (.ref q), some (.tup [.int c, .int g]), some (.int (lat pre (c, g))), x3, none, none]) (fun w r e h' X i next => ?_) (fun e h' i => ?_) _ _ _ ⟨[], rows, _, rfl, rfl, rfl, rfl⟩
  · obtain ⟨pre, rest, x3, eT, er, rfl, rfl⟩ := i
    cases rest with
    | nil => cases er
    | cons w rest =>
      obtain ⟨rfl, rfl⟩ := List.cons.inj er
      refine ⟨hq, ?_⟩
      have nx : X [some (.ref q), some (.tup [.int c, .int g]), some (.int (lat (pre ++ [w]) (c, g))), some (dR w), none, none] h' := next _ _ ⟨pre ++ [w], rest, _, by rw [eT]; simp, rfl, rfl, rfl⟩
      unfold lat at nx ⊢
      rw [rat_app] at nx
      rw [dR_eq] at nx ⊢
      walk_at "au"
      rw [show cutD [.int w.1, .int w.2.1, .int w.2.2.1, dO w.2.2.2] none (some 2) = [.int w.1, .int w.2.1] from rfl]
      have e1 : D.tup [.int w.1, .int w.2.1] = dP (pl w) := rfl
      have e2 : D.tup [.int c, .int g] = dP (c, g) := rfl
      rw [e1, e2, eqP]
      rw [← e2]
      by_cases cc : pl w = (c, g)
      · rw [if_pos cc, List.foldl_append, List.foldl_cons, List.foldl_nil] at nx
        simp only [cc, decide_true]
        walk_at "au"
        rw [show stpE ((rat pre (c, g)).foldl stpE (-1)) w = if (rat pre (c, g)).foldl stpE (-1) < w.2.2.1 then w.2.2.1 else (rat pre (c, g)).foldl stpE (-1) from rfl] at nx
        walk_at "br"
        split
        · rename_i z
          rw [if_pos z] at nx
          walk_at "au"
          exact nx
        · rename_i z
          rw [if_neg z] at nx
          walk_at "au"
          exact nx
      · rw [if_neg cc] at nx
        simp only [cc, decide_false]
        walk_at "au"
        exact nx
  · obtain ⟨pre, rest, x3, eT, er, rfl, rfl⟩ := i
    cases rest with
    | cons w rest => cases er
    | nil =>
      rw [List.append_nil] at eT
      subst eT
      refine ⟨hq, ?_⟩
      walk_at "au"
      unfold stS at ok
      walk_at "br"
      split
      · rename_i z
        rw [if_pos z] at ok
        walk_at "au"
        exact fgt ok
      rename_i z
      rw [if_neg z] at ok
      walk_at "au"
      refine go_lcG (fun r => decide (pl r = (c, g)) && decide (r.2.2.1 = lat rows (c, g))) (k := fun r : Rw => dO r.2.2.2) (le1000 (by omega)) (fun L acc hL => up_at hq hL) (fun L acc dd X hL hdd h3 hX h0 => ?_) ?_
      · rw [dR_eq]
        walk_at "au"
        rw [show cutD [.int dd.1, .int dd.2.1, .int dd.2.2.1, dO dd.2.2.2] none (some 2) = [.int dd.1, .int dd.2.1] from rfl]
        have e1 : D.tup [.int dd.1, .int dd.2.1] = dP (pl dd) := rfl
        have e2 : D.tup [.int c, .int g] = dP (c, g) := rfl
        rw [e1, e2, eqP]
        by_cases c1 : pl dd = (c, g)
        · simp only [c1, decide_true, Bool.true_and] at hX h0 ⊢
          walk_at "au"
          by_cases c2 : dd.2.2.1 = lat rows (c, g)
          · rw [decide_eq_true c2]
            walk_at "au"
            exact hX (decide_eq_true c2)
          · rw [decide_eq_false c2]
            walk_at "au"
            exact ⟨up_same, h0 (decide_eq_false c2)⟩
        · simp only [c1, decide_false, Bool.false_and] at hX h0 ⊢
          walk_at "au"
          exact ⟨up_same, h0 trivial⟩
      have eh : (rows.filter fun r => decide (pl r = (c, g)) && decide (r.2.2.1 = lat rows (c, g))).map (fun r => dO r.2.2.2) = (hrd rows (c, g)).map dO := by
        unfold hrd rat
        rw [List.filter_filter, List.map_map]
        congr 1
        congr 1
        funext r
        rw [Bool.and_comm]
      rw [eh]
      refine go_new fun a h2 f2 U2 e2 => ?_
      have lh : (hrd rows (c, g)).length ≤ 900 := by
        unfold hrd rat
        rw [List.length_map]
        exact Nat.le_trans (List.length_filter_le _ _) (Nat.le_trans (List.length_filter_le _ _) hl)
      have hne : hrd rows (c, g) ≠ [] := by
        obtain ⟨_, _, h3⟩ := lat_ge (rat rows (c, g)) (-1)
        rcases h3 with h3 | ⟨r, hr, er⟩
        · exact absurd (show (rat rows (c, g)).foldl stpE (-1) < 0 by rw [h3]; decide) z
        · intro e
          have := mem_hrd.mpr ⟨r, (mem_rat.mp hr).1, (mem_rat.mp hr).2, er, rfl⟩
          rw [e] at this
          cases this
      generalize hrd rows (c, g) = hs at *
      walk_at "au"
      refine for_ind (fun rem e h' => ∃ pre rest x5, hs = pre ++ rest ∧ rem = rest.map dO ∧ h' = h2 ∧ (∀ o ∈ pre, odd hs o = false) ∧ e = [some (.ref q), some (.tup [.int c, .int g]), some (.int (lat rows (c, g))), x3, some (.ref a), x5]) (fun w r e h' X i next => ?_) (fun e h' i => ?_) _ _ _ ⟨[], hs, _, rfl, rfl, rfl, (fun _ z => by cases z), rfl⟩
      · obtain ⟨pre, rest, x5, eT, er, rfl, hp, rfl⟩ := i
        cases rest with
        | nil => cases er
        | cons w rest =>
          obtain ⟨rfl, rfl⟩ := List.cons.inj er
          refine ⟨e2, ?_⟩
          have hm : w ∈ hs := by rw [eT]; simp
          obtain ⟨w0, ew0⟩ : ∃ w0, hs.head? = some w0 := by
            cases e : hs with
            | nil => rw [e] at hm; cases hm
            | cons a l => exact ⟨a, rfl⟩
          have at0 : L2.atI (hs.map dO) 0 = some (dO w0) := by
            cases e : hs with
            | nil => rw [e] at ew0; cases ew0
            | cons a l =>
              rw [e] at ew0
              cases ew0
              exact L2.atI_nat (j := 0) rfl
          have nx : odd hs w = false → X [some (.ref q), some (.tup [.int c, .int g]), some (.int (lat rows (c, g))), x3, some (.ref a), some (dO w)] h' := fun z => next _ _ ⟨pre ++ [w], rest, _, by rw [eT]; simp, rfl, rfl, fun o ho => by
            rcases List.mem_append.mp ho with ho | ho
            · exact hp o ho
            · rw [List.mem_singleton.mp ho]; exact z, rfl⟩
          have dbl : odd hs w = true → P (.tup [.int c, .int g, .int (lat rows (c, g)), .non]) _ := fun z => by
            rw [if_pos (List.any_eq_true.mpr ⟨w, hm, z⟩)] at ok
            exact ok
          unfold odd at nx dbl
          rw [ew0] at nx dbl
          walk_at "au"
          rw [isN_O']
          cases ec : w.isNone with
          | true =>
            rw [ec] at dbl
            walk_at "au"
            exact fgtS U2 (dbl rfl)
          | false =>
            rw [ec] at dbl nx
            walk_at "au"
            refine ⟨_, at0, ?_⟩
            rw [neO]
            by_cases c3 : w = w0
            · simp only [c3, decide_true, Bool.not_true]
              walk_at "au"
              rw [← c3]
              exact nx (by simp [c3])
            · simp only [c3, decide_false, Bool.not_false]
              walk_at "au"
              exact fgtS U2 (dbl (by simp [c3]))
      · obtain ⟨pre, rest, x5, eT, er, rfl, hp, rfl⟩ := i
        cases rest with
        | cons w rest => cases er
        | nil =>
          rw [List.append_nil] at eT
          subst eT
          refine ⟨e2, ?_⟩
          have nany : hs.any (odd hs) = false := by
            cases z : hs.any (odd hs) with
            | false => rfl
            | true =>
              obtain ⟨o, ho, oo⟩ := List.any_eq_true.mp z
              rw [hp o ho] at oo
              cases oo
          rw [nany, if_neg Bool.false_ne_true] at ok
          obtain ⟨w0, l, eh2⟩ : ∃ w0 l, hs = w0 :: l := by
            cases hs with
            | nil => exact absurd rfl hne
            | cons w0 l => exact ⟨w0, l, rfl⟩
          subst eh2
          walk_at "au"
          exact fgtS U2 ok
end
theorem st_mo {rows : List Rw} {p : Pl} {r : Rw} {w : Nt} (g : ∀ r ∈ rows, Gr r) (e : stS rows p = some r) (ew : r.2.2.2 = some w) : 0 ≤ w.2.2.2.2.2 := by
  unfold stS at e
  split at e
  · cases e
  · split at e
    · cases e; cases ew
    · cases e
      have ew : (hrd rows p).head?.getD none = some w := ew
      cases eh : hrd rows p with
      | nil => rw [eh] at ew; cases ew
      | cons o l =>
        rw [eh] at ew
        have eo : o = some w := ew
        have hm : o ∈ hrd rows p := by rw [eh]; exact List.mem_cons_self ..
        obtain ⟨q, hq, _, _, e4⟩ := mem_hrd.mp hm
        exact (g q hq).mo w (by rw [e4, eo])
theorem nts_mo {rows : List Rw} (g : ∀ r ∈ rows, Gr r) : ∀ w ∈ nts (allS rows), 0 ≤ w.2.2.2.2.2 := fun w hw => by
  unfold nts allS at hw
  obtain ⟨r, hr, ew⟩ := List.mem_filterMap.mp hw
  obtain ⟨p, _, e⟩ := List.mem_filterMap.mp hr
  exact st_mo g e ew
theorem allS_len {rows : List Rw} : (allS rows).length ≤ 6 := List.length_filterMap_le (f := stS rows) (l := P6)
section
variable {h H : DH} {P : KD} {R : KX} {m d m2 d2 p q a : Addr} {l l2 rows more : List Rw} {c g : Int}
def allC (rows : List Rw) (cs : List Int) : List Rw := cs.flatMap fun c => [((11 : Int)), 12].filterMap fun g => stS rows (c, g)
theorem allC_eq : allC rows [1, 2, 3] = allS rows := by
  unfold allC allS P6
  simp only [List.flatMap_cons, List.flatMap_nil, List.append_nil, List.filterMap_cons, List.filterMap_nil]
  cases stS rows (1, 11) <;> cases stS rows (1, 12) <;> cases stS rows (2, 11) <;> cases stS rows (2, 12) <;> cases stS rows (3, 11) <;> cases stS rows (3, 12) <;> rfl
theorem lall_spec (hq : h q = some (.lst (rows.map dR))) (hl : rows.length ≤ 900) (ok : ∀ p H, h p = none → Sub h H → H p = some (.lst ((allS rows).map dR)) → P (.ref p) H) : sp_law_all [.ref q] h P R := by
  unfold sp_law_all t_law_all
  walk_at "au"
  refine go_newE fun p fp => ?_
  walk_at "au"
  have hq' : ∀ xs, up h p (.lst xs) q = some (.lst (rows.map dR)) := fun xs => up_at hq fp
  refine for_ind (fun rem e h' => ∃ pre rest x2 x3 x4, ([1, 2, 3] : List Int) = pre ++ rest ∧ rem = rest.map D.int ∧ h' = up h p (.lst ((allC rows pre).map dR)) ∧ e = [some (.ref q), some (.ref p), x2, x3, x4]) (fun w r e h' X i next => ?_) (fun e h' i => ?_) _ _ _ ⟨[], [1, 2, 3], _, _, _, rfl, rfl, rfl, rfl⟩
  · obtain ⟨pre, rest, x2, x3, x4, eT, er, rfl, rfl⟩ := i
    cases rest with
    | nil => cases er
    | cons c rest =>
      obtain ⟨rfl, rfl⟩ := List.cons.inj er
      refine ⟨trivial, ?_⟩
      have lpre : pre.length ≤ 3 := by
        have := congrArg List.length eT
        rw [List.length_append] at this
        simp at this
        omega
      walk_at "au"
      refine for_ind (fun rem e h' => ∃ pg rg_ x3 x4, ([11, 12] : List Int) = pg ++ rg_ ∧ rem = rg_.map D.int ∧ h' = up h p (.lst ((allC rows pre ++ pg.filterMap fun g => stS rows (c, g)).map dR)) ∧ e = [some (.ref q), some (.ref p), some (.int c), x3, x4]) (fun w r e h' X2 i nx => ?_) (fun e h' i => ?_) _ _ _ ⟨[], [11, 12], _, _, rfl, rfl, by rw [List.filterMap_nil, List.append_nil], rfl⟩
      · obtain ⟨pg, rg_, x3, x4, eG, er, rfl, rfl⟩ := i
        cases rg_ with
        | nil => cases er
        | cons g rg_ =>
          obtain ⟨rfl, rfl⟩ := List.cons.inj er
          refine ⟨trivial, ?_⟩
          have lpg : pg.length ≤ 2 := by
            have := congrArg List.length eG
            rw [List.length_append] at this
            simp at this
            omega
          have lC : (allC rows pre).length ≤ 6 := by
            unfold allC
            rw [List.length_flatMap]
            have : ∀ l : List Int, (l.map fun c => (([(11 : Int), 12] : List Int).filterMap fun g => stS rows (c, g)).length).sum ≤ 2 * l.length := fun l => by
              induction l with
              | nil => exact Nat.le_refl _
              | cons a l ih =>
                rw [List.map_cons, List.sum_cons, List.length_cons]
                have := List.length_filterMap_le (fun g => stS rows (a, g)) ([11, 12] : List Int)
                simp only [List.length_cons, List.length_nil] at this
                omega
            have := this pre
            omega
          have lg : (pg.filterMap fun g => stS rows (c, g)).length ≤ 2 := Nat.le_trans (List.length_filterMap_le _ _) lpg
          have nx : ∀ x3 x4, X2 [some (.ref q), some (.ref p), some (.int c), x3, x4] (up h p (.lst ((allC rows pre ++ (pg ++ [g]).filterMap fun g => stS rows (c, g)).map dR))) := fun x3 x4 => nx _ _ ⟨pg ++ [g], rg_, _, _, by rw [eG]; simp, rfl, rfl, rfl⟩
          walk_at "au"
          refine state_spec (hq' _) hl ?_
          walk_at "au"
          have nx := nx (some (.int g)) (some (dOR (stS rows (c, g))))
          rw [List.filterMap_append, List.filterMap_cons, List.filterMap_nil] at nx
          rw [isN_OR]
          cases es : stS rows (c, g) with
          | none =>
            rw [es] at nx
            simp only [List.append_nil] at nx
            walk_at "au"
            exact nx
          | some s =>
            rw [es] at nx
            simp only at nx
            rw [← List.append_assoc, List.map_append] at nx
            walk_at "au"
            refine ⟨go_tyL up_same, ?_⟩
            walk_at "au"
            refine ⟨by rw [List.length_append]; exact small1000 (by omega), ?_⟩
            exact nx
      · obtain ⟨pg, rg_, x3, x4, eG, er, rfl, rfl⟩ := i
        cases rg_ with
        | cons g rg_ => cases er
        | nil =>
          rw [List.append_nil] at eG
          subst eG
          refine ⟨trivial, ?_⟩
          refine next _ _ ⟨pre ++ [c], rest, _, _, _, by rw [eT]; simp, rfl, ?_, rfl⟩
          congr 1
          congr 1
          congr 1
          unfold allC
          rw [List.flatMap_append, List.flatMap_cons, List.flatMap_nil, List.append_nil]
  · obtain ⟨pre, rest, x2, x3, x4, eT, er, rfl, rfl⟩ := i
    cases rest with
    | cons w rest => cases er
    | nil =>
      rw [List.append_nil] at eT
      subst eT
      refine ⟨trivial, ?_⟩
      walk_at "au"
      refine fgt (ok p _ fp (Sub.new fp) ?_)
      rw [up_same, allC_eq]
theorem told_spec (x : At h m d l) (k : Kn l rows) (gr : ∀ r ∈ rows, Gr r) (hq : h q = some (.lst (rows.map dR))) (hl : rows.length ≤ 900) (ok : ∀ H, Sub h H → P (.bl true) H) : sp_law_told [.ref m, .ref q] h P R := by
  have ea := k.al
  have la := @allS_len rows
  have ll : l.length = (allS rows).length := by rw [← al_length k.mp, ea]
  unfold sp_law_told t_law_told
  walk_at "au"
  refine lall_spec hq hl fun s h1 f1 U1 e1 => ?_
  have x1 := x.mv U1
  have hm1 := x1.m
  walk_at "au"
  refine allr_spec x1 k.mp fun t h2 f2 U2 e2 => ?_
  have e12 := U2 _ _ e1
  have x2 := x1.mv U2
  have hm2 := x2.m
  rw [da_R.neLL (by decide) e2 e12, decide_eq_true ea]
  walk_at "au"
  refine go_lenO hm2 (List.mem_cons_self ..) (len_spec x2 ⟨_, rfl, by omega, ?_⟩)
  walk_at "au"
  rw [ll]
  walk_at "au"
  have T2 := U1.trans U2
  refine for_ind (fun rem e h' => ∃ pre rest x3, ([1, 2, 3, 4] : List Int) = pre ++ rest ∧ rem = rest.map D.int ∧ h' = h2 ∧ e = [some (.ref m), some (.ref q), some (.ref s), x3, none, none, none]) (fun w r e h' X i next => ?_) (fun e h' i => ?_) _ _ _ ⟨[], [1, 2, 3, 4], _, rfl, rfl, rfl, rfl⟩
  · obtain ⟨pre, rest, x3, eT, er, rfl, rfl⟩ := i
    cases rest with
    | nil => cases er
    | cons c rest =>
      obtain ⟨rfl, rfl⟩ := List.cons.inj er
      refine ⟨trivial, ?_⟩
      walk_at "au"
      refine row_spec x2 ?_
      walk_at "au"
      refine state_spec (T2 _ _ hq) hl ?_
      rw [neOR, decide_eq_true (k.lk (c, 11))]
      walk_at "au"
      exact next _ _ ⟨pre ++ [c], rest, _, by rw [eT]; simp, rfl, rfl, rfl⟩
  · obtain ⟨pre, rest, x3, eT, er, rfl, rfl⟩ := i
    cases rest with
    | cons w rest => cases er
    | nil =>
      refine ⟨trivial, ?_⟩
      have e23 := U2 _ _ e1
      walk_at "au"
      refine go_lcG (fun r => r.2.2.2.isSome) (k := fun r : Rw => dO r.2.2.2) (le1000 (by omega)) (fun L acc hL => up_at e23 hL) (fun L acc dd X hL hdd h3 hX h0 => ?_) ?_
      · obtain ⟨r1, r2, r3, r4⟩ := dd
        unfold dR
        simp only
        walk_at "au"
        cases r4 with
        | none =>
          unfold dO
          walk_at "au"
          exact ⟨up_same, h0 rfl⟩
        | some w =>
          have := hX rfl
          have e : (dO (some w)).isNon = false := rfl
          rw [e]
          walk_at "au"
          exact this
      rw [nts_eq]
      refine go_new fun n1 h4 f4 U4 e4 => ?_
      have x4 := x2.mv U4
      have hm4 := x4.m
      have e25 := U4 _ _ e23
      walk_at "au"
      refine notices_spec x4 k.mp fun n2 h5 f5 U5 e5 => ?_
      rw [ea] at e5
      have e45 := U5 _ _ e4
      rw [da_N.neLL (by decide) e5 e45, decide_eq_true rfl]
      have x5 := x4.mv U5
      have hm5 := x5.m
      have e26 := U5 _ _ e25
      walk_at "au"
      refine doubts_spec x5 k.mp fun n3 h6 f6 U6 e6 => ?_
      rw [ea] at e6
      have e27 := U6 _ _ e26
      walk_at "au"
      refine go_lcG (fun r => r.2.2.2.isNone) (k := f3) (le1000 (by omega)) (fun L acc hL => up_at e27 hL) (fun L acc dd X hL hdd h3 hX h0 => ?_) ?_
      · obtain ⟨r1, r2, r3, r4⟩ := dd
        unfold dR
        simp only
        walk_at "au"
        cases r4 with
        | none =>
          unfold dO
          walk_at "au"
          have := hX rfl
          rw [show cutD [.int r1, .int r2, .int r3, .non] none (some 3) = [.int r1, .int r2, .int r3] from rfl]
          exact this
        | some w =>
          have e : (dO (some w)).isNon = false := rfl
          rw [e]
          walk_at "au"
          exact ⟨up_same, h0 rfl⟩
      have ed : ((allS rows).filter fun r => r.2.2.2.isNone).map f3 = (dbt (allS rows)).map d3 := by
        unfold dbt
        rw [List.map_map]; rfl
      rw [ed]
      refine go_new fun n4 h7 f7 U7 e7 => ?_
      rw [da_3.neLL (by decide) (U7 _ _ e6) e7, decide_eq_true rfl]
      have x7 := (x5.mv U6).mv U7
      have hm7 := x7.m
      have e47 := U7 _ _ (U6 _ _ e45)
      walk_at "au"
      refine ways_spec x7 k.mp fun n5 h8 f8 U8 e8 => ?_
      rw [ea] at e8
      have e48 := U8 _ _ e47
      have ln : (nts (allS rows)).length ≤ 6 := Nat.le_trans (List.length_filterMap_le _ _) la
      walk_at "au"
      refine go_lcG (fun n : Nt => decide (0 < n.2.2.2.2.2)) (k := fun n => dW (wyN n)) (le1000 (by omega)) (fun L acc hL => up_at e48 hL) (fun L acc dd X hL hdd h3 hX h0 => ?_) ?_
      · rw [dN_eq]
        walk_at "au"
        by_cases c : 0 < dd.2.2.2.2.2
        · rw [decide_eq_true c]
          walk_at "au"
          exact hX (decide_eq_true c)
        · rw [decide_eq_false c]
          walk_at "au"
          exact ⟨up_same, h0 (decide_eq_false c)⟩
      have ew : ((nts (allS rows)).filter fun n : Nt => decide (0 < n.2.2.2.2.2)).map (fun n => dW (wyN n)) = (wys (allS rows)).map dW := by
        unfold wys
        rw [List.map_map]
        have : ((nts (allS rows)).filter fun n : Nt => decide (0 < n.2.2.2.2.2)) = (nts (allS rows)).filter fun n : Nt => decide (n.2.2.2.2.2 ≠ 0) := by
          refine List.filter_congr fun w hw => ?_
          have := nts_mo gr w hw
          exact decide_eq_decide.mpr ⟨fun z e => by omega, fun z => by omega⟩
        rw [this]; rfl
      rw [ew]
      refine go_new fun n6 h9 f9 U9 e9 => ?_
      rw [da_W.eqLL (by decide) (U9 _ _ e8) e9, decide_eq_true rfl]
      exact fgt (ok _ ((((((T2.trans U4).trans U5).trans U6).trans U7).trans U8).trans U9))
end
structure Nok (nt : Nt) : Prop where
  ed : 0 ≤ nt.2.2.1 ∧ nt.2.2.1 ≤ 4294967295
  mo : 0 ≤ nt.2.2.2.2.2 ∧ nt.2.2.2.2.2 ≤ 1000000000000000
  t1 : 0 ≤ nt.2.2.2.2.1.1 ∧ nt.2.2.2.2.1.1 ≤ 1000000000000000
  t2 : 0 ≤ nt.2.2.2.2.1.2.1 ∧ nt.2.2.2.2.1.2.1 ≤ 100000
  t3 : 0 ≤ nt.2.2.2.2.1.2.2 ∧ nt.2.2.2.2.1.2.2 ≤ 1000000000000
theorem ntL_ok {p e k : Int} (h : 0 ≤ e ∧ e ≤ 100) : Nok (ntL p e k) := by
  refine ⟨by show 0 ≤ e ∧ e ≤ _; omega, ⟨moL_nn, ?_⟩, ?_, (by show (0 : Int) ≤ 0 ∧ (0 : Int) ≤ 100000; decide), ?_⟩
  · have := @moL_le k
    show moL k ≤ _
    omega
  · show 0 ≤ k % 3 ∧ k % 3 ≤ _
    omega
  · show 0 ≤ e % 2 ∧ e % 2 ≤ _
    omega
section
variable {h H : DH} {P : KD} {R : KX} {m d m2 d2 p q a : Addr} {l l2 rows more : List Rw} {c g : Int} {nt : Nt}
theorem check_spec (N : Nok nt) (ok : P .non h) : sp_check_notice [dN nt] h P R := by
  obtain ⟨n1, n2, n3, n4, ⟨n5, n6, n7⟩, n8⟩ := nt
  obtain ⟨ed, mo, t1, t2, t3⟩ := N
  simp only at ed mo t1 t2 t3
  unfold sp_check_notice t_check_notice dN
  walk_at "au"
  refine ⟨_, _, _, rfl, ?_⟩
  walk_at "au"
  rw [decide_eq_true ed.1]
  walk_at "au"
  rw [decide_eq_true ed.2]
  walk_at "au"
  rw [decide_eq_true mo.1]
  walk_at "au"
  rw [decide_eq_true mo.2]
  walk_at "au"
  rw [decide_eq_true t1.1]
  walk_at "au"
  rw [decide_eq_true t1.2]
  walk_at "au"
  rw [decide_eq_true t2.1]
  walk_at "au"
  rw [decide_eq_true t2.2]
  walk_at "au"
  rw [decide_eq_true t3.1]
  walk_at "au"
  rw [decide_eq_true t3.2]
  walk_at "au"
  exact fgt ok
theorem check_bad (N : ¬ Nok nt) (bad : R ⟨1, none⟩ h) : sp_check_notice [dN nt] h P R := by
  obtain ⟨n1, n2, n3, n4, ⟨n5, n6, n7⟩, n8⟩ := nt
  unfold sp_check_notice t_check_notice dN
  walk_at "au"
  refine ⟨_, _, _, rfl, ?_⟩
  walk_at "au"
  by_cases c1 : 0 ≤ n3
  case neg => rw [decide_eq_false c1]; walk_at "au"; exact fgtX bad
  rw [decide_eq_true c1]
  walk_at "au"
  by_cases c2 : n3 ≤ 4294967295
  case neg => rw [decide_eq_false c2]; walk_at "au"; exact fgtX bad
  rw [decide_eq_true c2]
  walk_at "au"
  by_cases c3 : 0 ≤ n8
  case neg => rw [decide_eq_false c3]; walk_at "au"; exact fgtX bad
  rw [decide_eq_true c3]
  walk_at "au"
  by_cases c4 : n8 ≤ 1000000000000000
  case neg => rw [decide_eq_false c4]; walk_at "au"; exact fgtX bad
  rw [decide_eq_true c4]
  walk_at "au"
  by_cases c5 : 0 ≤ n5
  case neg => rw [decide_eq_false c5]; walk_at "au"; exact fgtX bad
  rw [decide_eq_true c5]
  walk_at "au"
  by_cases c6 : n5 ≤ 1000000000000000
  case neg => rw [decide_eq_false c6]; walk_at "au"; exact fgtX bad
  rw [decide_eq_true c6]
  walk_at "au"
  by_cases c7 : 0 ≤ n6
  case neg => rw [decide_eq_false c7]; walk_at "au"; exact fgtX bad
  rw [decide_eq_true c7]
  walk_at "au"
  by_cases c8 : n6 ≤ 100000
  case neg => rw [decide_eq_false c8]; walk_at "au"; exact fgtX bad
  rw [decide_eq_true c8]
  walk_at "au"
  by_cases c9 : 0 ≤ n7
  case neg => rw [decide_eq_false c9]; walk_at "au"; exact fgtX bad
  rw [decide_eq_true c9]
  walk_at "au"
  by_cases c10 : n7 ≤ 1000000000000
  case neg => rw [decide_eq_false c10]; walk_at "au"; exact fgtX bad
  exact absurd ⟨⟨c1, c2⟩, ⟨c3, c4⟩, ⟨c5, c6⟩, ⟨c7, c8⟩, ⟨c9, c10⟩⟩ N
theorem rowof_spec (ok : P (dR (rowN nt)) h) : sp_row_of [dN nt] h P R := by
  unfold sp_row_of t_row_of
  rw [dN_eq]
  walk_at "au"
  exact fgt ok
theorem placeof_spec (ok : P (dP (nt.1, nt.2.1)) h) : sp_place_of [dN nt] h P R := by
  unfold sp_place_of t_place_of
  rw [dN_eq]
  walk_at "au"
  exact fgt ok
theorem hear_spec (x : At h m d l) (M : Mp l) (N : Nok nt) (hr : pl (rowN nt) ∈ P6) (ok : At (up h d (.dT ((tk l (rowN nt)).map kvR))) m d (tk l (rowN nt)) → P (.bl (decide (look (tk l (rowN nt)) (pl (rowN nt)) ≠ look l (pl (rowN nt))))) (up h d (.dT ((tk l (rowN nt)).map kvR)))) : sp_Map_hear [.ref m, dN nt] h P R := by
  have hm := x.m
  unfold sp_Map_hear t_Map_hear
  walk_at "au"
  refine check_spec N ?_
  walk_at "au"
  refine rowof_spec ?_
  refine takeA_spec x M hr fun x2 => ?_
  exact fgt (ok x2)
theorem hear_bad (x : At h m d l) (N : ¬ Nok nt) (bad : R ⟨1, none⟩ h) : sp_Map_hear [.ref m, dN nt] h P R := by
  have hm := x.m
  unfold sp_Map_hear t_Map_hear
  walk_at "au"
  exact check_bad N (fgtX bad)
theorem neP {a b : Pl} : doNe (dP a) (dP b) h P = P (.bl (!decide (a = b))) h := doNe_of (da_P.py h 20 a (by decide)) (da_P.py h 20 b (by decide)) (bool_dec (da_P.eq a b)) (fun _ _ z => by cases z.1) (fun _ _ z => by cases z.1)
theorem neR {a b : Rw} : doNe (dR a) (dR b) h P = P (.bl (!decide (a = b))) h := doNe_of (da_R.py h 20 a (by decide)) (da_R.py h 20 b (by decide)) (bool_dec (da_R.eq a b)) (fun _ _ z => by cases z.1) (fun _ _ z => by cases z.1)
theorem eqW {a b : Wy} : doEq (dW a) (dW b) h P = P (.bl (decide (a = b))) h := doEq_of (da_W.py h 20 a (by decide)) (da_W.py h 20 b (by decide)) (bool_dec (da_W.eq a b)) (fun _ _ z => by cases z.1) (fun _ _ z => by cases z.1)
theorem simple_spec (ok : P (.bl true) h) : sp_law_simple [dN nt] h P R := by
  unfold sp_law_simple t_law_simple
  walk_at "au"
  refine placeof_spec ?_
  have en := dN_eq nt
  rw [en]
  walk_at "au"
  rw [show cutD [D.int nt.1, .int nt.2.1, .int nt.2.2.1, .int nt.2.2.2.1, .tup [.int nt.2.2.2.2.1.1, .int nt.2.2.2.2.1.2.1, .int nt.2.2.2.2.1.2.2], .int nt.2.2.2.2.2] none (some 2) = [.int nt.1, .int nt.2.1] from rfl]
  rw [show D.tup [.int nt.1, .int nt.2.1] = dP (nt.1, nt.2.1) from rfl, neP, decide_eq_true rfl]
  walk_at "au"
  rw [← en]
  refine rowof_spec ?_
  rw [en]
  walk_at "au"
  rw [← en, show D.tup [.int nt.1, .int nt.2.1, .int nt.2.2.1, dN nt] = dR (rowN nt) from rfl, neR, decide_eq_true rfl]
  walk_at "au"
  refine closed_spec ?_
  rw [en]
  walk_at "au"
  rw [← en]
  refine wayof_spec ?_
  walk_at "au"
  rw [show D.tup [.int nt.1, .int nt.2.1, .int nt.2.2.2.1, .tup [.int nt.2.2.2.2.1.1, .int nt.2.2.2.2.1.2.1, .int nt.2.2.2.2.1.2.2], .int nt.2.2.2.2.2] = dW (wyN nt) from rfl, eqW, decide_eq_true rfl]
  exact fgt ok
theorem allh_spec (x : At h m d l) (M : Mp l) (ok : ∀ p H, h p = none → Sub h H → H p = some (.lst ((al l).map dR)) → P (.ref p) H) : sph_Map_all_rows [.ref m] h P R := by
  have hm := x.m
  have hd := x.d
  unfold sph_Map_all_rows th_Map_all_rows iSrtD
  walk_at "au"
  refine ⟨l.map kvR, l.map fun r => iP (pl r), 2, 64, hd, kv_keysR, by rw [List.length_map]; have := M.len; omega, by decide, fun k hk => ?_, fun ys y1 y2 t ft => ⟨t, _, rfl, up_same, ?_⟩⟩
  · obtain ⟨r, hr, rfl⟩ := List.mem_map.mp hk
    have := M.p6 _ (List.mem_map.mpr ⟨r, hr, rfl⟩)
    refine ⟨rfl, ?_⟩
    revert this
    generalize pl r = q
    unfold iP TS.Bd
    revert q
    decide
  · have e := sort_eq M y1 y2
    subst e
    rw [List.map_map]
    have hpl : up h t (.lst ((al l).map ((fun k => D.tup (k.map D.int)) ∘ fun r => iP (pl r)))) t = some (.lst ((al l).map ((fun k => D.tup (k.map D.int)) ∘ fun r => iP (pl r)))) := up_same
    have U := Sub.new (o := .lst ((al l).map ((fun k => D.tup (k.map D.int)) ∘ fun r => iP (pl r)))) ft
    generalize up h t (.lst ((al l).map ((fun k => D.tup (k.map D.int)) ∘ fun r => iP (pl r)))) = h1 at hpl U ⊢
    have hm1 := U _ _ hm
    have hd1 := U _ _ hd
    refine go_lcM (fun d => ((d.tkey?).bind (valD (l.map kvR))).getD .non) (by rw [List.length_map]; exact le1000 (by have := @al_len l; omega)) (fun L acc hL => up_at hpl hL) (fun L acc dd X hL hdd h3 hX => ?_) ?_
    · obtain ⟨r, hr, rfl⟩ := List.mem_map.mp hdd
      have lk : look l (pl r) = some r := by
        have := look_of (l := al l) al_nd hr rfl
        rw [look_al M] at this; exact this
      have ev : valD (l.map kvR) (kP (pl r)) = some (dR r) := by rw [valD_look, lk]; rfl
      have e : (((D.tup ((iP (pl r)).map D.int)).tkey?).bind (valD (l.map kvR))).getD .non = dR r := by
        show (valD (l.map kvR) (kP (pl r))).getD .non = _
        rw [ev]; rfl
      simp only [Function.comp] at hX
      rw [e] at hX
      simp only [Function.comp]
      walk_at "au"
      refine go_ixDT (k := kP (pl r)) (show up h1 L (.lst acc) d = some (.dT (l.map kvR)) by walk_at "at") rfl ev ?_
      walk_at "au"
      exact hX
    · have e : (((al l).map ((fun k => D.tup (k.map D.int)) ∘ fun r => iP (pl r))).map fun d => ((d.tkey?).bind (valD (l.map kvR))).getD .non) = (al l).map dR := by
        rw [List.map_map]
        refine List.map_congr_left fun r hr => ?_
        have lk : look l (pl r) = some r := by
          have := look_of (l := al l) al_nd hr rfl
          rw [look_al M] at this; exact this
        show (valD (l.map kvR) (kP (pl r))).getD .non = _
        rw [valD_look, lk]; rfl
      rw [e]
      exact new_k (go_new ok) U
def wrE (i : Nat) : Int := [4294967296, -1, 3, 3, 3, 3].getD i 0
def wrT (i : Nat) : T3 := [((0 : Int), (0 : Int), (0 : Int)), (0, 0, 0), (-1, 0, 0), (0, 100001, 0), (0, 0, 1000000000001), (0, 0, 0)].getD i (0, 0, 0)
def wrM (i : Nat) : Int := [1, 1, 1, 1, 1, 1000000000000001].getD i 0
def wrN (nt : Nt) (i : Nat) : Nt := (nt.1, nt.2.1, wrE i, nt.2.2.2.1, wrT i, wrM i)
theorem wr_bad {i : Nat} (hi : i < 6) : ¬ Nok (wrN nt i) := by
  rcases (show i = 0 ∨ i = 1 ∨ i = 2 ∨ i = 3 ∨ i = 4 ∨ i = 5 by omega) with rfl | rfl | rfl | rfl | rfl | rfl
  · exact fun N => absurd N.ed.2 (by show ¬ ((4294967296 : Int) ≤ 4294967295); decide)
  · exact fun N => absurd N.ed.1 (by show ¬ ((0 : Int) ≤ -1); decide)
  · exact fun N => absurd N.t1.1 (by show ¬ ((0 : Int) ≤ -1); decide)
  · exact fun N => absurd N.t2.2 (by show ¬ ((100001 : Int) ≤ 100000); decide)
  · exact fun N => absurd N.t3.2 (by show ¬ ((1000000000001 : Int) ≤ 1000000000000); decide)
  · exact fun N => absurd N.mo.2 (by show ¬ ((1000000000000001 : Int) ≤ 1000000000000000); decide)
theorem refused_spec {i : Nat} (hi : i < 6) (x : At h m d l) (M : Mp l) (ok : ∀ H, Sub h H → P (.bl true) H) : sp_law_refused [.ref m, dN nt, .int (i : Nat)] h P R := by
  unfold sp_law_refused t_law_refused
  rw [dN_eq]
  walk_at "au"
  refine go_newE fun w fw => ?_
  have x0 : ∀ xs, At (up h w (.lst xs)) m d l := fun xs => x.mv (Sub.new fw)
  walk_at "au"
  have cases6 : i = 0 ∨ i = 1 ∨ i = 2 ∨ i = 3 ∨ i = 4 ∨ i = 5 := by omega
  have a1 : ∀ (xs : List D) (v : D), xs[i]? = some v → L2.atI xs ((i : Nat) : Int) = some v := fun xs v e => L2.atI_nat e
  have f1 : ([.int 4294967296, .int (0 - 1), .int 3, .int 3, .int 3, .int 3] : List D)[i]? = some (.int (wrE i)) := by rcases cases6 with rfl | rfl | rfl | rfl | rfl | rfl <;> rfl
  have f2 : ([.tup [.int 0, .int 0, .int 0], .tup [.int 0, .int 0, .int 0], .tup [.int (0 - 1), .int 0, .int 0], .tup [.int 0, .int 100001, .int 0], .tup [.int 0, .int 0, .int 1000000000001], .tup [.int 0, .int 0, .int 0]] : List D)[i]? = some (.tup [.int (wrT i).1, .int (wrT i).2.1, .int (wrT i).2.2]) := by rcases cases6 with rfl | rfl | rfl | rfl | rfl | rfl <;> rfl
  have f3 : ([.int 1, .int 1, .int 1, .int 1, .int 1, .int 1000000000000001] : List D)[i]? = some (.int (wrM i)) := by rcases cases6 with rfl | rfl | rfl | rfl | rfl | rfl <;> rfl
  refine ⟨_, a1 _ _ f1, ?_⟩
  walk_at "au"
  refine go_setL (j := 2) up_same rfl ?_
  rw [up_up]
  walk_at "au"
  refine ⟨_, a1 _ _ f2, ?_⟩
  walk_at "au"
  refine go_setL (j := 4) up_same rfl ?_
  rw [up_up]
  walk_at "au"
  refine ⟨_, a1 _ _ f3, ?_⟩
  walk_at "au"
  refine go_setL (j := 5) up_same rfl ?_
  rw [up_up]
  have hw : up h w (.lst [.int nt.1, .int nt.2.1, .int (wrE i), .int nt.2.2.2.1, .tup [.int (wrT i).1, .int (wrT i).2.1, .int (wrT i).2.2], .int (wrM i)]) w = some (.lst [.int nt.1, .int nt.2.1, .int (wrE i), .int nt.2.2.2.1, .tup [.int (wrT i).1, .int (wrT i).2.1, .int (wrT i).2.2], .int (wrM i)]) := up_same
  have x1 := x0 [.int nt.1, .int nt.2.1, .int (wrE i), .int nt.2.2.2.1, .tup [.int (wrT i).1, .int (wrT i).2.1, .int (wrT i).2.2], .int (wrM i)]
  have U1 := Sub.new (o := .lst [.int nt.1, .int nt.2.1, .int (wrE i), .int nt.2.2.2.1, .tup [.int (wrT i).1, .int (wrT i).2.1, .int (wrT i).2.2], .int (wrM i)]) fw
  simp only [List.set]
  generalize up h w (.lst [.int nt.1, .int nt.2.1, .int (wrE i), .int nt.2.2.2.1, .tup [.int (wrT i).1, .int (wrT i).2.1, .int (wrT i).2.2], .int (wrM i)]) = h1 at hw x1 U1 ⊢
  have hm1 := x1.m
  walk_at "au"
  refine allr_spec x1 M fun b h2 f2 U2 e2 => ?_
  have x2 := x1.mv U2
  have hm2 := x2.m
  have hw2 := U2 _ _ hw
  walk_at "au"
  rw [show D.tup [.int nt.1, .int nt.2.1, .int (wrE i), .int nt.2.2.2.1, .tup [.int (wrT i).1, .int (wrT i).2.1, .int (wrT i).2.2], .int (wrM i)] = dN (wrN nt i) from rfl]
  refine hear_bad x2 (wr_bad hi) ?_
  refine ⟨true, rfl, fun a xx hx => ?_, fun z => nomatch z⟩
  walk_at "au"
  refine allh_spec x2 M fun b2 h3 f3 U3 e3 => ?_
  rw [da_R.eqLL (by decide) e3 (U3 _ _ e2), decide_eq_true rfl]
  exact fgt (ok _ ((U1.trans U2).trans U3))
end
theorem At.off {h : DH} {m d d2 : Addr} {l : List Rw} {k : List (List Key × D)} {o : MO} (x : At h m d l) (e : h d2 = some (.dT k)) (n : d ≠ d2) : At (up h d2 o) m d l := by
  refine ⟨?_, by rw [up_ne n]; exact x.d⟩
  rw [up_ne (fun z => by have := x.m; rw [z, e] at this; cases this)]
  exact x.m
theorem fold_up {m d : Addr} {l : List Rw} {h : DH} (x : At h m d l) (l' : List Rw) : At (up h d (.dT (l'.map kvR))) m d l' := ⟨up_ins x.m x.d, up_same⟩
section
variable {h H : DH} {P : KD} {R : KX} {m d m2 d2 p q a : Addr} {l l2 rows more : List Rw} {c g : Int} {nt : Nt}
theorem copyA_spec (x : At h m d l) (M : Mp l) (ok : ∀ m2 d2 H, h m2 = none → h d2 = none → Sub h H → At H m2 d2 l → P (.ref m2) H) : sp_copy_map [.ref m] h P R :=
  copy_spec x.m x.d M fun m2 d2 H f1 f2 S e1 e2 => ok m2 d2 H f1 f2 S ⟨e1, e2⟩
theorem join_spec (x : At h m d l) (M : Mp l) (x2 : At h m2 d2 l2) (M2 : Mp l2) (ok : ∀ m3 d3 H, h m3 = none → h d3 = none → Sub h H → At H m3 d3 ((al l2).foldl tk l) → P (.ref m3) H) : sp_join [.ref m, .ref m2] h P R := by
  unfold sp_join t_join
  walk_at "au"
  refine copyA_spec x M fun m3 d3 h1 f1 f2 U1 x3 => ?_
  have x21 := x2.mv U1
  have hm2 := x21.m
  walk_at "au"
  refine allr_spec x21 M2 fun t h2 f3 U2 e2 => ?_
  have x32 := x3.mv U2
  walk_at "au"
  refine takes (m := m3) (d := d3) (by decide) (al l2) l _ _ (by show 3 < 4; decide) rfl x32.m x32.d M (fun r hr => al_Mp.p6 _ (List.mem_map.mpr ⟨r, hr, rfl⟩)) (fun k => up_lst e2 x32.d) fun y => ?_
  walk_at "au"
  refine fgt (ok m3 d3 _ f1 f2 (fun a o e => ?_) (fold_up x32 _))
  rw [up_ne (fun z => by rw [z, f2] at e; cases e)]
  exact U2 _ _ (U1 _ _ e)
end
theorem ixI {xs : List Int} {i : Nat} (h : i < xs.length) : L2.atI (xs.map D.int) (i : Nat) = some (.int (xs.getD i 0)) :=
  L2.atI_nat (by rw [List.getElem?_map, List.getElem?_eq_getElem h, List.getD_eq_getElem?_getD, List.getElem?_eq_getElem h]; rfl)
theorem cut_first {α : Type} {f : α → D} {xs : List α} {i : Nat} : cutD (xs.map f) none (some (i : Int)) = (xs.take i).map f := by
  rw [cut_to (by omega), List.map_take]; rfl
theorem cut_rest {α : Type} {f : α → D} {xs : List α} {i : Nat} : cutD (xs.map f) (some (i : Int)) none = (xs.drop i).map f := by
  rw [cut_from (by omega), List.map_drop]; rfl
theorem chg_iff {l : List Rw} {r : Rw} (M : Mp l) (hr : pl r ∈ P6) : (look (tk l r) (pl r) ≠ look l (pl r)) ↔ ¬ al (tk l r) = al l := by
  constructor
  · intro n e
    refine n ?_
    rw [← look_al (M.tkM hr), e, look_al M]
  · intro n e
    refine n (al_congr fun p => ?_)
    by_cases z : pl r = p
    · subst z; exact e
    · rw [look_tk, if_neg z]
theorem new_row {l rs : List Rw} {r : Rw} (k : Kn l rs) (h3 : ∀ q ∈ rs, q.2.2.1 ≤ 3) (hr : 4 ≤ r.2.2.1) : look (tk l r) (pl r) ≠ look l (pl r) := fun e => by
  have h := LR.tk (l := l) (r := r)
  unfold LR at h
  rw [e, k.lk] at h
  obtain ⟨o, eo, _, z⟩ := h r rfl
  have lo : o.2.2.1 = lat rs (pl r) := by
    unfold stS at eo
    split at eo
    · cases eo
    · split at eo
      · cases eo; rfl
      · cases eo; rfl
  have : lat rs (pl r) ≤ 3 := by
    obtain ⟨_, _, h⟩ := lat_ge (rat rs (pl r)) (-1)
    rcases h with h | ⟨q, hq, e⟩
    · show (rat rs (pl r)).foldl stpE (-1) ≤ 3
      omega
    · have := h3 q (mem_rat.mp hq).1
      show (rat rs (pl r)).foldl stpE (-1) ≤ 3
      omega
  omega
theorem law_ok : LawOk 63 sp_law := by
  intro ns hl
  unfold sp_law t_law
  walk_at "au"
  refine law_rows_spec (n := 24) (by omega) fun xs lx x0 => go_new fun p h1 f1 S1 e1 => ?_
  walk_at "au"
  refine ⟨_, ixI (i := 22) (by omega), ?_⟩
  walk_at "au"
  obtain ⟨n, hn⟩ : ∃ n : Nat, xs.getD 22 0 % 23 = (n : Int) := ⟨(xs.getD 22 0 % 23).toNat, by have := Int.emod_nonneg (xs.getD 22 0) (show (23 : Int) ≠ 0 by decide); omega⟩
  rw [hn, cut_first]
  refine go_new fun p2 h2 f2 S2 e2 => ?_
  have e12 := S2 _ _ e1
  walk_at "au"
  have lt24 : (xs.take n).length ≤ 24 := by rw [List.length_take]; omega
  refine go_lcM (fun x => match x with | .int a => dR (lrow a) | _ => .non) (by rw [List.length_map]; exact le1000 (by omega)) (fun L acc hL => up_at e2 hL) (fun L acc dd X hL hdd h3 hX => ?_) ?_
  · obtain ⟨a, _, rfl⟩ := List.mem_map.mp hdd
    walk_at "au"
    refine lrow_spec ?_
    walk_at "au"
    exact hX
  rw [List.map_map]
  obtain ⟨rs, ers, gr, r3, lrs⟩ : ∃ rs : List Rw, (xs.take n).map ((fun x => match x with | .int a => dR (lrow a) | _ => .non) ∘ D.int) = rs.map dR ∧ (∀ r ∈ rs, Gr r) ∧ (∀ r ∈ rs, r.2.2.1 ≤ 3) ∧ rs.length ≤ 24 := by
    refine ⟨(xs.take n).map lrow, by rw [List.map_map]; rfl, fun r hr => ?_, fun r hr => ?_, by rw [List.length_map]; exact lt24⟩
    · obtain ⟨a, _, rfl⟩ := List.mem_map.mp hr
      exact lrow_gr
    · obtain ⟨a, _, rfl⟩ := List.mem_map.mp hr
      show a / 6 % 4 ≤ 3
      omega
  rw [ers]
  refine go_new fun q h3 f3 S3 eq => ?_
  have e13 := S3 _ _ e12
  walk_at "au"
  refine mapn_spec fun m d h4 f4 f4' S4 x4 => ?_
  have eq4 := S4 _ _ eq
  have e14 := S4 _ _ e13
  walk_at "au"
  have tkl : ∀ k, (rs.take k).length ≤ 24 := fun k => by rw [List.length_take]; omega
  have gtk : ∀ k, ∀ r ∈ rs.take k, Gr r := fun k r hr => gr r (List.mem_of_mem_take hr)
  have gdr : ∀ k, ∀ r ∈ rs.drop k, Gr r := fun k r hr => gr r (List.mem_of_mem_drop hr)
  rw [show ((rs.length : Nat) : Int).toNat = rs.length by omega]
  refine for_rng (n := rs.length) (fun k e h' => ∃ x4 x5 x6, At h' m d ((rs.take k).foldl tk []) ∧ h' q = some (.lst (rs.map dR)) ∧ h' p = some (.lst (xs.map D.int)) ∧ e = [some (.rol (ns.map D.int)), some (.ref p), some (.ref q), some (.ref m), x4, x5, x6, none, none, none, none, none, none, none, none, none, none]) (fun k e h' X hk i next => ?_) (fun e h' i => ?_) _ _ ⟨none, none, none, x4, eq4, e14, rfl⟩
  · obtain ⟨x4_, x5_, x6_, xa, ea, ep, rfl⟩ := i
    have K1 := Kn.fold (gtk k)
    have K2 := Kn.fold (gtk (k + 1))
    have er : rs[k]? = some rs[k] := List.getElem?_eq_getElem hk
    have tks : rs.take (k + 1) = rs.take k ++ [rs[k]] := by rw [List.take_succ, er]; rfl
    generalize rs[k] = r at er tks
    have hr : Gr r := gr r (List.mem_of_getElem? er)
    have K2' := K2
    rw [tks, List.foldl_append, List.foldl_cons, List.foldl_nil, ← tks] at K2'
    walk_at "au"
    rw [cut_first]
    refine go_new fun s h5 f5 U5 e5 => ?_
    walk_at "au"
    refine lall_spec e5 (by have := tkl k; omega) fun t h6 f6 U6 e6 => ?_
    have T6 := U5.trans U6
    have x6 := xa.mv T6
    have hm6 := x6.m
    have ea6 := T6 _ _ ea
    walk_at "au"
    refine ⟨_, L2.atI_nat (by rw [List.getElem?_map, er]; rfl), ?_⟩
    walk_at "au"
    refine takeA_spec x6 K1.mp hr.p6 fun x7 => ?_
    have e67 : up h6 d (.dT ((tk ((rs.take k).foldl tk []) r).map kvR)) t = some (.lst ((allS (rs.take k)).map dR)) := up_lst e6 x6.d
    have ea7 : up h6 d (.dT ((tk ((rs.take k).foldl tk []) r).map kvR)) q = some (.lst (rs.map dR)) := up_lst ea6 x6.d
    have ep7 : up h6 d (.dT ((tk ((rs.take k).foldl tk []) r).map kvR)) p = some (.lst (xs.map D.int)) := up_lst (T6 _ _ ep) x6.d
    generalize up h6 d (.dT ((tk ((rs.take k).foldl tk []) r).map kvR)) = h7 at x7 e67 ea7 ep7 ⊢
    walk_at "au"
    rw [show ((k : Nat) : Int) + 1 = ((k + 1 : Nat) : Int) by omega, cut_first]
    refine go_new fun s2 h8 f8 U8 e8 => ?_
    walk_at "au"
    refine lall_spec e8 (by have := tkl (k + 1); omega) fun t2 h9 f9 U9 e9 => ?_
    rw [da_R.neLL (by decide) e9 (U9 _ _ (U8 _ _ e67))]
    have ed : (!decide (allS (rs.take (k + 1)) = allS (rs.take k))) = decide (look (tk ((rs.take k).foldl tk []) r) (pl r) ≠ look ((rs.take k).foldl tk []) (pl r)) := by
      rw [← K1.al, ← K2'.al]
      rw [← decide_not]
      exact decide_eq_decide.mpr (chg_iff K1.mp hr.p6).symm
    rw [ed]
    walk_at "au"
    rw [show ((k : Nat) : Int) + 1 = ((k + 1 : Nat) : Int) by omega, cut_first]
    refine go_new fun s3 h10 f10 U10 e10 => ?_
    have T10 := (U8.trans U9).trans U10
    have x10 := x7.mv T10
    walk_at "au"
    refine told_spec x10 K2' (gtk (k + 1)) e10 (by have := tkl (k + 1); omega) fun H U11 => ?_
    walk_at "au"
    have T11 := T10.trans U11
    refine next _ _ ⟨_, _, _, ?_, T11 _ _ ea7, T11 _ _ ep7, rfl⟩
    rw [tks, List.foldl_append, List.foldl_cons, List.foldl_nil]
    exact x7.mv T11
  · obtain ⟨x4_, x5_, x6_, xa, ea, ep, rfl⟩ := i
    rw [List.take_length] at xa
    have K := Kn.fold gr
    generalize rs.foldl tk [] = l at xa K
    walk_at "au"
    refine mapn_spec fun mb db h5 f5 f5' U5 xb => ?_
    have xa5 := xa.mv U5
    have ea5 := U5 _ _ ea
    have ep5 := U5 _ _ ep
    have nb : d ≠ db := fun z => by rw [← z, xa.d] at f5'; cases f5'
    walk_at "au"
    refine go_new fun u1 h6 f6 U6 e6 => ?_
    have ea6 := U6 _ _ ea5
    rw [show (rs.map dR).reverse = rs.reverse.map dR by rw [List.map_reverse]] at e6
    refine go_catL e6 ea6 (by rw [List.length_map, List.length_map, List.length_reverse]; exact le1000 (by omega)) ?_
    rw [← List.map_append]
    refine go_new fun u2 h7 f7 U7 e7 => ?_
    have T7 := U6.trans U7
    have xb7 := xb.mv T7
    have ea7 := U7 _ _ ea6
    have grr : ∀ r ∈ rs.reverse ++ rs, Gr r := fun r hr => (List.mem_append.mp hr).elim (fun z => gr r (List.mem_reverse.mp z)) (gr r)
    walk_at "au"
    refine takes (m := mb) (d := db) (by decide) (rs.reverse ++ rs) [] _ _ (by show 8 < 17; decide) rfl xb7.m xb7.d Mp.nil (fun r hr => (grr r hr).p6) (fun k => up_lst e7 xb7.d) fun y8 => ?_
    have Kb : Kn ((rs.reverse ++ rs).foldl tk []) rs := (Kn.fold grr).same (fun r => by rw [List.mem_append, List.mem_reverse]; exact ⟨fun z => z.elim id id, .inr⟩) grr
    have xb8 := fold_up xb7 ((rs.reverse ++ rs).foldl tk [])
    have xa8 : At (up h7 db (.dT (((rs.reverse ++ rs).foldl tk []).map kvR))) m d l := (xa5.mv T7).off xb7.d nb
    have ea8 : up h7 db (.dT (((rs.reverse ++ rs).foldl tk []).map kvR)) q = some (.lst (rs.map dR)) := up_lst ea7 xb7.d
    have ep8 : up h7 db (.dT (((rs.reverse ++ rs).foldl tk []).map kvR)) p = some (.lst (xs.map D.int)) := up_lst (T7 _ _ ep5) xb7.d
    generalize (rs.reverse ++ rs).foldl tk [] = lb at Kb xb8 xa8 ea8 ep8 ⊢
    generalize up h7 db (.dT (lb.map kvR)) = h8 at xb8 xa8 ea8 ep8 ⊢
    walk_at "au"
    refine mapn_spec fun mf df h9 f9 f9' U9 xf => ?_
    walk_at "au"
    refine mapn_spec fun ms ds h10 f10 f10' U10 xs_ => ?_
    have T10 := U9.trans U10
    have xf10 := xf.mv U10
    have xa10 := xa8.mv T10
    have xb10 := xb8.mv T10
    have ea10 := T10 _ _ ea8
    have ep10 := T10 _ _ ep8
    have naf : d ≠ df := fun z => by rw [← z, xa8.d] at f9'; cases f9'
    have nbf : db ≠ df := fun z => by rw [← z, xb8.d] at f9'; cases f9'
    have nas : d ≠ ds := fun z => by have := xa8.mv U9; rw [← z, this.d] at f10'; cases f10'
    have nbs : db ≠ ds := fun z => by have := xb8.mv U9; rw [← z, this.d] at f10'; cases f10'
    have nfs : df ≠ ds := fun z => by rw [← z, xf.d] at f10'; cases f10'
    walk_at "au"
    refine ⟨_, ixI (i := 23) (by omega), ?_⟩
    walk_at "au"
    obtain ⟨hf, ehf⟩ : ∃ hf : Nat, xs.getD 23 0 % ((rs.length : Nat) + 1 : Int) = (hf : Int) := ⟨(xs.getD 23 0 % ((rs.length : Nat) + 1 : Int)).toNat, by have := Int.emod_nonneg (xs.getD 23 0) (show ((rs.length : Nat) + 1 : Int) ≠ 0 by omega); omega⟩
    rw [ehf]
    walk_at "au"
    rw [cut_first]
    refine go_new fun u3 h11 f11 U11 e11 => ?_
    have xf11 := xf10.mv U11
    walk_at "au"
    refine takes (m := mf) (d := df) (by decide) (rs.take hf) [] _ _ (by show 8 < 17; decide) rfl xf11.m xf11.d Mp.nil (fun r hr => (gtk hf r hr).p6) (fun k => up_lst e11 xf11.d) fun y8 => ?_
    have Kf := Kn.fold (gtk hf)
    have xf12 := fold_up xf11 ((rs.take hf).foldl tk [])
    have xa12 : At (up h11 df (.dT (((rs.take hf).foldl tk []).map kvR))) m d l := (xa10.mv U11).off xf11.d naf
    have xb12 : At (up h11 df (.dT (((rs.take hf).foldl tk []).map kvR))) mb db lb := (xb10.mv U11).off xf11.d nbf
    have xs12 : At (up h11 df (.dT (((rs.take hf).foldl tk []).map kvR))) ms ds [] := (xs_.mv U11).off xf11.d (Ne.symm nfs)
    have ea12 : up h11 df (.dT (((rs.take hf).foldl tk []).map kvR)) q = some (.lst (rs.map dR)) := up_lst (U11 _ _ ea10) xf11.d
    have ep12 : up h11 df (.dT (((rs.take hf).foldl tk []).map kvR)) p = some (.lst (xs.map D.int)) := up_lst (U11 _ _ ep10) xf11.d
    generalize (rs.take hf).foldl tk [] = lf at Kf xf12 xa12 xb12 xs12 ea12 ep12 ⊢
    generalize up h11 df (.dT (lf.map kvR)) = h12 at xf12 xa12 xb12 xs12 ea12 ep12 ⊢
    walk_at "au"
    rw [cut_rest]
    refine go_new fun u4 h13 f13 U13 e13 => ?_
    have xs13 := xs12.mv U13
    walk_at "au"
    refine takes (m := ms) (d := ds) (by decide) (rs.drop hf) [] _ _ (by show 8 < 17; decide) rfl xs13.m xs13.d Mp.nil (fun r hr => (gdr hf r hr).p6) (fun k => up_lst e13 xs13.d) fun y8 => ?_
    have Ks := Kn.fold (gdr hf)
    have xs14 := fold_up xs13 ((rs.drop hf).foldl tk [])
    have xa14 : At (up h13 ds (.dT (((rs.drop hf).foldl tk []).map kvR))) m d l := (xa12.mv U13).off xs13.d nas
    have xb14 : At (up h13 ds (.dT (((rs.drop hf).foldl tk []).map kvR))) mb db lb := (xb12.mv U13).off xs13.d nbs
    have xf14 : At (up h13 ds (.dT (((rs.drop hf).foldl tk []).map kvR))) mf df lf := (xf12.mv U13).off xs13.d nfs
    have ea14 : up h13 ds (.dT (((rs.drop hf).foldl tk []).map kvR)) q = some (.lst (rs.map dR)) := up_lst (U13 _ _ ea12) xs13.d
    have ep14 : up h13 ds (.dT (((rs.drop hf).foldl tk []).map kvR)) p = some (.lst (xs.map D.int)) := up_lst (U13 _ _ ep12) xs13.d
    generalize (rs.drop hf).foldl tk [] = ls at Ks xs14 xa14 xb14 xf14 ea14 ep14 ⊢
    generalize up h13 ds (.dT (ls.map kvR)) = h14 at xs14 xa14 xb14 xf14 ea14 ep14 ⊢
    walk_at "au"
    refine join_spec xf14 Kf.mp xs14 Ks.mp fun mo dO_ h15 f15 f15' U15 xo => ?_
    have Ko : Kn ((al ls).foldl tk lf) rs := by
      have := Kf.join Ks (gtk hf) (gdr hf)
      rwa [List.take_append_drop] at this
    generalize (al ls).foldl tk lf = lo at Ko xo ⊢
    walk_at "au"
    rw [cut_first]
    refine go_new fun u5 h16 f16 U16 e16 => ?_
    walk_at "au"
    have T16 := U15.trans U16
    refine told_spec (xf14.mv T16) Kf (gtk hf) e16 (by have := tkl hf; omega) fun h17 U17 => ?_
    walk_at "au"
    have T17 := T16.trans U17
    have ea17 := T17 _ _ ea14
    rw [cut_rest]
    refine go_new fun u6 h18 f18 U18 e18 => ?_
    walk_at "au"
    have T18 := T17.trans U18
    refine told_spec (xs14.mv T18) Ks (gdr hf) e18 (by rw [List.length_drop]; omega) fun h19 U19 => ?_
    walk_at "au"
    have T19 := T18.trans U19
    have O19 := ((U16.trans U17).trans U18).trans U19
    refine told_spec (xb14.mv T19) Kb gr (T19 _ _ ea14) (by omega) fun h20 U20 => ?_
    walk_at "au"
    have T20 := T19.trans U20
    have O20 := O19.trans U20
    refine told_spec (xo.mv O20) Ko gr (T20 _ _ ea14) (by omega) fun h21 U21 => ?_
    walk_at "au"
    have T21 := T20.trans U21
    refine same_spec (xo.mv (O20.trans U21)) Ko.mp (xa14.mv T21) K.mp fun h22 U22 => ?_
    rw [decide_eq_true (show al lo = al l by rw [Ko.al, K.al])]
    walk_at "au"
    have T22 := T21.trans U22
    have xa22 := xa14.mv T22
    have ea22 := T22 _ _ ea14
    have ep22 := T22 _ _ ep14
    refine copyA_spec xa22 K.mp fun mc dc h23 f23 f23' U23 xc => ?_
    have xa23 := xa22.mv U23
    have nac : d ≠ dc := fun z => by rw [← z, xa22.d] at f23'; cases f23'
    have ea23 := U23 _ _ ea22
    have ep23 := U23 _ _ ep22
    walk_at "au"
    refine ⟨_, ixI (i := 23) (by omega), ?_⟩
    walk_at "au"
    refine ⟨_, ixI (i := 22) (by omega), ?_⟩
    walk_at "au"
    refine notice_spec ?_
    walk_at "au"
    have N : Nok (ntL (xs.getD 23 0 % 6) (4 + xs.getD 22 0 % 2) 1) := ntL_ok (by omega)
    have gn : Gr (rowN (ntL (xs.getD 23 0 % 6) (4 + xs.getD 22 0 % 2) 1)) := rowN_gr (by omega)
    have en : 4 ≤ (rowN (ntL (xs.getD 23 0 % 6) (4 + xs.getD 22 0 % 2) 1)).2.2.1 := by
      show 4 ≤ 4 + xs.getD 22 0 % 2
      omega
    generalize ntL (xs.getD 23 0 % 6) (4 + xs.getD 22 0 % 2) 1 = nt at N gn en ⊢
    have hc := new_row K r3 en
    have Kc : Kn (tk l (rowN nt)) (rs ++ [rowN nt]) := K.more gr (more := [rowN nt]) fun r hr => by rw [List.mem_singleton.mp hr]; exact gn
    have hs2 : tk (tk l (rowN nt)) (rowN nt) = tk l (rowN nt) := tk_same LR.tk
    refine check_spec N ?_
    have hmc := xc.m
    walk_at "au"
    refine hear_spec xc K.mp N gn.p6 fun xc2 => ?_
    have xa24 : At (up h23 dc (.dT ((tk l (rowN nt)).map kvR))) m d l := xa23.off xc.d nac
    have ea24 : up h23 dc (.dT ((tk l (rowN nt)).map kvR)) q = some (.lst (rs.map dR)) := up_lst ea23 xc.d
    have ep24 : up h23 dc (.dT ((tk l (rowN nt)).map kvR)) p = some (.lst (xs.map D.int)) := up_lst ep23 xc.d
    generalize up h23 dc (.dT ((tk l (rowN nt)).map kvR)) = h24 at xc2 xa24 ea24 ep24 ⊢
    rw [decide_eq_true hc]
    have hmc2 := xc2.m
    walk_at "au"
    refine hear_spec xc2 Kc.mp N gn.p6 fun xc3 => ?_
    rw [hs2, up_id xc2.d, decide_eq_false (fun z => z rfl)]
    walk_at "au"
    refine same_spec xc2 Kc.mp xa24 K.mp fun h25 U25 => ?_
    rw [decide_eq_false ((chg_iff K.mp gn.p6).mp hc)]
    walk_at "au"
    refine told_spec (xa24.mv U25) K gr (U25 _ _ ea24) (by omega) fun h26 U26 => ?_
    walk_at "au"
    have T26 := U25.trans U26
    refine rowof_spec ?_
    walk_at "au"
    refine go_new fun u7 h27 f27 U27 e27 => ?_
    have T27 := T26.trans U27
    refine go_catL (T27 _ _ ea24) (show h27 u7 = some (.lst ([rowN nt].map dR)) from e27) (by rw [List.length_map]; exact le1000 (by show rs.length + 1 ≤ 1000; omega)) ?_
    rw [← List.map_append]
    refine go_new fun u8 h28 f28 U28 e28 => ?_
    have T28 := T27.trans U28
    have gc : ∀ r ∈ rs ++ [rowN nt], Gr r := fun r hr => (List.mem_append.mp hr).elim (gr r) fun z => by rw [List.mem_singleton.mp z]; exact gn
    walk_at "au"
    refine told_spec (xc2.mv T28) Kc gc e28 (by rw [List.length_append]; show rs.length + 1 ≤ 900; omega) fun h29 U29 => ?_
    walk_at "au"
    have T29 := T28.trans U29
    refine simple_spec ?_
    walk_at "au"
    have xa29 := xa24.mv T29
    have ea29 := T29 _ _ ea24
    refine for_rng (n := 6) (fun k e h' => ∃ x15, Sub h29 h' ∧ e = [some (.rol (ns.map D.int)), some (.ref p), some (.ref q), some (.ref m), x4_, x5_, x6_, some (.ref mb), y8, some (.ref mf), some (.ref ms), some (.int (hf : Nat)), some (.ref mo), some (.ref mc), some (dN nt), x15, none]) (fun k e h' X hk i next => ?_) (fun e h' i => ?_) _ _ ⟨none, Sub.refl _, rfl⟩
    · obtain ⟨x15, U, rfl⟩ := i
      walk_at "au"
      refine refused_spec hk (xa29.mv U) K.mp fun H U2 => ?_
      walk_at "au"
      exact next _ _ ⟨_, U.trans U2, rfl⟩
    · obtain ⟨x15, U, rfl⟩ := i
      walk_at "au"
      refine told_spec (xa29.mv U) K gr (U _ _ ea29) (by omega) fun H U2 => ?_
      exact fgt rfl
end Lk66

open PySem PySem.W PySem.Calls PyProof.Rows
theorem PySem.Challenge.cw_droveway_k66_maps_holds : PySem.Challenge.rw_droveway_k66_maps.Holds := by
  w_on; o_law
  refine HandSHeadRun.head_any (r := OpenLaw.row PySem.Challenge.rw_droveway_k66_maps) (q := view (OpenLaw.row PySem.Challenge.rw_droveway_k66_maps).prog [28]) (H := Lk66.hk) (ob := Lk66.ob) (M := 3000) (loose := Lk66.nms) (d := HandSHeadRun.topDef (OpenLaw.row PySem.Challenge.rw_droveway_k66_maps).prog 28) (kwd := []) Lk66.ob_eq
    (by kernel_rfl) (fun s => by kernel_rfl) Lk66.run (by kernel_rfl) (by kernel_rfl) (by kernel_rfl) (by rfl) (by first | assumption | decide +kernel) (by decide +kernel) ⟨rfl, rfl, rfl, rfl, rfl, by decide +kernel⟩ ?hw ?hc
  case hw => w_witness2
  case hc =>
    refine DW.walk_end (l := PySem.Challenge.rw_droveway_k66_maps) (n := 63) (k := 5) (sp := Lk66.sp_law) (x := ("script" : PySem.Str)) (fun P w K mg base => (Lk66.md).pg P w K mg base) (fun _ _ _ _ _ => rfl) (fun _ _ _ _ _ _ => rfl) rfl (by decide) (by kernel_rfl) ⟨rfl, by decide, by decide⟩ Lk66.law_ok ?F
    intro w mg fa h Y G hmg0
    obtain ⟨K, KX, c⟩ := Y
    have hmg : mg ("law" : PySem.Str) = some (.ref fa) := by
      have e : (HandSHeadRun.topDef (OpenLaw.row PySem.Challenge.rw_droveway_k66_maps).prog 28).name = ("law" : PySem.Str) := by kernel_rfl
      rw [← e]
      exact hmg0
    have hc2 := (He.ba (He.ba c.x.more).2).1
    have e := hmg.symm.trans (PySem.W.mg_of KX G (He.eqO_ok (List.all_eq_true.mp hc2 ("law" : PySem.Str) (by decide +kernel))))
    cases e
    obtain ⟨fd, hb, hF⟩ := Lk66.chain (P := (PySem.Challenge.rw_droveway_k66_maps).prog) (w := w) KX G c
    exact ⟨K, fd, KX, hb, hF⟩
