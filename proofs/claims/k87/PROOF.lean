import PyProof.Rows.All
import Wide.All
import OpenK.AllK
import Wide.FinOn
import PyProof.InstNe
import HandS.ForMost
import HandS.WordsExc
import HandS.Wide
import HandS.HotCalls
import HandS.SlotsOwn
import HandS.TupSets
import HandS.Conv
import HandS.More
import PyProof.DictCopy
import PyProof.DictUpdate
import KE.KDictOf
import KE.KDictSum
import PyProof.Rows.RuleB_bool
import HandS.Deep
import HandS.TupAny
import HandS.TupLe
import HandS.Style
import HandS.Property
import HandS.CallSlots
import HandS.Defaults
import HandS.Iter
import HandS.Rev
import HandS.Zip
import HandS.SortInts
import HandS.IsInst
import HandS.TupLen
import HandS.Flow
import PyProof.WalksMore
import PyProof.TupleIter
import HandS.DictComp
import HandS.TryMany
import HandS.ExcIs
import HandS.Small
import HandS.Head0
import HandS.Head1
import HandS.Head2
import HandS.HeadEnd
import HandS.HeadHook1
import HandS.HeadHook2
import HandS.HeadHook3
import HandS.HeadHook4
import PySem.Challenge.RW_droveway_k87_peeling
set_option Elab.async false
set_option linter.all false
set_option maxRecDepth 100000
set_option maxHeartbeats 0
/-! DW, part 0: what the kit's own layers lack. -/
namespace DW
open PySem PySem.Spec PyProof.Rows
section
variable {prog : Program} {w : World} {A : Around} {E : Value → Shared → Prop} {s : Shared} {K : PySem.W.Frag} {x C L f : Addr} {h₀ : Heap} {m : Str → Option Value} {ox : Obj} {od : Option Obj} {b : Value}
open PySem.W in
/-- a special that is a built-in slot -/
theorem ifBound_KB {M : Model} {args : List Value} {id : String} {Q : Option Value → Shared → Prop} {name : Str} (X : K.In s.heap) (I : InstAt s.heap x ox C od) (hs : findIn K (.ref C) name = some (some (.builtin id))) (hb : bindSpecial (.builtin id) (.ref x) = pure (.builtin id, [.ref x]))
    (h : wpAny M A (call (.builtin id) (.ref x :: args)) (fun v => Q (some v)) E s) : wpAny M A (callSpecialIfBound? (.ref x) name args) Q E s := by
  simp only [callSpecialIfBound?, bindSpecialIfBound?]
  refine wpAny_holding (wpAny_bind (wpAny_bind (wpAny_bind (I.type.here ((looks_findIn X hs).here ?_)))))
  refine wpAny_bind (wpAny_askSetting (wpAny_ite ?_))
  have fin : wpAny M A (call (.builtin id) ([.ref x] ++ args) >>= fun v => pure (some v)) Q E s := wpAny_bind (wpAny_mono h (fun v s' h' => wpAny_pure h') fun _ _ h' => h')
  split
  · exact wpAny_bind ((Looks.of_pure hb).here (wpAny_pure (by exact fin)))
  · exact wpAny_tryCatch (wpAny_bind ((Looks.of_pure hb).here (wpAny_pure (by exact fin))))
open PySem.W in
/-- x != b by an own __eq__ (b an instance of the same class) -/
theorem ne_K {Q : Value → Shared → Prop} (hu : A.units + 1 < cLine) (F : Fr h₀ L s.heap m) (X₀ : K.In h₀) (I : InstAt s.heap x ox C od) (hb : Looks (model prog w) s.heap (typeOf b) (.ref C))
    (hm : mroIn K C (.type "object") = some true) (hne : findIn K (.ref C) "__ne__" = some (some (.builtin "object.__ne__"))) (hs : findIn K (.ref C) "__eq__" = some (some (.ref f))) (hf : isFn K (.ref f) = true)
    (h : wpAny (model prog w) A.in1 (call (.ref f) [.ref x, b]) (fun v s' => ∃ c, v = .bool c ∧ Q (.bool (!c)) s') E s) : wpAny (model prog w) A (compareOp .NotEq (.ref x) b) Q E s := by
  have X := X₀.keeps F.keep
  have one : wpAny (model prog w) A (tryCompare (.ref x) "__ne__" b) (fun r s' => ∃ c, r = some (.bool c) ∧ Q (.bool c) s') E s := by
    unfold tryCompare
    refine wpAny_bind (ifBound_KB X I hne (PySem.F.cmp_object.ne.bind _) ?_)
    have t2 : Looks (model prog w) s.heap (isInstance (.ref x) (.type "object")) true := I.type.andThen (looks_mroIn X hm)
    refine wpAny_call (codeAny_call_builtin PySem.F.cmp_object.ne.plain PySem.F.cmpEntry_ne (@PySem.W.check_slot (model prog w) _ _ _ "object.__ne__" "object" "__ne__" (.ref x) [b] [] _ PySem.F.cmpKind_ne PySem.F.cmpSplit_ne t2 (PySem.F.cmpArgs_ne _ _) ?_))
    unfold Builtin.«object.__ne__»
    repeat (first
      | with_reducible refine wpAny_cRoomFor (show A.in1.units < cLine from hu) ?_
      | (refine wpAny_bind (m := callSpecialIfBound? (.ref x) (Str.ofString "__eq__") [b])
          (ifBound_K X I hs hf (wpAny_mono h (fun r s' hr => by
            obtain ⟨c, rfl, hq⟩ := hr
            repeat (first | exact ⟨_, rfl, hq⟩ | exact ⟨(fun e => nomatch e), wpAny_pure ⟨_, rfl, hq⟩⟩ | exact wpAny_pure ⟨(fun e => nomatch e), wpAny_pure ⟨_, rfl, hq⟩⟩ | (refine wpAny_bind (m := truthy (.bool _)) (wpAny_truthy_bool ?_)) | wp_step)) fun _ _ e => e)))
      | wp_step)
  show wpAny (model prog w) A (richCompare .NotEq (.ref x) b) Q E s
  unfold richCompare
  simp only [oneThing_ref]
  refine wpAny_holding (wpAny_bind (wpAny_cRoomFor (by omega) ?_))
  refine wpAny_bind (I.type.here (wpAny_bind (hb.here ?_)))
  rw [show (Value.ref C != Value.ref C) = false from by simp]
  simp only [Bool.false_eq_true, if_false]
  refine wpAny_bind (wpAny_pure ?_)
  simp only [Bool.false_eq_true, if_false]
  refine wpAny_bind (wpAny_mono one (fun r s' z => ?_) fun _ _ e => e)
  obtain ⟨c, rfl, hq⟩ := z
  exact wpAny_pure hq
end

/-! ### dict(d), sorted(d): keys tuples of ints -/
/-- the hash of a tuple of ints -/
def ihash (k : List Int) : Int := reduceHash (Builtin.Tuple.tupleHashOf (k.map hashInt))
open L2
theorem ihash_eq {P : Program} {w : World} (k : List Int) : tupleKeyHash (mixKind P w) (k.map Sum.inl) = ihash k := by
  unfold tupleKeyHash ihash
  rw [List.map_map]
  rfl
theorem filter_one {α : Type} {f : α → Int} {e : α} : ∀ {l : List α}, (l.map f).Nodup → (l.filter fun z => f z == f e).length ≤ 1
  | [], _ => by simp
  | a :: l, h => by
    rw [List.map_cons, List.nodup_cons] at h
    rw [List.filter_cons]
    split
    · rename_i q
      have q' : f a = f e := by simpa using q
      have z : l.filter (fun z => f z == f e) = [] := by
        rw [List.filter_eq_nil_iff]
        intro b hb q2
        exact h.1 (List.mem_map.mpr ⟨b, hb, by rw [q']; simpa using q2⟩)
      rw [z]
      simp
    · exact filter_one h.2
section
variable {prog : Program} {w : World} {A : Around} {E : Value → Shared → Prop} {s : Shared}
theorem entriesT {id : String} {d : Addr} {o : Obj} {es : Array DictEntry} {ep : Nat} {Q : Array DictEntry → Shared → Prop} (ho : s.heap.get? d = some o) (hd : o.data = .dict es ep)
    (hk : ∀ e ∈ es.toList, ∃ a, e.key = .ref a ∧ s.TypeIs (.ref a) "tuple") (hn : (es.toList.map (·.hash)).Nodup) (h : Q es s) : wpAny (model prog w) A (Builtin.Dict.entriesForEmpty id d) Q E s := by
  unfold Builtin.Dict.entriesForEmpty
  refine wpAny_bind (wpAny_dictEntries ho hd ?_)
  refine wpAny_bind ?_
  rw [← Array.forIn_toList]
  refine wpAny_forIn_list _ (fun rest _ s' => s' = s ∧ ∀ e ∈ rest, e ∈ es.toList) _ ?_ ?_ _ _ ⟨rfl, fun e he => he⟩
  · rintro e rest b s' ⟨rfl, hr⟩
    have he := hr e List.mem_cons_self
    obtain ⟨a, ea, ta⟩ := hk e he
    have hf : (es.filter (·.hash == e.hash)).size ≤ 1 := by
      have z := filter_one (f := fun z : DictEntry => z.hash) (e := e) hn
      rw [← Array.length_toList, Array.toList_filter]
      exact z
    refine wpAny_bind ?_
    rw [ea]
    unfold Builtin.Dict.quietEq
    refine wpAny_bind (wpAny_specialOf ta F.slot_tuple_eq.lookup ?_)
    refine wpAny_pure ?_
    rw [if_pos (by decide)]
    rw [if_neg (by omega)]
    exact wpAny_pure ⟨rfl, fun e he => hr e (List.mem_cons_of_mem _ he)⟩
  · rintro b s' ⟨rfl, _⟩
    exact wpAny_pure h
end

section
variable {prog : Program} {w : World} {A : Around} {E : Value → Shared → Prop} {s : Shared}
/-- what a new dict takes over from one whose keys are tuples -/
theorem mergeT {nm : String} {d o : Addr} {oo od : Obj} {es : Array DictEntry} {ep epd : Nat} {Q : Unit → Shared → Prop} (hdo : d ≠ o) (hoS : (o == sysModules) = false) (hd : s.heap.get? d = some od) (hdd : od.data = .dict #[] epd)
    (ho : s.heap.get? o = some oo) (hod : oo.data = .dict es ep) (hk : ∀ e ∈ es.toList, ∃ a, e.key = .ref a ∧ s.TypeIs (.ref a) "tuple") (hn : (es.toList.map (·.hash)).Nodup) (hsz : es.size ≤ sizeLine)
    (hQ : ∀ h', (es = #[] ∧ h' = s.heap ∨ h' = s.heap.update d (Obj.mapDictKeys fun _ => es)) → Q () { s with heap := h' }) : wpAny (model prog w) A (Builtin.Dict.mergeDict nm d o) Q E s := by
  unfold Builtin.Dict.mergeDict
  rw [if_neg (by simpa using hdo)]
  unfold Builtin.Dict.showsAll
  rw [if_neg (by rw [hoS]; exact Bool.false_ne_true)]
  refine wpAny_bind (wpAny_pure ?_)
  refine wpAny_bind (wpAny_dictEntries ho hod ?_)
  dsimp only
  cases hl : es.toList with
  | nil =>
    have he : es = #[] := Array.toList_eq_nil_iff.mp hl
    subst he
    rw [if_neg (by simp)]
    refine wpAny_bind (wpAny_dictEpoch ho hod ?_)
    refine wpAny_bind (wpAny_dictEntries ho hod ?_)
    refine wpAny_bind ?_
    rw [Std.Legacy.Range.forIn_eq_forIn_range']
    simp only [Std.Legacy.Range.size, List.size_toArray, List.length_nil, Nat.sub_zero, Nat.add_sub_cancel, Nat.div_one, List.range'_zero]
    exact wpAny_pure (wpAny_pure (hQ _ (.inl ⟨rfl, rfl⟩)))
  | cons e r =>
    have few : (decide (es.size ≤ 8) && es.all fun e => (keyPart e.key).isSome) = false := by
      rw [Bool.and_eq_false_iff]
      right
      rw [← Array.all_toList, hl, List.all_cons]
      obtain ⟨a, ea, _⟩ := hk e (by rw [hl]; exact List.mem_cons_self)
      rw [ea]
      rfl
    rw [few]
    simp only [Bool.not_false, if_true]
    refine wpAny_bind (wpAny_dictEntries hd hdd ?_)
    rw [if_pos (by rfl)]
    refine wpAny_bind (entriesT ho hod hk hn ?_)
    have hne : es.isEmpty = false := by
      rw [Bool.eq_false_iff]
      intro z
      have := Array.isEmpty_iff.mp z
      rw [this] at hl
      cases hl
    rw [hne]
    simp only [Bool.not_false, if_true]
    exact wpAny_bind (wpAny_updateDictKeysTo hd hdd (wpAny_pure (hQ _ (.inr rfl))) (by show es.size ≤ sizeLine + 1; omega))
theorem dictT_call {o : Addr} {oo : Obj} {es : Array DictEntry} {ep : Nat} {Q : Value → Shared → Prop} (hoS : (o == sysModules) = false) (ho : s.heap.get? o = some oo) (hx : oo.ExactDict) (hod : oo.data = .dict es ep)
    (hk : ∀ e ∈ es.toList, ∃ a, e.key = .ref a ∧ s.TypeIs (.ref a) "tuple") (hn : (es.toList.map (·.hash)).Nodup) (hsz : es.size ≤ sizeLine)
    (h : ∀ h' q ep', h'.get? s.heap.objs.size = some q → q.ExactDict → q.data = .dict es ep' → Heap.SameBut s.heap.objs.size (s.heap.push { cls := .type "dict", data := .dict #[] }) h' → Q (.ref s.heap.objs.size) { s with heap := h' }) :
    wpAny (model prog w) A (call (.type "dict") [.ref o]) Q E s := by
  refine callType_codes (Q₁ := fun obj s₁ => obj = .ref s.heap.objs.size ∧ s₁ = { s with heap := s.heap.push { cls := .type "dict", data := .dict #[] } }) F.kt_called_dict (F.kt_typeCall_dict_1 _) F.entry_dict_init (kt_code_dict_new _ ⟨rfl, rfl⟩) ?_
  rintro obj s₁ ⟨rfl, rfl⟩
  have hN : (s.heap.push { cls := .type "dict", data := .dict #[] }).get? s.heap.objs.size = some { cls := .type "dict", data := .dict #[] } := Heap.get?_push_size _ rfl
  have ho' : (s.heap.push { cls := .type "dict", data := .dict #[] }).get? o = some oo := Heap.get?_push_of_some _ ho
  have hdo : s.heap.objs.size ≠ o := fun e => absurd (Heap.lt_size ho) (by rw [e]; exact Nat.lt_irrefl _)
  have tN : Shared.TypeIs { s with heap := s.heap.push { cls := .type "dict", data := .dict #[] } } (.ref s.heap.objs.size) "dict" := ⟨_, hN, rfl⟩
  have tO : Shared.TypeIs { s with heap := s.heap.push { cls := .type "dict", data := .dict #[] } } (.ref o) "dict" := ⟨_, ho', hx.1⟩
  refine ⟨tN, F.args_dict_init_2 _ _, ?_⟩
  unfold Builtin.«dict.__init__»
  refine wpAny_bind ?_
  unfold Builtin.Dict.selfAndRest
  refine wpAny_bind (wpAny_notOrdered_dict tN ?_)
  show wpAny _ _ (pure (s.heap.objs.size, [Value.ref o])) _ _ _
  refine wpAny_pure ?_
  show wpAny _ _ (Builtin.Dict.updateFrom "dict.__init__" s.heap.objs.size (.ref o) [] .none) _ _ _
  unfold Builtin.Dict.updateFrom
  refine wpAny_bind (wpAny_typeOf tO ?_)
  rw [if_neg (by decide)]
  refine wpAny_bind ?_
  unfold Builtin.Dict.merge
  refine wpAny_bind ?_
  unfold Builtin.Dict.readDirectly
  refine wpAny_bind (wpAny_isInstance tO isSubtype_dict_dict ?_)
  simp only [Bool.not_true, Bool.false_eq_true, if_false]
  refine wpAny_bind (wpAny_specialOf tO F.slot_dict_iter.lookup (wpAny_pure ?_))
  simp only [beq_self_eq_true, if_true]
  refine wpAny_bind (wpAny_pure ?_)
  refine mergeT (s := { s with heap := s.heap.push { cls := .type "dict", data := .dict #[] } }) hdo hoS hN rfl ho' hod (fun e he => ?_) hn hsz fun h' hh => ?_
  · obtain ⟨a, ea, oa, h1, h2⟩ := hk e he
    exact ⟨a, ea, oa, Heap.get?_push_of_some _ h1, h2⟩
  show wpAny _ _ (Builtin.Dict.addKeywords s.heap.objs.size [] >>= _) _ _ _
  refine wpAny_bind (wpAny_pure (wpAny_pure ⟨rfl, ?_⟩))
  rcases hh with ⟨rfl, rfl⟩ | rfl
  · exact h _ _ _ hN ⟨rfl, rfl, rfl⟩ rfl (Heap.SameBut.refl _ _)
  · refine h _ _ _ (Heap.get?_update_self _ hN (Obj.isFreed_of_dict (Obj.data_mapDictKeys (o := { cls := .type "dict", data := .dict #[] }) rfl _))) ?_ (Obj.data_mapDictKeys (o := { cls := .type "dict", data := .dict #[] }) rfl _) (Heap.SameBut.update ..)
    exact Obj.ExactDict.mapDictKeys ⟨rfl, rfl, rfl⟩ _
end

theorem kt_keys {H : Hp} : ∀ {kvs : List (List Key × V)} {xs : List (List Key × Addr × Value)}, KT H kvs xs → xs.map (·.1) = kvs.map (·.1)
  | _, _, .nil => rfl
  | _, _, .cons h t => by rw [List.map_cons, List.map_cons, kt_keys t, h.1]
section
variable {X : Cx}
/-- dict(d): a copy of a dict whose keys are tuples of ints, of different hashes -/
def rDictT : List V → Hp → VK → Prop := fun xs H Q => ∃ (a : Addr) (kvs : List (List Key × V)) (ks : List (List Int)), xs = [.ref a] ∧ Rd H a (.dT kvs) ∧ kvs.map (·.1) = ks.map (List.map Sum.inl) ∧ (ks.map ihash).Nodup ∧ ∀ p, H p = none → Q (.ref p) (upd H p (.dT kvs))
theorem call_dictT : CallR X (.type "dict") rDictT := by
  intro pins s σ H xs us Q I r q
  obtain ⟨a, kvs, ks, ex, hd, hks, hnd, q⟩ := q
  subst ex
  obtain ⟨u, rfl, rx⟩ := r.one
  cases rx
  obtain ⟨z, hs, ys, pr, o, es, ep, ho, hx, hdt, he, hn⟩ := (show ObjOk X.prog X.w H s.heap a (.dT kvs) from hd.ok I.hok)
  have hlen : es.size = kvs.length := by rw [size_of_entries he, Paired.length pr]
  have hhash : es.toList.map (·.hash) = ks.map ihash := by
    rw [he, List.map_map]
    have e1 : ys.map ((fun e : DictEntry => e.hash) ∘ entryOfKey (tupleKind (mixKind X.prog X.w))) = (ys.map (·.1)).map (tupleKeyHash (mixKind X.prog X.w)) := by rw [List.map_map]; rfl
    rw [e1, kt_keys pr, hks, List.map_map]
    exact List.map_congr_left fun k _ => ihash_eq k
  refine dictT_call hs ho hx hdt (fun e hm => ?_) (by rw [hhash]; exact hnd) (by omega) fun h' o' ep' g1 g2 g3 sb => ?_
  · rw [he] at hm
    obtain ⟨y, hy, rfl⟩ := List.mem_map.mp hm
    have hk : ∃ k : List Key, H y.2.1 = some (.tup (k.map kV)) := by
      have all : ∀ {l : List (List Key × V)} {m : List (List Key × Addr × Value)}, KT H l m → ∀ x ∈ m, H x.2.1 = some (.tup (x.1.map kV)) := by
        intro l m q
        induction q with
        | nil => intro x hx; cases hx
        | cons h t ih =>
          intro x hx
          rcases List.mem_cons.mp hx with e | hx
          · rw [e, ← h.1]; exact h.2.1
          · exact ih x hx
      exact ⟨y.1, all pr y hy⟩
    obtain ⟨k, hk⟩ := hk
    exact ⟨y.2.1, rfl, (key_of I.hok hk).typeIs⟩
  · have hm : (s.heap.objs.size == sysModules) = false := beq_eq_false_iff_ne.mpr (Nat.ne_of_gt I.big)
    have hp := I.hok.fresh (Nat.le_refl s.heap.objs.size)
    refine ⟨.ref s.heap.objs.size, upd H s.heap.objs.size (.dT kvs), I.laid (t' := s.toks) (fun b u e => (sb.2 b (Nat.ne_of_lt (Heap.lt_size e))).trans (Heap.get?_push_of_some _ e)) (Nat.le_refl _)
      (show ObjOk X.prog X.w _ _ _ (.dT kvs) from ⟨z, hm, ys, KT.keeps pr fun c vs ec => ?_, o', es, ep', g1, g2, g3, he, hn⟩), rfl, q _ hp⟩
    rw [upd_ne (ne_of_none ec hp)]
    exact ec
/-- sorted(d), d's keys fewer than 64 tuples of k ints in [0, B) -/
def rSortDT (d : Nat) (B : Int) : List V → Hp → VK → Prop := fun vs H Q => ∃ (a : Addr) (kvs : List (List Key × V)) (ks : List (List Int)), vs = [V.ref a] ∧ Rd H a (.dT kvs) ∧ kvs.map (·.1) = ks.map (List.map Sum.inl) ∧ ks.length < 64 ∧ (∀ k ∈ ks, k.length = d ∧ TS.Bd B k) ∧
  ∀ (ys : List (List Int)) (bs : List Addr) (p : Addr), ys.Perm ks → ys.Pairwise (fun x y => TS.code B x ≤ TS.code B y) → Paired (fun k b => H b = some (.tup (k.map V.int))) ys bs → H p = none → Q (.ref p) (upd H p (.lst (bs.map V.ref)))
theorem unrefs : ∀ {us : List Value} {bs : List Addr}, us.Perm (bs.map Value.ref) → ∃ cs : List Addr, us = cs.map Value.ref ∧ cs.Perm bs := fun {us bs} p => by
  have hu : ∀ u ∈ us, ∃ a, u = Value.ref a := fun u hu => by
    obtain ⟨b, _, e⟩ := List.mem_map.mp (p.mem_iff.mp hu)
    exact ⟨b, e.symm⟩
  let f : Value → Addr := fun v => match v with
    | .ref a => a
    | _ => 0
  have e1 : us = (us.map f).map Value.ref := by
    rw [List.map_map]
    conv => lhs; rw [← List.map_id us]
    refine List.map_congr_left fun u h => ?_
    obtain ⟨a, rfl⟩ := hu u h
    rfl
  refine ⟨us.map f, e1, ?_⟩
  have e2 := p.map f
  rw [List.map_map] at e2
  have e3 : bs.map (f ∘ Value.ref) = bs := by
    conv => rhs; rw [← List.map_id bs]
    rfl
  rw [e3] at e2
  exact e2
theorem paired_map {α β : Type} {R : α → β → Prop} {f : β → α} : ∀ {bs : List β}, (∀ b ∈ bs, R (f b) b) → Paired R (bs.map f) bs
  | [], _ => .nil
  | b :: bs, h => .cons (h b List.mem_cons_self) (paired_map fun c hc => h c (List.mem_cons_of_mem _ hc))
theorem call_sortedDT {d : Nat} {B : Int} (hd1 : 1 ≤ d) (hcalm : X.calm = true) : CallR X (.builtin "sorted") (rSortDT d B) := by
  intro pins s σ H xs us Q I r q
  obtain ⟨a, kvs, ks, ex, hd, hks, h64, hbd, q⟩ := q
  subst ex
  obtain ⟨u, rfl, rx⟩ := r.one
  cases rx
  obtain ⟨z, hs, xs, pr, o, es, ep, ho, hx, hdt, he, hn⟩ := (show ObjOk X.prog X.w H s.heap a (.dT kvs) from hd.ok I.hok)
  have l1 : es.size = xs.length := size_of_entries he
  have l2 : kvs.length = xs.length := Paired.length pr
  have l3 : ks.length = kvs.length := by
    have := congrArg List.length hks
    rw [List.length_map, List.length_map] at this
    exact this.symm
  have keyH : ∀ x ∈ xs, ∃ k ∈ ks, H x.2.1 = some (.tup (k.map V.int)) := fun x hx => by
    have all : ∀ {l : List (List Key × V)} {m : List (List Key × Addr × Value)}, KT H l m → ∀ x ∈ m, x.1 ∈ l.map (·.1) ∧ H x.2.1 = some (.tup (x.1.map kV)) := by
      intro l m q
      induction q with
      | nil => intro x hx; cases hx
      | cons h t ih =>
        intro x hx
        rcases List.mem_cons.mp hx with e | hx
        · rw [e, ← h.1]; exact ⟨List.mem_cons_self, h.2.1⟩
        · exact ⟨List.mem_cons_of_mem _ (ih x hx).1, (ih x hx).2⟩
    obtain ⟨m1, m2⟩ := all pr x hx
    rw [hks] at m1
    obtain ⟨k, hk, ek⟩ := List.mem_map.mp m1
    refine ⟨k, hk, ?_⟩
    rw [m2, ← ek, List.map_map]
    rfl
  refine Calls.call_function_entry PyProof.Rows.kind_sorted PyProof.Rows.plain_sorted PyProof.Rows.entry_sorted (PyProof.Rows.args_sorted1 _) ?_
  unfold Builtin.«sorted»
  refine wpAny_bind (m := checkCount "sorted" 1 1 _) (wpAny_pure ?_)
  refine wpAny_bind (PySem.W.kdu_collect (A := X.A.in1) (kdl_raw hs hx hdt) (I.ok.hd hcalm) ho (by rw [sizeLine_eq]; omega) fun h' tk acc hk hacc => ?_)
  have ea : acc.toList = (xs.map fun x => x.2.1).map Value.ref := by
    rw [List.map_map]
    apply List.ext_getElem?
    intro j
    rw [List.getElem?_map]
    have hl : acc.toList.length = xs.length := by rw [Array.length_toList, hacc.1]; exact l1
    cases hj : acc.toList[j]? with
    | none =>
      have h1 := List.getElem?_eq_none_iff.mp hj
      rw [List.getElem?_eq_none (by omega)]
      rfl
    | some v =>
      obtain ⟨en, hen, hv⟩ := hacc.2 j v (by rw [← Array.getElem?_toList]; exact hj)
      have qe := entry_at he j
      rw [hen] at qe
      cases hb : xs[j]? with
      | none => rw [hb] at qe; cases qe
      | some b =>
        rw [hb] at qe
        have e2 : en = entryOfKey (tupleKind (mixKind X.prog X.w)) b := Option.some.inj qe
        rw [hv, e2]
        rfl
  have hal : acc.toList.length = ks.length := by rw [ea, List.length_map, List.length_map]; omega
  have I1 : Inv X pins σ H { s with heap := h', toks := tk } := I.kept hk
  refine wpAny_bind (wpAny_newList ?_ (by rw [hal, sizeLine_eq]; omega))
  have hoL : (h'.push (seqObj "list" acc.toList.toArray 0)).get? h'.objs.size = some (seqObj "list" acc.toList.toArray 0) := Heap.get?_push_size _ rfl
  have tok : TS.TupsOk (h'.push (seqObj "list" acc.toList.toArray 0)) d B acc.toList := fun v hv => by
    rw [ea] at hv
    obtain ⟨b, hb, rfl⟩ := List.mem_map.mp hv
    obtain ⟨x, hx, rfl⟩ := List.mem_map.mp hb
    obtain ⟨k, hkm, hkH⟩ := keyH x hx
    obtain ⟨b1, b2⟩ := hbd k hkm
    refine ⟨k, TS.TupInts.keeps (tupI_raw I1 (.inl (.inl hkH))) fun c oc e _ => Heap.get?_push_of_some _ e, b1, b2⟩
  show wpAny _ _ _ _ _ { s with heap := h'.push (seqObj "list" acc.toList.toArray 0), toks := tk }
  refine wpAny_bind (wpAny_holding (TS.call_sort_tups (s := { s with heap := h'.push (seqObj "list" acc.toList.toArray 0), toks := tk }) hoL (by rw [hal]; exact h64) hd1 tok fun out g2 g3 => ?_))
  rw [ea] at g2
  obtain ⟨cs, e1, g4⟩ := unrefs g2
  obtain ⟨e', he'⟩ := PyProof.Rows.sortedHeap_at (vs := acc.toList) (out := out) hoL
  have intsAt : ∀ c ∈ cs, ∃ k ∈ ks, H c = some (.tup (k.map V.int)) ∧ TS.intsOf (h'.push (seqObj "list" acc.toList.toArray 0)) (.ref c) = k := fun c hc => by
    obtain ⟨x, hx, rfl⟩ := List.mem_map.mp (g4.mem_iff.mp hc)
    obtain ⟨k, hkm, hkH⟩ := keyH x hx
    have t : TS.TupInts (h'.push (seqObj "list" acc.toList.toArray 0)) (.ref x.2.1) k := TS.TupInts.keeps (tupI_raw I1 (.inl (.inl hkH))) fun c oc e _ => Heap.get?_push_of_some _ e
    exact ⟨k, hkm, hkH, t.ints⟩
  let f : Addr → List Int := fun c => TS.intsOf (h'.push (seqObj "list" acc.toList.toArray 0)) (.ref c)
  have pm : (cs.map f).Perm ks := by
    have e2 : (xs.map fun x => x.2.1).map f = ks := by
      have e3 : ∀ {l : List (List Key × V)} {m : List (List Key × Addr × Value)} {qs : List (List Int)}, KT H l m → l.map (·.1) = qs.map (List.map Sum.inl) → (∀ x ∈ m, x ∈ xs) → (m.map fun x => x.2.1).map f = qs := by
        intro l m qs q
        induction q generalizing qs with
        | nil =>
          intro e _
          cases qs with
          | nil => rfl
          | cons _ _ => cases e
        | @cons p y ps ms h t ih =>
          intro e sub
          cases qs with
          | nil => cases e
          | cons k0 qs =>
            rw [List.map_cons, List.map_cons, List.cons.injEq] at e
            rw [List.map_cons, List.map_cons, ih e.2 fun x hx => sub x (List.mem_cons_of_mem _ hx)]
            congr 1
            have hh := h.2.1
            rw [e.1, List.map_map] at hh
            have t : TS.TupInts (h'.push (seqObj "list" acc.toList.toArray 0)) (.ref y.2.1) k0 := TS.TupInts.keeps (tupI_raw I1 (.inl (.inl (show H y.2.1 = some (.tup (k0.map V.int)) from hh)))) fun c oc e _ => Heap.get?_push_of_some _ e
            exact t.ints
      exact e3 pr hks fun x hx => hx
    rw [← e2]
    exact g4.map f
  have hlen : (cs.map V.ref).length ≤ sizeLine := by
    have e2 := pm.length_eq
    rw [List.length_map] at e2
    rw [List.length_map, sizeLine_eq, e2]
    omega
  refine wpAny_pure ⟨_, rfl, .ref h'.objs.size, upd H h'.objs.size (.lst (cs.map V.ref)), I1.laid (t' := tk) (fun b u e => ?_) (Nat.le_refl _)
    (show ObjOk X.prog X.w _ _ _ (.lst (cs.map V.ref)) from ⟨hlen, out.toList, e', ?_, by rw [Array.toArray_toList]; exact he'⟩), rfl, q (cs.map f) cs _ pm ?_ (paired_map fun c hc => ?_) (I1.hok.fresh (Nat.le_refl _))⟩
  · have hb : b < h'.objs.size := Heap.lt_size e
    rw [PyProof.Rows.sortedHeap_old (Nat.ne_of_lt hb) (by rw [size_push']; exact Nat.lt_succ_of_lt hb)]
    exact Heap.get?_push_of_some _ e
  · rw [e1]
    exact vals_refs cs
  · rw [e1, List.pairwise_map] at g3
    rw [List.pairwise_map]
    exact g3
  · obtain ⟨k, _, h1, h2⟩ := intsAt c hc
    show H c = some (.tup ((f c).map V.int))
    rw [show f c = k from h2]
    exact h1
end
end DW

/-! DW, part 1: values as trees, the heap of what changes, how they stand for the hand layer's values and heap; the lifts. -/
namespace DW
open PySem L2

/-- a value: tuples are trees; rol: a list that nobody changes; ktup: a tuple of the module's own; ref: an object that may change -/
inductive D where
  | non | bl (b : Bool) | int (i : Int) | str (s : Str) | tup (ds : List D) | rol (ds : List D) | ktup (ds : List D) | ref (a : Addr)
/-- an object that may change; ins: an instance of the class with this number, its fields by their places -/
inductive MO where
  | lst (xs : List D)
  | dK (kvs : List (Key × D))
  | dT (kvs : List (List Key × D))
  | ins (c : Nat) (fs : List D)
  | fK (kvs : List (Key × D)) (o : Obj) (ws : List (Key × V))
  | fT (kvs : List (List Key × D)) (o : Obj) (ws : List (List Key × V))
abbrev DH := Addr → Option MO
def up (h : DH) (a : Addr) (o : MO) : DH := fun b => if b = a then some o else h b
theorem up_same {h : DH} {a : Addr} {o : MO} : up h a o a = some o := by unfold up; rw [if_pos rfl]
theorem up_ne {h : DH} {a b : Addr} {o : MO} (n : b ≠ a) : up h a o b = h b := by unfold up; rw [if_neg n]
theorem up_up {h : DH} {a : Addr} {o u : MO} : up (up h a o) a u = up h a u := by
  funext b; unfold up; split <;> rfl
abbrev DSt := List (Option D)
/-- an exception: its class's number, its own fields -/
structure DX where
  c : Nat
  fs : Option (List (Str × D))

/-- what never changes -/
def fixedO : HO → Bool
  | .tup _ => true
  | .frz _ (.lst _) => true
  | .frz _ (.tup _) => true
  | _ => false
def TupLe (H H' : Hp) : Prop := ∀ a u, fixedO u = true → H a = some u → H' a = some u
theorem TupLe.refl (H : Hp) : TupLe H H := fun _ _ _ e => e
theorem TupLe.trans {H H1 H2 : Hp} (x : TupLe H H1) (y : TupLe H1 H2) : TupLe H H2 := fun a u f e => y a u f (x a u f e)
theorem TupLe.upd {H : Hp} {a : Addr} {o : HO} (h : ∀ u, H a = some u → fixedO u = false) : TupLe H (upd H a o) := fun b u f e => by
  by_cases n : b = a
  · subst n
    have := h u e
    rw [this] at f
    cases f
  · rw [upd_ne n]; exact e
theorem TupLe.new {H : Hp} {a : Addr} {o : HO} (h : H a = none) : TupLe H (L2.upd H a o) := TupLe.upd fun u e => by rw [h] at e; cases e

/-- a list of the script's kind: known to the object, or of the module -/
def RoL (K : PySem.W.Frag) (H : Hp) (a : Addr) (xs : List V) : Prop :=
  (∃ o, H a = some (.frz o (.lst xs))) ∨
    ∃ (o : Obj) (its : Array Value) (n : Nat), K.lookup a = some o ∧ o.cls = .type "list" ∧ o.dict = none ∧ o.data = .seq its n ∧ its.size ≤ sizeLine ∧ Vals xs its.toList
theorem RoL.sq {K : PySem.W.Frag} {H : Hp} {a : Addr} {xs : List V} (h : RoL K H a xs) : SqL K H a xs := h.elim (fun z => .inl (.inr z)) .inr
theorem RoL.keep {K : PySem.W.Frag} {H H' : Hp} {a : Addr} {xs : List V} (t : TupLe H H') (h : RoL K H a xs) : RoL K H' a xs :=
  h.elim (fun ⟨o, z⟩ => .inl ⟨o, t a _ rfl z⟩) .inr
/-- a tuple of the module -/
def KtT (K : PySem.W.Frag) (a : Addr) (xs : List V) : Prop :=
  ∃ (o : Obj) (its : Array Value) (n : Nat), K.lookup a = some o ∧ o.cls = .type "tuple" ∧ o.data = .seq its n ∧ its.size ≤ sizeLine ∧ Vals xs its.toList
theorem sqT_of {K : PySem.W.Frag} {H : Hp} {a : Addr} {xs : List V} (h : H a = some (.tup xs)) : SqT K H a xs := .inl (.inl h)
theorem SqT.keep {K : PySem.W.Frag} {H H' : Hp} {a : Addr} {xs : List V} (t : TupLe H H') (h : SqT K H a xs) : SqT K H' a xs := by
  rcases h with (h | ⟨o, h⟩) | h
  · exact .inl (.inl (t a _ rfl h))
  · exact .inl (.inr ⟨o, t a _ rfl h⟩)
  · exact .inr h

/-! ### what stands for what -/
mutual
def Rep (K : PySem.W.Frag) (H : Hp) : D → V → Prop
  | .non, v => v = .non
  | .bl b, v => v = .bl b
  | .int i, v => v = .int i
  | .str s, v => v = .str s
  | .tup ds, v => ∃ a vs, v = .ref a ∧ H a = some (.tup vs) ∧ Reps K H ds vs
  | .rol ds, v => ∃ a vs, v = .ref a ∧ RoL K H a vs ∧ Reps K H ds vs
  | .ktup ds, v => ∃ a vs, v = .ref a ∧ KtT K a vs ∧ Reps K H ds vs
  | .ref a, v => v = .ref a
def Reps (K : PySem.W.Frag) (H : Hp) : List D → List V → Prop
  | [], vs => vs = []
  | d :: ds, vs => ∃ v r, vs = v :: r ∧ Rep K H d v ∧ Reps K H ds r
end
section
variable {K : PySem.W.Frag} {H H' : Hp}
mutual
theorem Rep.keep (t : TupLe H H') : ∀ (d : D) (v : V), Rep K H d v → Rep K H' d v
  | .non, v, h => by simpa [Rep] using h
  | .bl b, v, h => by simpa [Rep] using h
  | .int i, v, h => by simpa [Rep] using h
  | .str s, v, h => by simpa [Rep] using h
  | .tup ds, v, h => by
    unfold Rep at h ⊢
    obtain ⟨a, vs, e, q, r⟩ := h
    exact ⟨a, vs, e, t a _ rfl q, Reps.keep t ds vs r⟩
  | .rol ds, v, h => by
    unfold Rep at h ⊢
    obtain ⟨a, vs, e, q, r⟩ := h
    exact ⟨a, vs, e, q.keep t, Reps.keep t ds vs r⟩
  | .ktup ds, v, h => by
    unfold Rep at h ⊢
    obtain ⟨a, vs, e, q, r⟩ := h
    exact ⟨a, vs, e, q, Reps.keep t ds vs r⟩
  | .ref a, v, h => by simpa [Rep] using h
theorem Reps.keep (t : TupLe H H') : ∀ (ds : List D) (vs : List V), Reps K H ds vs → Reps K H' ds vs
  | [], vs, h => by simpa [Reps] using h
  | d :: ds, vs, h => by
    unfold Reps at h ⊢
    obtain ⟨v, r, e, p, q⟩ := h
    exact ⟨v, r, e, Rep.keep t d v p, Reps.keep t ds r q⟩
end
theorem rep_non : Rep K H .non .non := by unfold Rep; rfl
theorem rep_bl {b : Bool} : Rep K H (.bl b) (.bl b) := by unfold Rep; rfl
theorem rep_int {i : Int} : Rep K H (.int i) (.int i) := by unfold Rep; rfl
theorem rep_str {s : Str} : Rep K H (.str s) (.str s) := by unfold Rep; rfl
theorem rep_ref {a : Addr} : Rep K H (.ref a) (.ref a) := by unfold Rep; rfl
theorem rep_tup {ds : List D} {a : Addr} {vs : List V} (q : H a = some (.tup vs)) (r : Reps K H ds vs) : Rep K H (.tup ds) (.ref a) := by unfold Rep; exact ⟨a, vs, rfl, q, r⟩
theorem rep_rol {ds : List D} {a : Addr} {vs : List V} (q : RoL K H a vs) (r : Reps K H ds vs) : Rep K H (.rol ds) (.ref a) := by unfold Rep; exact ⟨a, vs, rfl, q, r⟩
theorem Rep.non_ {v : V} (h : Rep K H .non v) : v = .non := by simpa [Rep] using h
theorem Rep.bl_ {b : Bool} {v : V} (h : Rep K H (.bl b) v) : v = .bl b := by simpa [Rep] using h
theorem Rep.int_ {i : Int} {v : V} (h : Rep K H (.int i) v) : v = .int i := by simpa [Rep] using h
theorem Rep.str_ {s : Str} {v : V} (h : Rep K H (.str s) v) : v = .str s := by simpa [Rep] using h
theorem Rep.ref_ {a : Addr} {v : V} (h : Rep K H (.ref a) v) : v = .ref a := by simpa [Rep] using h
theorem Rep.tupH {ds : List D} {v : V} (h : Rep K H (.tup ds) v) : ∃ a vs, v = .ref a ∧ H a = some (.tup vs) ∧ Reps K H ds vs := by unfold Rep at h; exact h
theorem Rep.tup_ {ds : List D} {v : V} (h : Rep K H (.tup ds) v) : ∃ a vs, v = .ref a ∧ SqT K H a vs ∧ Reps K H ds vs := let ⟨a, vs, e, q, r⟩ := h.tupH; ⟨a, vs, e, sqT_of q, r⟩
theorem Rep.ktup_ {ds : List D} {v : V} (h : Rep K H (.ktup ds) v) : ∃ a vs, v = .ref a ∧ SqT K H a vs ∧ Reps K H ds vs := by
  unfold Rep at h
  obtain ⟨a, vs, e, q, r⟩ := h
  exact ⟨a, vs, e, .inr q, r⟩
theorem rep_ktup {ds : List D} {a : Addr} {vs : List V} (q : KtT K a vs) (r : Reps K H ds vs) : Rep K H (.ktup ds) (.ref a) := by unfold Rep; exact ⟨a, vs, rfl, q, r⟩
theorem Rep.rol_ {ds : List D} {v : V} (h : Rep K H (.rol ds) v) : ∃ a vs, v = .ref a ∧ RoL K H a vs ∧ Reps K H ds vs := by unfold Rep at h; exact h
theorem reps_nil : Reps K H [] [] := by unfold Reps; rfl
theorem reps_cons {d : D} {ds : List D} {v : V} {vs : List V} (p : Rep K H d v) (q : Reps K H ds vs) : Reps K H (d :: ds) (v :: vs) := by unfold Reps; exact ⟨v, vs, rfl, p, q⟩
theorem Reps.nil_ {vs : List V} (h : Reps K H [] vs) : vs = [] := by simpa [Reps] using h
theorem Reps.cons_ {d : D} {ds : List D} {vs : List V} (h : Reps K H (d :: ds) vs) : ∃ v r, vs = v :: r ∧ Rep K H d v ∧ Reps K H ds r := by unfold Reps at h; exact h
theorem Reps.length : ∀ {ds : List D} {vs : List V}, Reps K H ds vs → vs.length = ds.length
  | [], vs, h => by rw [h.nil_]; rfl
  | d :: ds, vs, h => by
    obtain ⟨v, r, rfl, p, q⟩ := h.cons_
    simp [q.length]
theorem Reps.get : ∀ {ds : List D} {vs : List V} {i : Nat} {d : D}, Reps K H ds vs → ds[i]? = some d → ∃ v, vs[i]? = some v ∧ Rep K H d v
  | [], vs, i, d, h, e => by simp at e
  | d₀ :: ds, vs, 0, d, h, e => by
    obtain ⟨v, r, rfl, p, q⟩ := h.cons_
    simp at e; subst e
    exact ⟨v, rfl, p⟩
  | d₀ :: ds, vs, i + 1, d, h, e => by
    obtain ⟨v, r, rfl, p, q⟩ := h.cons_
    obtain ⟨w, h1, h2⟩ := Reps.get (i := i) (d := d) q (by simpa using e)
    exact ⟨w, by simpa using h1, h2⟩
theorem Reps.getV : ∀ {ds : List D} {vs : List V} {i : Nat} {v : V}, Reps K H ds vs → vs[i]? = some v → ∃ d, ds[i]? = some d ∧ Rep K H d v := fun {ds vs i v} r e => by
  have hl := r.length
  have hi := (List.getElem?_eq_some_iff.mp e).1
  obtain ⟨w, h1, h2⟩ := r.get (i := i) (d := ds[i]'(by omega)) (List.getElem?_eq_getElem _)
  rw [e] at h1
  cases h1
  exact ⟨_, List.getElem?_eq_getElem (by omega), h2⟩
theorem Reps.append : ∀ {ds es : List D} {vs us : List V}, Reps K H ds vs → Reps K H es us → Reps K H (ds ++ es) (vs ++ us)
  | [], es, vs, us, h, g => by rw [h.nil_]; exact g
  | d :: ds, es, vs, us, h, g => by
    obtain ⟨v, r, rfl, p, q⟩ := h.cons_
    exact reps_cons p (q.append g)
theorem Reps.take : ∀ {ds : List D} {vs : List V} (n : Nat), Reps K H ds vs → Reps K H (ds.take n) (vs.take n)
  | ds, vs, 0, h => by simp only [List.take_zero]; exact reps_nil
  | [], vs, n + 1, h => by rw [h.nil_]; exact reps_nil
  | d :: ds, vs, n + 1, h => by
    obtain ⟨v, r, rfl, p, q⟩ := h.cons_
    exact reps_cons p (q.take n)
theorem Reps.drop : ∀ {ds : List D} {vs : List V} (n : Nat), Reps K H ds vs → Reps K H (ds.drop n) (vs.drop n)
  | ds, vs, 0, h => h
  | [], vs, n + 1, h => by rw [h.nil_]; exact reps_nil
  | d :: ds, vs, n + 1, h => by
    obtain ⟨v, r, rfl, p, q⟩ := h.cons_
    exact q.drop n
theorem Reps.set : ∀ {ds : List D} {vs : List V} (i : Nat) {d : D} {v : V}, Reps K H ds vs → Rep K H d v → Reps K H (ds.set i d) (vs.set i v)
  | [], vs, i, d, v, h, g => by rw [h.nil_]; exact reps_nil
  | d₀ :: ds, vs, 0, d, v, h, g => by
    obtain ⟨w, r, rfl, p, q⟩ := h.cons_
    exact reps_cons g q
  | d₀ :: ds, vs, i + 1, d, v, h, g => by
    obtain ⟨w, r, rfl, p, q⟩ := h.cons_
    exact reps_cons p (q.set i g)
theorem Reps.reverse {ds : List D} {vs : List V} (h : Reps K H ds vs) : Reps K H ds.reverse vs.reverse := by
  induction ds generalizing vs with
  | nil => rw [h.nil_]; exact reps_nil
  | cons d ds ih =>
    obtain ⟨v, r, rfl, p, q⟩ := h.cons_
    rw [List.reverse_cons, List.reverse_cons]
    exact (ih q).append (reps_cons p reps_nil)
theorem Reps.eraseIdx : ∀ {ds : List D} {vs : List V} (i : Nat), Reps K H ds vs → Reps K H (ds.eraseIdx i) (vs.eraseIdx i)
  | [], vs, i, h => by rw [h.nil_]; exact reps_nil
  | d₀ :: ds, vs, 0, h => by
    obtain ⟨w, r, rfl, p, q⟩ := h.cons_
    exact q
  | d₀ :: ds, vs, i + 1, h => by
    obtain ⟨w, r, rfl, p, q⟩ := h.cons_
    exact reps_cons p (q.eraseIdx i)
theorem reps_ints : ∀ (ns : List Int), Reps K H (ns.map D.int) (ns.map V.int)
  | [] => reps_nil
  | n :: ns => reps_cons rep_int (reps_ints ns)
theorem Reps.ints_ : ∀ {ns : List Int} {vs : List V}, Reps K H (ns.map D.int) vs → vs = ns.map V.int
  | [], vs, h => h.nil_
  | n :: ns, vs, h => by
    obtain ⟨v, r, rfl, p, q⟩ := h.cons_
    rw [p.int_, q.ints_]; rfl
theorem Reps.dropLast {ds : List D} {vs : List V} (h : Reps K H ds vs) : Reps K H ds.dropLast vs.dropLast := by
  rw [List.dropLast_eq_take, List.dropLast_eq_take, h.length]
  exact h.take _
end

/-! ### pairs -/
/-- entries with the same names (keys), the values standing for each other -/
def RepF {κ : Type} (K : PySem.W.Frag) (H : Hp) : List (κ × D) → List (κ × V) → Prop
  | [], ws => ws = []
  | (f, d) :: fs, ws => ∃ v r, ws = (f, v) :: r ∧ Rep K H d v ∧ RepF K H fs r
section
variable {κ : Type} {K : PySem.W.Frag} {H H' : Hp}
theorem RepF.keep (t : TupLe H H') : ∀ {fs : List (κ × D)} {ws : List (κ × V)}, RepF K H fs ws → RepF K H' fs ws
  | [], ws, h => h
  | (f, d) :: fs, ws, h => by
    obtain ⟨v, r, e, p, q⟩ := h
    exact ⟨v, r, e, p.keep t, RepF.keep t q⟩
theorem RepF.length : ∀ {fs : List (κ × D)} {ws : List (κ × V)}, RepF K H fs ws → ws.length = fs.length
  | [], ws, h => by rw [show ws = [] from h]; rfl
  | (f, d) :: fs, ws, h => by
    obtain ⟨v, r, rfl, p, q⟩ := h
    simp [q.length]
theorem RepF.keys : ∀ {fs : List (κ × D)} {ws : List (κ × V)}, RepF K H fs ws → ws.map (·.1) = fs.map (·.1)
  | [], ws, h => by rw [show ws = [] from h]; rfl
  | (f, d) :: fs, ws, h => by
    obtain ⟨v, r, rfl, p, q⟩ := h
    simp [q.keys]
theorem RepF.look [BEq κ] {f : κ} : ∀ {fs : List (κ × D)} {ws : List (κ × V)}, RepF K H fs ws →
    (∀ d, fs.lookup f = some d → ∃ v, ws.lookup f = some v ∧ Rep K H d v) ∧ (fs.lookup f = none → ws.lookup f = none)
  | [], ws, h => by
    rw [show ws = [] from h]
    exact ⟨fun d e => by simp [List.lookup] at e, fun _ => by simp [List.lookup]⟩
  | (g, d) :: fs, ws, h => by
    obtain ⟨v, r, rfl, p, q⟩ := h
    have ih := q.look (f := f)
    simp only [List.lookup]
    cases hb : f == g with
    | true =>
      simp only
      exact ⟨fun d' e => by cases e; exact ⟨v, rfl, p⟩, fun e => by cases e⟩
    | false =>
      simp only
      exact ih
end
/-! ### the program's own: the written part, the classes -/
/-- prog, world, written part, module's names, base; the classes: their addresses and their fields' names by the numbers -/
structure Pg where
  P : Program
  w : World
  K : PySem.W.Frag
  mg : Str → Option Value
  base : Heap
  ca : Nat → Addr
  fn : Nat → List Str

/-- an object stands for another -/
def OR (G : Pg) (H : Hp) (a : Addr) : MO → Prop
  | .lst xs => ∃ vs, H a = some (.lst vs) ∧ Reps G.K H xs vs
  | .dK kvs => ∃ ws, H a = some (.dK ws) ∧ RepF G.K H kvs ws
  | .dT kvs => ∃ ws, H a = some (.dT ws) ∧ RepF G.K H kvs ws
  | .ins c fs => ∃ dx vs, H a = some (.ins (G.ca c) dx ((G.fn c).zip vs)) ∧ Reps G.K H fs vs ∧ fs.length ≤ (G.fn c).length
  | .fK kvs o ws => H a = some (.frz o (.dK ws)) ∧ RepF G.K H kvs ws
  | .fT kvs o ws => H a = some (.frz o (.dT ws)) ∧ RepF G.K H kvs ws
def RH (G : Pg) (H : Hp) (h : DH) : Prop := ∀ a o, h a = some o → OR G H a o
def RE (K : PySem.W.Frag) (H : Hp) (e : DSt) (σ : St) : Prop := e.length = σ.length ∧ ∀ (i : Nat) (d : D), e[i]? = some (some d) → ∃ v, σ[i]? = some (some v) ∧ Rep K H d v
/-- an exception without fields of its own has no dict -/
def RX (G : Pg) (H : Hp) (x : DX) (cls : Value) (dd : Option Addr) : Prop := cls = .ref (G.ca x.c) ∧ match x.fs with
  | none => dd = none
  | some fs => ∃ d ws, dd = some d ∧ H d = some (.xd ws) ∧ RepF G.K H fs ws
section
variable {G : Pg} {H H' : Hp} {h : DH} {a : Addr} {o : MO} {e : DSt} {σ : St}
theorem OR.some (r : OR G H a o) : ∃ u, H a = some u ∧ fixedO u = false := by
  cases o with
  | lst xs => obtain ⟨vs, p, _⟩ := r; exact ⟨_, p, rfl⟩
  | dK xs => obtain ⟨vs, p, _⟩ := r; exact ⟨_, p, rfl⟩
  | dT xs => obtain ⟨vs, p, _⟩ := r; exact ⟨_, p, rfl⟩
  | ins c fs => obtain ⟨dx, vs, p, _⟩ := r; exact ⟨_, p, rfl⟩
  | fK xs o ws => exact ⟨_, r.1, rfl⟩
  | fT xs o ws => exact ⟨_, r.1, rfl⟩
theorem OR.keep (t : TupLe H H') (same : ∀ u, H a = Option.some u → H' a = Option.some u) (r : OR G H a o) : OR G H' a o := by
  cases o with
  | lst xs => obtain ⟨vs, p, q⟩ := r; exact ⟨vs, same _ p, Reps.keep t _ _ q⟩
  | dK xs => obtain ⟨vs, p, q⟩ := r; exact ⟨vs, same _ p, q.keep t⟩
  | dT xs => obtain ⟨vs, p, q⟩ := r; exact ⟨vs, same _ p, q.keep t⟩
  | ins c fs => obtain ⟨dx, vs, p, q, l⟩ := r; exact ⟨dx, vs, same _ p, Reps.keep t _ _ q, l⟩
  | fK xs o ws => exact ⟨same _ r.1, r.2.keep t⟩
  | fT xs o ws => exact ⟨same _ r.1, r.2.keep t⟩
theorem RE.keep (t : TupLe H H') (r : RE G.K H e σ) : RE G.K H' e σ := ⟨r.1, fun i d z => by
  obtain ⟨v, p, q⟩ := r.2 i d z
  exact ⟨v, p, Rep.keep t d v q⟩⟩
theorem RE.set {K : PySem.W.Frag} {i : Nat} {d : D} {v : V} (r : RE K H e σ) (q : Rep K H d v) : RE K H (e.set i (some d)) (σ.set i (some v)) := by
  refine ⟨by rw [List.length_set, List.length_set]; exact r.1, fun j d' z => ?_⟩
  by_cases n : i = j
  · subst n
    by_cases l : i < e.length
    · rw [List.getElem?_set_self l] at z
      cases z
      exact ⟨v, List.getElem?_set_self (by rw [← r.1]; exact l), q⟩
    · rw [List.getElem?_eq_none (by rw [List.length_set]; omega)] at z
      cases z
  · rw [List.getElem?_set_ne n] at z
    obtain ⟨w, p, q'⟩ := r.2 j d' z
    exact ⟨w, by rw [List.getElem?_set_ne n]; exact p, q'⟩
theorem RE.unset {K : PySem.W.Frag} {i : Nat} (r : RE K H e σ) : RE K H (e.set i none) (σ.set i none) := by
  refine ⟨by rw [List.length_set, List.length_set]; exact r.1, fun j d' z => ?_⟩
  by_cases n : i = j
  · subst n
    by_cases l : i < e.length
    · rw [List.getElem?_set_self l] at z
      cases z
    · rw [List.getElem?_eq_none (by rw [List.length_set]; omega)] at z
      cases z
  · rw [List.getElem?_set_ne n] at z
    obtain ⟨w, p, q'⟩ := r.2 j d' z
    exact ⟨w, by rw [List.getElem?_set_ne n]; exact p, q'⟩
/-- a new address is new for the tree's heap too -/
theorem RH.fresh (r : RH G H h) {p : Addr} (hp : H p = none) : h p = none := by
  cases z : h p with
  | none => rfl
  | some o =>
    obtain ⟨u, q, _⟩ := (r p o z).some
    rw [hp] at q
    cases q
/-- the hand heap takes one more thing, or another thing at a -/
theorem RH.upd (r : RH G H h) {u : HO} {o : MO} (hf : ∀ z, H a = Option.some z → fixedO z = false) (ho : OR G (L2.upd H a u) a o) : RH G (L2.upd H a u) (up h a o) := fun b ob e => by
  by_cases n : b = a
  · subst n
    rw [up_same] at e
    cases e
    exact ho
  · rw [up_ne n] at e
    exact (r b ob e).keep (TupLe.upd hf) fun z q => by rw [upd_ne n]; exact q
/-- a thing that the tree's heap does not know -/
theorem RH.more (r : RH G H h) {u : HO} (hf : H a = none) : RH G (L2.upd H a u) h := fun b ob e => by
  have n : b ≠ a := fun z => by subst z; rw [r.fresh hf] at e; cases e
  exact (r b ob e).keep (TupLe.new hf) fun z q => by rw [upd_ne n]; exact q
/-- part of a heap -/
def Sub (h h' : DH) : Prop := ∀ a o, h a = Option.some o → h' a = Option.some o
theorem Sub.refl (h : DH) : Sub h h := fun _ _ e => e
theorem Sub.trans {h h1 h2 : DH} (x : Sub h h1) (y : Sub h1 h2) : Sub h h2 := fun a o e => y a o (x a o e)
theorem Sub.new {h : DH} {p : Addr} {o : MO} (hp : h p = none) : Sub h (up h p o) := fun a u e => by
  have n : a ≠ p := fun z => by subst z; rw [hp] at e; cases e
  rw [up_ne n]; exact e
theorem Sub.over {h h' : DH} {p : Addr} {o : MO} (s : Sub h h') (hp : h p = none) : Sub h (up h' p o) := fun a u e => by
  have n : a ≠ p := fun z => by subst z; rw [hp] at e; cases e
  rw [up_ne n]; exact s a u e
theorem RH.sub {h' : DH} (r : RH G H h') (s : Sub h h') : RH G H h := fun a o e => r a o (s a o e)
theorem RX.keep {x : DX} {cls : Value} {dd : Option Addr} (t : TupLe H H') (same : ∀ d u, dd = Option.some d → H d = Option.some u → H' d = Option.some u) (r : RX G H x cls dd) : RX G H' x cls dd := by
  obtain ⟨e, m⟩ := r
  refine ⟨e, ?_⟩
  cases hf : x.fs with
  | none => rw [hf] at m; exact m
  | some fs =>
    rw [hf] at m
    obtain ⟨d, ws, e1, e2, e3⟩ := m
    exact ⟨d, ws, e1, same _ _ e1 e2, e3.keep t⟩
end

/-! ### what the readings are, at D -/
abbrev KD := D → DH → Prop
abbrev KX := DX → DH → Prop
abbrev DE := DSt → DH → KD → KX → Prop
abbrev DT := DSt → DH → (Bool → DH → Prop) → KX → Prop
abbrev DA := DSt → DH → (List D → DH → Prop) → KX → Prop
structure DEnds where
  nx : DSt → DH → Prop
  rt : KD
  bk : DSt → DH → Prop := fun _ _ => False
  ct : DSt → DH → Prop := fun _ _ => False
  ex : DX → DSt → DH → Prop := fun _ _ _ => False
abbrev DS := DEnds → DSt → DH → Prop
abbrev DSp := List D → DH → KD → KX → Prop

/-! ### the lifts -/
section
variable (G : Pg) (W : WX)
def LX (W : WX) (σ : St) (H : Hp) (R : KX) : Prop := ∀ x h' cls dd H', R x h' → TupLe H H' → RH G H' h' → RX G H' x cls dd → W cls dd σ H'
def LE (t : DE) : TE := fun σ H Q => ∃ e h P R, RE G.K H e σ ∧ RH G H h ∧ t e h P R ∧ (∀ d h' v H', P d h' → TupLe H H' → RH G H' h' → Rep G.K H' d v → Q v H') ∧ LX G W σ H R
def LT (t : DT) : TT := fun σ H Q => ∃ e h P R, RE G.K H e σ ∧ RH G H h ∧ t e h P R ∧ (∀ b h' H', P b h' → TupLe H H' → RH G H' h' → Q b H') ∧ LX G W σ H R
def LA (t : DA) : TA := fun σ H Q => ∃ e h P R, RE G.K H e σ ∧ RH G H h ∧ t e h P R ∧ (∀ ds h' vs H', P ds h' → TupLe H H' → RH G H' h' → Reps G.K H' ds vs → Q vs H') ∧ LX G W σ H R
structure LEnds (D : Ends) (D' : DEnds) (H : Hp) : Prop where
  nx : ∀ e' h' σ' H', D'.nx e' h' → TupLe H H' → RH G H' h' → RE G.K H' e' σ' → D.nx σ' H'
  rt : ∀ d h' v H', D'.rt d h' → TupLe H H' → RH G H' h' → Rep G.K H' d v → D.rt v H'
  bk : ∀ e' h' σ' H', D'.bk e' h' → TupLe H H' → RH G H' h' → RE G.K H' e' σ' → D.bk σ' H'
  ct : ∀ e' h' σ' H', D'.ct e' h' → TupLe H H' → RH G H' h' → RE G.K H' e' σ' → D.ct σ' H'
  ex : ∀ x e' h' cls dd σ' H', D'.ex x e' h' → TupLe H H' → RH G H' h' → RE G.K H' e' σ' → RX G H' x cls dd → W cls dd σ' H'
def LS (t : DS) : TS := fun D σ H => ∃ e h D', RE G.K H e σ ∧ RH G H h ∧ t D' e h ∧ LEnds G W D D' H
def LSp (s : DSp) : Sp := fun vs H Q E => ∃ ds h P R, Reps G.K H ds vs ∧ RH G H h ∧ s ds h P R ∧ (∀ d h' v H', P d h' → TupLe H H' → RH G H' h' → Rep G.K H' d v → Q v H') ∧
  (∀ x h' cls dd H', R x h' → TupLe H H' → RH G H' h' → RX G H' x cls dd → E cls dd H')
end
theorem LEnds.later {G : Pg} {W : WX} {D : Ends} {D' : DEnds} {H H1 : Hp} (l : LEnds G W D D' H) (t : TupLe H H1) : LEnds G W D D' H1 where
  nx e' h' σ' H' z t' := l.nx e' h' σ' H' z (t.trans t')
  rt d h' v H' z t' := l.rt d h' v H' z (t.trans t')
  bk e' h' σ' H' z t' := l.bk e' h' σ' H' z (t.trans t')
  ct e' h' σ' H' z t' := l.ct e' h' σ' H' z (t.trans t')
  ex x e' h' cls dd σ' H' z t' := l.ex x e' h' cls dd σ' H' z (t.trans t')
theorem LX.later {G : Pg} {W : WX} {σ : St} {H H1 : Hp} {R : KX} (l : LX G W σ H R) (t : TupLe H H1) : LX G W σ H1 R := fun x h' cls dd H' z t' => l x h' cls dd H' z (t.trans t')

/-- a reading may ask more -/
theorem pe_imp {X : Cx} {e : Expr} {t t' : TE} (h : PE X e t) (i : ∀ σ H Q, t' σ H Q → t σ H Q) : PE X e t' := ⟨fun pins s σ H Q I q => h.run pins s σ H Q I (i _ _ _ q)⟩
theorem pt_imp {X : Cx} {e : Expr} {t t' : TT} (h : PT X e t) (i : ∀ σ H Q, t' σ H Q → t σ H Q) : PT X e t' := ⟨fun pins s σ H Q I q => h.run pins s σ H Q I (i _ _ _ q)⟩
theorem pw_imp {X : Cx} {e : Expr} {t t' : TT} (h : PW X e t) (i : ∀ σ H Q, t' σ H Q → t σ H Q) : PW X e t' := ⟨fun whole pins s σ H Q I q => h.run whole pins s σ H Q I (i _ _ _ q)⟩
theorem pa_imp {X : Cx} {es : List Expr} {t t' : TA} (h : PA X es t) (i : ∀ σ H Q, t' σ H Q → t σ H Q) : PA X es t' := ⟨fun pos pins s σ H Q I q => h.run pos pins s σ H Q I (i _ _ _ q)⟩
theorem ps_imp {X : Cx} {e : Stmt} {t t' : TS} (h : PS X e t) (i : ∀ D σ H, t' D σ H → t D σ H) : PS X e t' := ⟨fun pins s σ H Q I q => h.run pins s σ H Q I (i _ _ _ q)⟩
theorem pss_imp {X : Cx} {e : List Stmt} {t t' : TS} (h : PSs X e t) (i : ∀ D σ H, t' D σ H → t D σ H) : PSs X e t' := ⟨fun pins s σ H Q I q => h.run pins s σ H Q I (i _ _ _ q)⟩
end DW

/-! DW, part 2: operators on two values. -/
namespace DW
open PySem L2

/-- an operator on two values at D, and what the hand layer asks of the same -/
abbrev DO := D → D → DH → KD → Prop
def Fin2 (G : Pg) (P : KD) (H : Hp) (Q : VK) : Prop := ∀ d h' v H', P d h' → TupLe H H' → RH G H' h' → Rep G.K H' d v → Q v H'
def OpD (G : Pg) (f : DO) (r : R2) : Prop := ∀ H h x y v u P Q, RH G H h → Rep G.K H x v → Rep G.K H y u → f x y h P → Fin2 G P H Q → r v u H Q
theorem Fin2.val {G : Pg} {P : KD} {H : Hp} {Q : VK} {h : DH} {d : D} {v : V} (f : Fin2 G P H Q) (rh : RH G H h) (p : P d h) (r : Rep G.K H d v) : Q v H := f d h v H p (TupLe.refl H) rh r
/-- a new object -/
theorem Fin2.new {G : Pg} {P : KD} {H : Hp} {Q : VK} {h : DH} {o : MO} {u : HO} (f : Fin2 G P H Q) (rh : RH G H h) (p : ∀ a, h a = none → P (.ref a) (up h a o)) (ho : ∀ a, H a = none → OR G (L2.upd H a u) a o) :
    ∀ a, H a = none → Q (.ref a) (L2.upd H a u) := fun a ha =>
  f _ _ _ _ (p a (rh.fresh ha)) (TupLe.new ha) (rh.upd (fun z e => by rw [ha] at e; cases e) (ho a ha)) rep_ref
/-- a new tuple -/
theorem Fin2.newT {G : Pg} {P : KD} {H : Hp} {Q : VK} {h : DH} {ds : List D} {vs : List V} (f : Fin2 G P H Q) (rh : RH G H h) (p : P (.tup ds) h) (rs : Reps G.K H ds vs) :
    ∀ a, H a = none → Q (.ref a) (L2.upd H a (.tup vs)) := fun a ha =>
  f _ _ _ _ p (TupLe.new ha) (rh.more ha) (rep_tup upd_same (Reps.keep (TupLe.new ha) _ _ rs))
theorem OR.lst {G : Pg} {H : Hp} {a : Addr} {xs : List D} {vs : List V} (ha : H a = none) (r : Reps G.K H xs vs) : OR G (L2.upd H a (.lst vs)) a (.lst xs) := ⟨vs, upd_same, Reps.keep (TupLe.new ha) _ _ r⟩
theorem RH.lst {G : Pg} {H : Hp} {h : DH} {a : Addr} {xs : List D} (r : RH G H h) (e : h a = some (.lst xs)) : ∃ vs, H a = some (.lst vs) ∧ Reps G.K H xs vs := r a _ e
/-- what a list or a tuple holds -/
def seqOf (h : DH) : D → Option (List D)
  | .tup ds => some ds
  | .ktup ds => some ds
  | .rol ds => some ds
  | .ref a => match h a with
    | some (.lst xs) => some xs
    | _ => none
  | _ => none
/-- a list's -/
def lstOf (h : DH) : D → Option (List D)
  | .rol ds => some ds
  | .ref a => match h a with
    | some (.lst xs) => some xs
    | _ => none
  | _ => none
theorem lstOf_ok {G : Pg} {H : Hp} {h : DH} {d : D} {v : V} {xs : List D} (rh : RH G H h) (r : Rep G.K H d v) (e : lstOf h d = some xs) : ∃ a vs, v = .ref a ∧ SqL G.K H a vs ∧ Reps G.K H xs vs := by
  cases d with
  | rol ds =>
    obtain ⟨a, vs, e1, e2, e3⟩ := r.rol_
    cases e
    exact ⟨a, vs, e1, e2.sq, e3⟩
  | ref a =>
    unfold lstOf at e
    cases z : h a with
    | none => simp [z] at e
    | some o =>
      cases o with
      | lst ys =>
        simp [z] at e
        subst e
        obtain ⟨vs, q, p⟩ := rh.lst z
        exact ⟨a, vs, r.ref_, .inl (.inl q), p⟩
      | _ => simp [z] at e
  | non => cases e
  | bl _ => cases e
  | int _ => cases e
  | str _ => cases e
  | tup _ => cases e
  | ktup _ => cases e
theorem seqOf_ok {G : Pg} {H : Hp} {h : DH} {d : D} {v : V} {xs : List D} (rh : RH G H h) (r : Rep G.K H d v) (e : seqOf h d = some xs) : ∃ a vs, v = .ref a ∧ (SqL G.K H a vs ∨ SqT G.K H a vs) ∧ Reps G.K H xs vs := by
  cases d with
  | tup ds =>
    obtain ⟨a, vs, e1, e2, e3⟩ := r.tup_
    cases e
    exact ⟨a, vs, e1, .inr e2, e3⟩
  | ktup ds =>
    obtain ⟨a, vs, e1, e2, e3⟩ := r.ktup_
    cases e
    exact ⟨a, vs, e1, .inr e2, e3⟩
  | rol ds =>
    obtain ⟨a, vs, e1, e2, e3⟩ := lstOf_ok (xs := xs) rh r e
    exact ⟨a, vs, e1, .inl e2, e3⟩
  | ref b =>
    obtain ⟨a, vs, e1, e2, e3⟩ := lstOf_ok (xs := xs) rh r e
    exact ⟨a, vs, e1, .inl e2, e3⟩
  | non => cases e
  | bl _ => cases e
  | int _ => cases e
  | str _ => cases e

/-! ### equality -/
def toPys (f : D → Option PyData) : List D → Option (List PyData)
  | [] => some []
  | d :: ds => match f d with
    | some x => (toPys f ds).map (x :: ·)
    | none => none
def toPy (h : DH) : Nat → D → Option PyData
  | _, .non => some .none
  | _, .bl b => some (.bool b)
  | _, .int i => some (.int i)
  | _, .str s => if PyData.strOk s = true then some (.str s) else none
  | 0, _ => none
  | n + 1, .tup ds => (toPys (toPy h n) ds).map .tuple
  | n + 1, .ktup ds => (toPys (toPy h n) ds).map .tuple
  | n + 1, .rol ds => (toPys (toPy h n) ds).map .list
  | n + 1, .ref a => match h a with
    | some (.lst ds) => (toPys (toPy h n) ds).map .list
    | _ => none
section
variable {G : Pg} {H : Hp} {h : DH}
theorem toPys_ok {f : D → Option PyData} (ih : ∀ d v x, Rep G.K H d v → f d = some x → Dp G.K H v x) : ∀ (ds : List D) (vs : List V) (xs : List PyData), Reps G.K H ds vs → toPys f ds = some xs → DpAll G.K H vs xs
  | [], vs, xs, r, e => by rw [r.nil_]; cases e; exact .nil
  | d :: ds, vs, xs, r, e => by
    obtain ⟨v, us, rfl, p, q⟩ := r.cons_
    unfold toPys at e
    cases z : f d with
    | none => simp [z] at e
    | some x =>
      simp only [z] at e
      obtain ⟨ys, e1, e2⟩ := Option.map_eq_some_iff.mp e
      subst e2
      exact .cons (ih d v x p z) (toPys_ok ih ds us ys q e1)
theorem toPy_ok (rh : RH G H h) : ∀ (n : Nat) (d : D) (v : V) (x : PyData), Rep G.K H d v → toPy h n d = some x → Dp G.K H v x
  | n, .non, v, x, r, e => by rw [r.non_]; cases n <;> (cases e; exact .non)
  | n, .bl b, v, x, r, e => by rw [r.bl_]; cases n <;> (cases e; exact .bl b)
  | n, .int b, v, x, r, e => by rw [r.int_]; cases n <;> (cases e; exact .int b)
  | n, .str b, v, x, r, e => by
    rw [r.str_]
    have e' : (if PyData.strOk b = true then some (PyData.str b) else none) = some x := by cases n <;> exact e
    split at e'
    · cases e'; exact .str b
    · cases e'
  | 0, .tup _, v, x, r, e => by cases e
  | 0, .ktup _, v, x, r, e => by cases e
  | n + 1, .ktup ds, v, x, r, e => by
    obtain ⟨a, vs, rfl, q, p⟩ := r.ktup_
    obtain ⟨ys, e1, rfl⟩ := Option.map_eq_some_iff.mp e
    exact .tup q (toPys_ok (toPy_ok rh n) ds vs ys p e1)
  | 0, .rol _, v, x, r, e => by cases e
  | 0, .ref _, v, x, r, e => by cases e
  | n + 1, .tup ds, v, x, r, e => by
    obtain ⟨a, vs, rfl, q, p⟩ := r.tup_
    obtain ⟨ys, e1, rfl⟩ := Option.map_eq_some_iff.mp e
    exact .tup q (toPys_ok (toPy_ok rh n) ds vs ys p e1)
  | n + 1, .rol ds, v, x, r, e => by
    obtain ⟨a, vs, rfl, q, p⟩ := r.rol_
    obtain ⟨ys, e1, rfl⟩ := Option.map_eq_some_iff.mp e
    exact .lst q.sq (toPys_ok (toPy_ok rh n) ds vs ys p e1)
  | n + 1, .ref a, v, x, r, e => by
    rw [r.ref_]
    unfold toPy at e
    cases z : h a with
    | none => simp [z] at e
    | some o =>
      cases o with
      | lst ds =>
        simp only [z] at e
        obtain ⟨ys, e1, rfl⟩ := Option.map_eq_some_iff.mp e
        obtain ⟨vs, q, p⟩ := rh.lst z
        exact .lst (.inl (.inl q)) (toPys_ok (toPy_ok rh n) ds vs ys p e1)
      | _ => simp [z] at e
end
theorem toPys_shaped {f : D → Option PyData} {n : Nat} (ih : ∀ d x, f d = some x → x.canLay0 = true ∧ x.depth ≤ n) : ∀ (ds : List D) (xs : List PyData), toPys f ds = some xs → PyData.canLayAll0 xs = true ∧ PyData.depthAll xs ≤ n
  | [], xs, e => by cases e; exact ⟨by simp [PyData.canLayAll0], by simp [PyData.depthAll]⟩
  | d :: ds, xs, e => by
    unfold toPys at e
    cases z : f d with
    | none => simp [z] at e
    | some x =>
      simp only [z] at e
      obtain ⟨ys, e1, rfl⟩ := Option.map_eq_some_iff.mp e
      obtain ⟨a1, a2⟩ := ih d x z
      obtain ⟨b1, b2⟩ := toPys_shaped ih ds ys e1
      exact ⟨by simp [PyData.canLayAll0, a1, b1], by simp only [PyData.depthAll]; omega⟩
theorem toPy_shape (h : DH) : ∀ (n : Nat) (d : D) (x : PyData), toPy h n d = some x → x.canLay0 = true ∧ x.depth ≤ n
  | n, .non, x, e => by cases n <;> (cases e; exact ⟨by simp [PyData.canLay0], by simp [PyData.depth]⟩)
  | n, .bl b, x, e => by cases n <;> (cases e; exact ⟨by simp [PyData.canLay0], by simp [PyData.depth]⟩)
  | n, .int b, x, e => by cases n <;> (cases e; exact ⟨by simp [PyData.canLay0], by simp [PyData.depth]⟩)
  | n, .str b, x, e => by
    have e' : (if PyData.strOk b = true then some (PyData.str b) else none) = some x := by cases n <;> exact e
    split at e'
    · rename_i z
      cases e'; exact ⟨by simp [PyData.canLay0, z], by simp [PyData.depth]⟩
    · cases e'
  | 0, .tup _, x, e => by cases e
  | 0, .ktup _, x, e => by cases e
  | n + 1, .ktup ds, x, e => by
    obtain ⟨ys, e1, rfl⟩ := Option.map_eq_some_iff.mp e
    obtain ⟨b1, b2⟩ := toPys_shaped (toPy_shape h n) ds ys e1
    exact ⟨by simp [PyData.canLay0, b1], by simp only [PyData.depth]; omega⟩
  | 0, .rol _, x, e => by cases e
  | 0, .ref _, x, e => by cases e
  | n + 1, .tup ds, x, e => by
    obtain ⟨ys, e1, rfl⟩ := Option.map_eq_some_iff.mp e
    obtain ⟨b1, b2⟩ := toPys_shaped (toPy_shape h n) ds ys e1
    exact ⟨by simp [PyData.canLay0, b1], by simp only [PyData.depth]; omega⟩
  | n + 1, .rol ds, x, e => by
    obtain ⟨ys, e1, rfl⟩ := Option.map_eq_some_iff.mp e
    obtain ⟨b1, b2⟩ := toPys_shaped (toPy_shape h n) ds ys e1
    exact ⟨by simp [PyData.canLay0, b1], by simp only [PyData.depth]; omega⟩
  | n + 1, .ref a, x, e => by
    unfold toPy at e
    cases z : h a with
    | none => simp [z] at e
    | some o =>
      cases o with
      | lst ds =>
        simp only [z] at e
        obtain ⟨ys, e1, rfl⟩ := Option.map_eq_some_iff.mp e
        obtain ⟨b1, b2⟩ := toPys_shaped (toPy_shape h n) ds ys e1
        exact ⟨by simp [PyData.canLay0, b1], by simp only [PyData.depth]; omega⟩
      | _ => simp [z] at e
theorem toPy_shaped {h : DH} {n : Nat} {d : D} {x : PyData} (hn : n ≤ 64) (e : toPy h n d = some x) : SeqAt.shaped x = true := by
  obtain ⟨a, b⟩ := toPy_shape h n d x e
  show (x.canLay0 && decide (x.depth ≤ 64)) = true
  rw [a, decide_eq_true (by omega)]; rfl
theorem toPys_shapedL {h : DH} {n : Nat} {ds : List D} {xs : List PyData} (hn : n < 64) (e : toPys (toPy h n) ds = some xs) : SeqAt.shaped (.list xs) = true := by
  obtain ⟨a, b⟩ := toPys_shaped (toPy_shape h n) ds xs e
  show (PyData.canLay0 (.list xs) && decide (PyData.depth (.list xs) ≤ 64)) = true
  rw [show PyData.canLay0 (.list xs) = PyData.canLayAll0 xs by simp [PyData.canLay0], a, decide_eq_true (by simp only [PyData.depth]; omega)]; rfl
/-- does x equal y: data of lists, tuples, numbers, texts, truth values, None -/
def eqD (h : DH) (x y : D) : Option Bool := match toPy h 20 x, toPy h 20 y with
  | some a, some b => some (PyData.eqv a b)
  | _, _ => none
def doEq : DO := fun x y h P => match x, y with
  | .int i, .int j => P (.bl (decide (i = j))) h
  | .str i, .str j => P (.bl (decide (i = j))) h
  | _, _ => ∃ b, eqD h x y = some b ∧ P (.bl b) h
def doNe : DO := fun x y h P => match x, y with
  | .int i, .int j => P (.bl (!decide (i = j))) h
  | .str i, .str j => P (.bl (!decide (i = j))) h
  | _, _ => ∃ b, eqD h x y = some b ∧ P (.bl (!b)) h
def rEqA (K : PySem.W.Frag) : R2 := fun x y H Q => rEq x y H Q ∨ rEqD K x y H Q
def rNeA (K : PySem.W.Frag) : R2 := fun x y H Q => rNe x y H Q ∨ rNeD K x y H Q
theorem op_eqA {X : Cx} (hu : X.A.units + 64 < cLine) : OpR X (compareOp .Eq) (rEqA X.K) := op_eq.or (op_eqD hu)
theorem op_neA {X : Cx} (hu : X.A.units + 64 < cLine) : OpR X (compareOp .NotEq) (rNeA X.K) := op_ne.or (op_neD hu)
theorem eqD_ok {G : Pg} {H : Hp} {h : DH} {x y : D} {v u : V} {b : Bool} (rh : RH G H h) (rx : Rep G.K H x v) (ry : Rep G.K H y u) (e : eqD h x y = some b) :
    ∃ d e, Dp G.K H v d ∧ Dp G.K H u e ∧ SeqAt.shaped d = true ∧ SeqAt.shaped e = true ∧ b = PyData.eqv d e := by
  unfold eqD at e
  cases zx : toPy h 20 x with
  | none => simp [zx] at e
  | some a =>
    cases zy : toPy h 20 y with
    | none => simp [zx, zy] at e
    | some c =>
      simp only [zx, zy] at e
      cases e
      exact ⟨a, c, toPy_ok rh 20 x v a rx zx, toPy_ok rh 20 y u c ry zy, toPy_shaped (by decide) zx, toPy_shaped (by decide) zy, rfl⟩
theorem dec_vint {i j : Int} : decide (V.int i = V.int j) = decide (i = j) := decide_eq_decide.mpr ⟨fun e => V.int.inj e, fun e => by rw [e]⟩
theorem dec_vstr {i j : Str} : decide (V.str i = V.str j) = decide (i = j) := decide_eq_decide.mpr ⟨fun e => V.str.inj e, fun e => by rw [e]⟩
theorem od_eq {G : Pg} : OpD G doEq (rEqA G.K) := fun H h x y v u P Q rh rx ry p f => by
  have main : (∃ b, eqD h x y = some b ∧ P (.bl b) h) → rEqA G.K v u H Q := fun ⟨b, e, p⟩ => by
    obtain ⟨d, c, h1, h2, h3, h4, rfl⟩ := eqD_ok rh rx ry e
    exact .inr ⟨d, c, h1, h2, h3, h4, f.val rh p rep_bl⟩
  unfold doEq at p
  split at p
  · rw [rx.int_, ry.int_]
    exact .inl ⟨rfl, by rw [dec_vint]; exact f.val rh p rep_bl⟩
  · rw [rx.str_, ry.str_]
    exact .inl ⟨rfl, by rw [dec_vstr]; exact f.val rh p rep_bl⟩
  · exact main p
theorem od_ne {G : Pg} : OpD G doNe (rNeA G.K) := fun H h x y v u P Q rh rx ry p f => by
  have main : (∃ b, eqD h x y = some b ∧ P (.bl (!b)) h) → rNeA G.K v u H Q := fun ⟨b, e, p⟩ => by
    obtain ⟨d, c, h1, h2, h3, h4, rfl⟩ := eqD_ok rh rx ry e
    exact .inr ⟨d, c, h1, h2, h3, h4, f.val rh p rep_bl⟩
  unfold doNe at p
  split at p
  · rw [rx.int_, ry.int_]
    exact .inl ⟨rfl, by rw [dec_vint]; exact f.val rh p rep_bl⟩
  · rw [rx.str_, ry.str_]
    exact .inl ⟨rfl, by rw [dec_vstr]; exact f.val rh p rep_bl⟩
  · exact main p

/-! ### numbers -/
def twoI (x y : D) (k : Int → Int → Prop) : Prop := match x, y with
  | .int i, .int j => k i j
  | _, _ => False
theorem twoI_ok {G : Pg} {H : Hp} {x y : D} {v u : V} {k : Int → Int → Prop} (rx : Rep G.K H x v) (ry : Rep G.K H y u) (h : twoI x y k) : ∃ i j, v = .int i ∧ u = .int j ∧ k i j := by
  cases x <;> cases y <;> first | exact h.elim | exact ⟨_, _, rx.int_, ry.int_, h⟩
def doI (g : Int → Int → D) : DO := fun x y h P => twoI x y fun i j => P (g i j) h
def doIC (C : Int → Int → Prop) (g : Int → Int → D) : DO := fun x y h P => twoI x y fun i j => C i j ∧ P (g i j) h
theorem od_I {G : Pg} {g : Int → Int → D} {gv : Int → Int → V} (r : ∀ H i j, Rep G.K H (g i j) (gv i j)) : OpD G (doI g) (rI0 gv) := fun H h x y v u P Q rh rx ry p f => by
  obtain ⟨i, j, e1, e2, q⟩ := twoI_ok rx ry p
  exact ⟨i, j, e1, e2, f.val rh q (r H i j)⟩
theorem od_IC {G : Pg} {C : Int → Int → Prop} {g : Int → Int → D} {gv : Int → Int → V} (r : ∀ H i j, Rep G.K H (g i j) (gv i j)) : OpD G (doIC C g) (rI C gv) := fun H h x y v u P Q rh rx ry p f => by
  obtain ⟨i, j, e1, e2, c, q⟩ := twoI_ok rx ry p
  exact ⟨i, j, e1, e2, c, f.val rh q (r H i j)⟩
/-- an alternative -/
theorem OpD.or {G : Pg} {f g : DO} {r r' : R2} (a : OpD G f r) (b : OpD G g r') : OpD G (fun x y h P => f x y h P ∨ g x y h P) (fun x y H Q => r x y H Q ∨ r' x y H Q) := fun H h x y v u P Q rh rx ry p q =>
  p.elim (fun z => .inl (a H h x y v u P Q rh rx ry z q)) fun z => .inr (b H h x y v u P Q rh rx ry z q)
theorem OpD.of {G : Pg} {f g : DO} {r : R2} (a : OpD G f r) (i : ∀ x y h P, g x y h P → f x y h P) : OpD G g r := fun H h x y v u P Q rh rx ry p q => a H h x y v u P Q rh rx ry (i _ _ _ _ p) q

/-! ### + -/
def doCatT : DO := fun x y h P => match x, y with
  | .tup xs, .tup ys => xs.length + ys.length ≤ sizeLine ∧ P (.tup (xs ++ ys)) h
  | _, _ => False
def doCatL : DO := fun x y h P => match x, y with
  | .ref a, .ref b => match h a, h b with
    | some (.lst xs), some (.lst ys) => xs.length + ys.length ≤ sizeLine ∧ ∀ p, h p = none → P (.ref p) (up h p (.lst (xs ++ ys)))
    | _, _ => False
  | _, _ => False
def doCatS : DO := fun x y h P => match x, y with
  | .str s, .str t => s.length + t.length ≤ sizeLine ∧ P (.str (s ++ t)) h
  | _, _ => False
theorem od_catS {G : Pg} : OpD G doCatS (fun x y H Q => ∃ i j, x = .str i ∧ y = .str j ∧ i.length + j.length ≤ sizeLine ∧ Q (.str (i ++ j)) H) := fun H h x y v u P Q rh rx ry p f => by
  cases x <;> cases y <;> first | exact p.elim | exact ⟨_, _, rx.str_, ry.str_, p.1, f.val rh p.2 rep_str⟩
theorem od_catL {G : Pg} : OpD G doCatL rCat := fun H h x y v u P Q rh rx ry p f => by
  cases x <;> cases y <;> first | exact p.elim | skip
  rename_i a b
  unfold doCatL at p
  simp only at p
  split at p
  · rename_i xs ys ea eb
    obtain ⟨vs, q1, r1⟩ := rh.lst ea
    obtain ⟨us, q2, r2⟩ := rh.lst eb
    refine ⟨a, b, vs, us, rx.ref_, ry.ref_, q1, q2, by rw [r1.length, r2.length]; exact p.1, f.new rh p.2 fun c hc => OR.lst hc (r1.append r2)⟩
  · exact p.elim
theorem od_catT {G : Pg} : OpD G doCatT (rCatA G.K) := fun H h x y v u P Q rh rx ry p f => by
  cases x <;> cases y <;> first | exact p.elim | skip
  rename_i xs ys
  obtain ⟨a, vs, rfl, q1, r1⟩ := rx.tup_
  obtain ⟨b, us, rfl, q2, r2⟩ := ry.tup_
  refine ⟨a, b, vs, us, rfl, rfl, q1, q2, by rw [r1.length, r2.length]; exact p.1, fun e => ?_, fun _ e => ?_, fun _ _ c hc => f.newT rh p.2 (r1.append r2) c hc⟩
  · have z : xs = [] := by
      have l := r1.length
      rw [e] at l
      exact List.eq_nil_of_length_eq_zero l.symm
    exact f.val rh p.2 (by rw [z]; exact ry)
  · have z : ys = [] := by
      have l := r2.length
      rw [e] at l
      exact List.eq_nil_of_length_eq_zero l.symm
    exact f.val rh p.2 (by rw [z, List.append_nil]; exact rx)
def doAdd : DO := fun x y h P => match x, y with
  | .int i, .int j => P (.int (i + j)) h
  | .tup _, .tup _ => doCatT x y h P
  | .ref _, .ref _ => doCatL x y h P
  | .str _, .str _ => doCatS x y h P
  | _, _ => False
def rAddA (K : PySem.W.Frag) : R2 := fun x y H Q => ((rI0 fun i j => .int (i + j)) x y H Q ∨ rCatA K x y H Q) ∨ (rCat x y H Q ∨ ∃ i j, x = .str i ∧ y = .str j ∧ i.length + j.length ≤ sizeLine ∧ Q (.str (i ++ j)) H)
theorem op_addA {X : Cx} : OpR X (binaryOp .Add) (rAddA X.K) := (op_add.or op_catA).or (op_cat.or op_add_str)
theorem od_add {G : Pg} : OpD G doAdd (rAddA G.K) := fun H h x y v u P Q rh rx ry p f => by
  cases x <;> cases y <;> first
    | exact p.elim
    | exact .inl (.inl ⟨_, _, rx.int_, ry.int_, f.val rh p rep_int⟩)
    | exact .inl (.inr (od_catT H h _ _ v u P Q rh rx ry p f))
    | exact .inr (.inl (od_catL H h _ _ v u P Q rh rx ry p f))
    | exact .inr (.inr (od_catS H h _ _ v u P Q rh rx ry p f))
def doSub : DO := doI fun i j => .int (i - j)
theorem od_sub {G : Pg} : OpD G doSub (rI0 fun i j => .int (i - j)) := od_I fun _ _ _ => rep_int
/-- what a product asks: one side below 2 ^ 64, or both below a million bits together -/
def MulOk (i j : Int) : Prop := CMul i j ∨ CMulW i j
def doRepL : DO := fun x y h P => match x, y with
  | .ref a, .int k => match h a with
    | some (.lst xs) => -(2 ^ 63) ≤ k ∧ k < 2 ^ 63 ∧ xs.length * k.toNat ≤ sizeLine ∧ ∀ p, h p = none → P (.ref p) (up h p (.lst (List.replicate k.toNat xs).flatten))
    | _ => False
  | _, _ => False
def doMul : DO := fun x y h P => match x, y with
  | .int i, .int j => MulOk i j ∧ P (.int (i * j)) h
  | .ref _, .int _ => doRepL x y h P
  | _, _ => False
def rMulA : R2 := fun x y H Q => (rI CMul (fun i j => .int (i * j)) x y H Q ∨ rI CMulW (fun i j => .int (i * j)) x y H Q) ∨ rRep x y H Q
theorem op_mulA {X : Cx} : OpR X (binaryOp .Mult) rMulA := (op_mul.or op_mulW).or op_rep
theorem Reps.rep {K : PySem.W.Frag} {H : Hp} {ds : List D} {vs : List V} (h : Reps K H ds vs) : ∀ k : Nat, Reps K H (List.replicate k ds).flatten (List.replicate k vs).flatten
  | 0 => by simp only [List.replicate_zero, List.flatten_nil]; exact reps_nil
  | k + 1 => by simp only [List.replicate_succ, List.flatten_cons]; exact h.append (Reps.rep h k)
theorem od_mul {G : Pg} : OpD G doMul rMulA := fun H h x y v u P Q rh rx ry p f => by
  cases x <;> cases y <;> first | exact p.elim | skip
  · obtain ⟨c, q⟩ := p
    rcases c with c | c
    · exact .inl (.inl ⟨_, _, rx.int_, ry.int_, c, f.val rh q rep_int⟩)
    · exact .inl (.inr ⟨_, _, rx.int_, ry.int_, c, f.val rh q rep_int⟩)
  · rename_i a k
    unfold doMul doRepL at p
    simp only at p
    split at p
    · rename_i xs ea
      obtain ⟨vs, q1, r1⟩ := rh.lst ea
      obtain ⟨h1, h2, h3, h4⟩ := p
      exact .inr ⟨a, k, vs, rx.ref_, ry.int_, q1, h1, h2, by rw [r1.length]; exact h3, f.new rh h4 fun c hc => OR.lst hc (r1.rep _)⟩
    · exact p.elim
def doDiv : DO := doIC CDivW fun i j => .int (i / j)
theorem od_div {G : Pg} : OpD G doDiv (rI CDivW fun i j => .int (i / j)) := od_IC fun _ _ _ => rep_int
def doMod : DO := doIC (fun _ j => 0 < j) fun i j => .int (i % j)
theorem od_mod {G : Pg} : OpD G doMod (rI (fun _ j => 0 < j) fun i j => .int (i % j)) := od_IC fun _ _ _ => rep_int
def doPow : DO := doIC CPow fun i j => .int (i ^ j.toNat)
theorem od_pow {G : Pg} : OpD G doPow (rI CPow fun i j => .int (i ^ j.toNat)) := od_IC fun _ _ _ => rep_int
/-- (i, a) < (j, b): ints, truth values -/
def ltIB (i : Int) (a : Bool) (j : Int) (b : Bool) : Bool := if i = j then (!a && b) else decide (i < j)
def rLtIB (K : PySem.W.Frag) : R2 := fun x y H Q => ∃ a b i j p q, x = .ref a ∧ y = .ref b ∧ SqT K H a [.int i, .bl p] ∧ SqT K H b [.int j, .bl q] ∧ Q (.bl (ltIB i p j q)) H
theorem op_ltIB {X : Cx} (hu : X.A.units < cLine) : OpR X (compareOp .Lt) (rLtIB X.K) := by
  intro pins s σ H x y v u Q I rx ry h
  obtain ⟨a, b, i, j, p, q, rfl, rfl, ha, hb, z⟩ := h
  cases rx
  cases ry
  obtain ⟨its, r1, p1, _⟩ := I.tuple ha
  obtain ⟨its2, r2, p2, _⟩ := I.tuple hb
  obtain ⟨v1, v2, e1, r3, r4⟩ := vals2 r1
  obtain ⟨u1, u2, e2, r5, r6⟩ := vals2 r2
  subst e1 e2
  obtain ⟨t1, rfl⟩ := r3
  obtain ⟨t2, rfl⟩ := r5
  cases r4
  cases r6
  have go := Ob.RcOp.tuples_lt (A := X.A) (s := s) (e := fun k => if k = 0 then i == j else p == q) (r := fun k => if k = 0 then decide (i < j) else decide (PyProof.Rows.b2i p < PyProof.Rows.b2i q)) p1 p2 hu
    (fun k h1 h2 => match k, h1, h2 with
      | 0, _, _ => SeqAt.EqAt.int_int _ _ _ _
      | 1, _, _ => SeqAt.EqAt.bool_bool _ _)
    (fun k h1 h2 _ => match k, h1, h2 with
      | 0, _, _ => Ob.RcOp.lt_int _ _ _ _
      | 1, _, _ => fun _ _ _ _ h => PyProof.Rows.lt_bool h)
  refine go X.prog X.w _ _ ⟨.bl (ltIB i p j q), H, I, ?_, z⟩
  show Value.bool _ = Value.bool _
  congr 1
  show Ob.lexAt _ _ (decide (2 < 2)) 0 2 = _
  unfold ltIB
  simp only [Ob.lexAt]
  by_cases e : i = j
  · subst e
    cases p <;> cases q <;> simp [PyProof.Rows.b2i]
  · simp [e]
def doLt : DO := fun x y h P => match x, y with
  | .int i, .int j => P (.bl (decide (i < j))) h
  | .tup [.int i, .bl a], .tup [.int j, .bl b] => P (.bl (ltIB i a j b)) h
  | _, _ => False
def doLe : DO := doI fun i j => .bl (decide (i ≤ j))
def doGt : DO := doI fun i j => .bl (decide (j < i))
def doGe : DO := doI fun i j => .bl (decide (j ≤ i))
theorem od_lt {G : Pg} : OpD G doLt (fun x y H Q => rI0 (fun i j => .bl (decide (i < j))) x y H Q ∨ rLtIB G.K x y H Q) := fun H h x y v u P Q rh rx ry p f => by
  unfold doLt at p
  split at p
  · exact .inl ⟨_, _, rx.int_, ry.int_, f.val rh p rep_bl⟩
  · obtain ⟨a, vs, rfl, h1, h2⟩ := rx.tup_
    obtain ⟨b, us, rfl, h3, h4⟩ := ry.tup_
    obtain ⟨v1, r1, rfl, q1, q2⟩ := h2.cons_
    obtain ⟨v2, r2, rfl, q3, q4⟩ := q2.cons_
    obtain ⟨w1, r3, rfl, q5, q6⟩ := h4.cons_
    obtain ⟨w2, r4, rfl, q7, q8⟩ := q6.cons_
    rw [q1.int_, q3.bl_, q4.nil_] at h1
    rw [q5.int_, q7.bl_, q8.nil_] at h3
    exact .inr ⟨a, b, _, _, _, _, rfl, rfl, h1, h3, f.val rh p rep_bl⟩
  · exact p.elim
theorem od_le {G : Pg} : OpD G doLe (rI0 fun i j => .bl (decide (i ≤ j))) := od_I fun _ _ _ => rep_bl
theorem od_gt {G : Pg} : OpD G doGt (rI0 fun i j => .bl (decide (j < i))) := od_I fun _ _ _ => rep_bl
theorem od_ge {G : Pg} : OpD G doGe (rI0 fun i j => .bl (decide (j ≤ i))) := od_I fun _ _ _ => rep_bl
/-! ### is: None, truth values -/
def D.isNon : D → Bool
  | .non => true
  | _ => false
def doIs : DO := fun x y h P => match x, y with
  | _, .non => P (.bl x.isNon) h
  | .bl a, .bl b => P (.bl (decide (a = b))) h
  | _, _ => False
def doIsNot : DO := fun x y h P => match x, y with
  | _, .non => P (.bl (!x.isNon)) h
  | .bl a, .bl b => P (.bl (!decide (a = b))) h
  | _, _ => False
def rIsA : R2 := fun x y H Q => (y = .non ∧ Q (.bl (decide (x = .non))) H) ∨ rIsB x y H Q
def rIsNotA : R2 := fun x y H Q => (y = .non ∧ Q (.bl (!decide (x = .non))) H) ∨ rNotB x y H Q
theorem op_isA {X : Cx} : OpR X (compareOp .Is) rIsA := op_isN.or op_isBl
theorem op_isNotA {X : Cx} : OpR X (compareOp .IsNot) rIsNotA := op_notN.or op_notBl
theorem isNon_ok {K : PySem.W.Frag} {H : Hp} {x : D} {v : V} (r : Rep K H x v) : x.isNon = decide (v = .non) := by
  cases x with
  | non => rw [r.non_]; rfl
  | bl b => rw [r.bl_]; rfl
  | int b => rw [r.int_]; rfl
  | str b => rw [r.str_]; rfl
  | ref b => rw [r.ref_]; rfl
  | tup ds => obtain ⟨a, vs, rfl, _⟩ := r.tup_; rfl
  | rol ds => obtain ⟨a, vs, rfl, _⟩ := r.rol_; rfl
  | ktup ds => obtain ⟨a, vs, rfl, _⟩ := r.ktup_; rfl
theorem od_is {G : Pg} : OpD G doIs rIsA := fun H h x y v u P Q rh rx ry p f => by
  cases y with
  | non =>
    have p' : P (.bl x.isNon) h := by cases x <;> exact p
    exact .inl ⟨ry.non_, by rw [← isNon_ok rx]; exact f.val rh p' rep_bl⟩
  | bl b =>
    cases x <;> first | exact p.elim | exact .inr ⟨_, _, rx.bl_, ry.bl_, f.val rh p rep_bl⟩
  | _ => cases x <;> exact p.elim
theorem od_isNot {G : Pg} : OpD G doIsNot rIsNotA := fun H h x y v u P Q rh rx ry p f => by
  cases y with
  | non =>
    have p' : P (.bl (!x.isNon)) h := by cases x <;> exact p
    exact .inl ⟨ry.non_, by rw [← isNon_ok rx]; exact f.val rh p' rep_bl⟩
  | bl b =>
    cases x <;> first | exact p.elim | exact .inr ⟨_, _, rx.bl_, ry.bl_, f.val rh p rep_bl⟩
  | _ => cases x <;> exact p.elim
/-! ### in -/
def D.flat : D → Bool
  | .non => true
  | .bl _ => true
  | .int _ => true
  | .str _ => true
  | _ => false
/-- == of flat values -/
def eqF : D → D → Bool
  | .non, .non => true
  | .bl a, .bl b => a == b
  | .bl a, .int b => (if a then 1 else 0) == b
  | .int a, .bl b => a == (if b then 1 else 0)
  | .int a, .int b => a == b
  | .str a, .str b => a == b
  | _, _ => false
theorem flat_ok {K : PySem.W.Frag} {H : Hp} {x : D} {v : V} (r : Rep K H x v) (f : x.flat = true) : flatV v = true := by
  cases x with
  | non => rw [r.non_]; rfl
  | bl b => rw [r.bl_]; rfl
  | int b => rw [r.int_]; rfl
  | str b => rw [r.str_]; rfl
  | _ => cases f
theorem eqF_ok {K : PySem.W.Frag} {H : Hp} {x y : D} {v u : V} (r : Rep K H x v) (r' : Rep K H y u) (f : x.flat = true) (f' : y.flat = true) : eqV v u = eqF x y := by
  cases x <;> cases y <;> first
    | (cases f; done)
    | (cases f'; done)
    | (simp only [Rep] at r r'; subst r r'; rfl)
theorem flats_ok {K : PySem.W.Frag} {H : Hp} : ∀ {ds : List D} {vs : List V}, Reps K H ds vs → ds.all D.flat = true → vs.all flatV = true
  | [], vs, r, f => by rw [r.nil_]; rfl
  | d :: ds, vs, r, f => by
    obtain ⟨v, us, rfl, p, q⟩ := r.cons_
    rw [List.all_cons, Bool.and_eq_true] at f ⊢
    exact ⟨flat_ok p f.1, flats_ok q f.2⟩
theorem inV_ok {K : PySem.W.Frag} {H : Hp} {x : D} {v : V} (rx : Rep K H x v) (fx : x.flat = true) : ∀ {ds : List D} {vs : List V}, Reps K H ds vs → ds.all D.flat = true → inV v vs = ds.any fun y => eqF y x
  | [], vs, r, f => by rw [r.nil_]; rfl
  | d :: ds, vs, r, f => by
    obtain ⟨w, us, rfl, p, q⟩ := r.cons_
    rw [List.all_cons, Bool.and_eq_true] at f
    have ih := inV_ok rx fx q f.2
    show (eqV w v || inV v us) = (eqF d x || ds.any fun y => eqF y x)
    rw [ih, eqF_ok p rx f.1 fx]
/-- is x in the sequence ds: all flat, or data of a list -/
def memL (h : DH) (x : D) (ds : List D) : Option Bool := match toPy h 19 x, toPys (toPy h 19) ds with
  | some d, some es => some (es.any fun z => PyData.eqv z d)
  | _, _ => none
def valD {κ : Type} [DecidableEq κ] (kvs : List (κ × D)) (k : κ) : Option D := (kvs.find? fun kv => decide (kv.1 = k)).map (·.2)
theorem RepF.val {κ : Type} [DecidableEq κ] {K : PySem.W.Frag} {H : Hp} : ∀ {kvs : List (κ × D)} {ws : List (κ × V)}, RepF K H kvs ws → ∀ k, (∀ d, valD kvs k = some d → ∃ v, valV ws k = some v ∧ Rep K H d v) ∧ (valD kvs k = none → valV ws k = none)
  | [], ws, r, k => by
    rw [show ws = [] from r]
    exact ⟨fun d e => (by cases e), fun _ => rfl⟩
  | (f, d) :: kvs, ws, r, k => by
    obtain ⟨v, us, rfl, p, q⟩ := r
    have ih := q.val k
    by_cases e : f = k
    · have e1 : valD ((f, d) :: kvs) k = some d := by simp [valD, List.find?_cons, e]
      have e2 : valV ((f, v) :: us) k = some v := by simp [valV, List.find?_cons, e]
      rw [e1, e2]
      exact ⟨fun d' z => (by cases z; exact ⟨v, rfl, p⟩), fun z => (by cases z)⟩
    · have e1 : valD ((f, d) :: kvs) k = valD kvs k := by simp [valD, List.find?_cons, e]
      have e2 : valV ((f, v) :: us) k = valV us k := by simp [valV, List.find?_cons, e]
      rw [e1, e2]
      exact ih
theorem RepF.valO {κ : Type} [DecidableEq κ] {K : PySem.W.Frag} {H : Hp} {kvs : List (κ × D)} {ws : List (κ × V)} (r : RepF K H kvs ws) (k : κ) : (valV ws k).isSome = (valD kvs k).isSome := by
  cases e : valD kvs k with
  | none => rw [(r.val k).2 e]; rfl
  | some d =>
    obtain ⟨v, p, _⟩ := (r.val k).1 d e
    rw [p]; rfl
def D.key? : D → Option Key
  | .int i => some (.inl i)
  | .str s => some (.inr s)
  | _ => none
def keys? : List D → Option (List Key)
  | [] => some []
  | d :: ds => match d.key? with
    | some k => (keys? ds).map (k :: ·)
    | none => none
def D.tkey? : D → Option (List Key)
  | .tup ds => keys? ds
  | _ => none
theorem key_ok {K : PySem.W.Frag} {H : Hp} {d : D} {v : V} {k : Key} (r : Rep K H d v) (e : d.key? = some k) : v = kV k := by
  cases d with
  | int i => cases e; exact r.int_
  | str i => cases e; exact r.str_
  | _ => cases e
theorem keys_ok {K : PySem.W.Frag} {H : Hp} : ∀ {ds : List D} {vs : List V} {ks : List Key}, Reps K H ds vs → keys? ds = some ks → vs = ks.map kV
  | [], vs, ks, r, e => by rw [r.nil_]; cases e; rfl
  | d :: ds, vs, ks, r, e => by
    obtain ⟨v, us, rfl, p, q⟩ := r.cons_
    unfold keys? at e
    cases z : d.key? with
    | none => simp [z] at e
    | some k =>
      simp only [z] at e
      obtain ⟨ys, e1, rfl⟩ := Option.map_eq_some_iff.mp e
      rw [key_ok p z, keys_ok q e1]; rfl
theorem tkey_ok {K : PySem.W.Frag} {H : Hp} {d : D} {v : V} {k : List Key} (r : Rep K H d v) (e : d.tkey? = some k) : ∃ b, v = .ref b ∧ H b = some (.tup (k.map kV)) := by
  cases d with
  | tup ds =>
    obtain ⟨a, vs, rfl, q, p⟩ := r.tupH
    exact ⟨a, rfl, by rw [q, keys_ok p e]⟩
  | _ => cases e
/-- what a dict has at a key -/
def dGet (h : DH) (a : Addr) (x : D) (k : Option D → Prop) : Prop := match h a with
  | some (.dK kvs) => ∃ key, x.key? = some key ∧ k (valD kvs key)
  | some (.dT kvs) => ∃ key, x.tkey? = some key ∧ k (valD kvs key)
  | some (.fK kvs _ _) => ∃ key, x.key? = some key ∧ k (valD kvs key)
  | some (.fT kvs _ _) => ∃ key, x.tkey? = some key ∧ k (valD kvs key)
  | _ => False
theorem dGet_ok {G : Pg} {H : Hp} {h : DH} {a : Addr} {x : D} {u : V} {k : Option D → Prop} (rh : RH G H h) (rx : Rep G.K H x u) (p : dGet h a x k) :
    ∃ o ov, DGet H a u ov ∧ k o ∧ (∀ d, o = some d → ∃ v, ov = some v ∧ Rep G.K H d v) ∧ (o = none → ov = none) := by
  unfold dGet at p
  split at p
  · rename_i kvs e
    obtain ⟨key, e1, q⟩ := p
    obtain ⟨ws, e2, r⟩ := rh _ _ e
    rw [key_ok rx e1]
    exact ⟨_, _, DGet.k e2, q, fun d z => (r.val key).1 d z, fun z => (r.val key).2 z⟩
  · rename_i kvs e
    obtain ⟨key, e1, q⟩ := p
    obtain ⟨ws, e2, r⟩ := rh _ _ e
    obtain ⟨b, rfl, eb⟩ := tkey_ok rx e1
    exact ⟨_, _, DGet.t e2 eb, q, fun d z => (r.val key).1 d z, fun z => (r.val key).2 z⟩
  · rename_i kvs o ws e
    obtain ⟨key, e1, q⟩ := p
    obtain ⟨e2, r⟩ := rh _ _ e
    rw [key_ok rx e1]
    exact ⟨_, _, .inl ⟨ws, key, .inr ⟨o, e2⟩, rfl, rfl⟩, q, fun d z => (r.val key).1 d z, fun z => (r.val key).2 z⟩
  · rename_i kvs o ws e
    obtain ⟨key, e1, q⟩ := p
    obtain ⟨e2, r⟩ := rh _ _ e
    obtain ⟨b, rfl, eb⟩ := tkey_ok rx e1
    exact ⟨_, _, .inr ⟨ws, key, b, .inr ⟨o, e2⟩, rfl, eb, rfl⟩, q, fun d z => (r.val key).1 d z, fun z => (r.val key).2 z⟩
  · exact p.elim
def isDict (h : DH) (a : Addr) : Bool := match h a with
  | some (.dK _) => true
  | some (.dT _) => true
  | some (.fK _ _ _) => true
  | some (.fT _ _ _) => true
  | _ => false
def doInB (g : Bool → Bool) : DO := fun x y h P => match y with
  | .ref a => if isDict h a = true then dGet h a x fun o => P (.bl (g o.isSome)) h else ∃ ds b, lstOf h y = some ds ∧ memL h x ds = some b ∧ P (.bl (g b)) h
  | .rol ds => ∃ b, memL h x ds = some b ∧ P (.bl (g b)) h
  | .tup ds => x.flat = true ∧ ds.all D.flat = true ∧ P (.bl (g (ds.any fun y => eqF y x))) h
  | .ktup ds => x.flat = true ∧ ds.all D.flat = true ∧ P (.bl (g (ds.any fun y => eqF y x))) h
  | _ => False
def doIn : DO := doInB id
def doNotIn : DO := doInB not
def rInA (K : PySem.W.Frag) : R2 := fun x y H Q => (rIn K false x y H Q ∨ rInD K x y H Q) ∨ ∃ a o, y = .ref a ∧ DGet H a x o ∧ Q (.bl o.isSome) H
def rNotInA (K : PySem.W.Frag) : R2 := fun x y H Q => (rIn K true x y H Q ∨ rNotInD K x y H Q) ∨ ∃ a o, y = .ref a ∧ DGet H a x o ∧ Q (.bl (!o.isSome)) H
theorem op_dIn {X : Cx} (hu : X.A.units + 1 < cLine) : OpR X (compareOp .In) (fun x y H Q => ∃ a o, y = .ref a ∧ DGet H a x o ∧ Q (.bl o.isSome) H) := by
  intro pins s σ H x y v u Q I rx ry h
  obtain ⟨a, o, rfl, g, q⟩ := h
  cases ry
  exact d_in hu I g rx fun s1 I1 => ⟨.bl _, H, I1, rfl, q⟩
theorem op_dNotIn {X : Cx} (hu : X.A.units + 1 < cLine) : OpR X (compareOp .NotIn) (fun x y H Q => ∃ a o, y = .ref a ∧ DGet H a x o ∧ Q (.bl (!o.isSome)) H) := by
  intro pins s σ H x y v u Q I rx ry h
  obtain ⟨a, o, rfl, g, q⟩ := h
  cases ry
  exact d_notIn hu I g rx fun s1 I1 => ⟨.bl _, H, I1, rfl, q⟩
theorem op_inA {X : Cx} (hu : X.A.units + 65 < cLine) : OpR X (compareOp .In) (rInA X.K) := (op_in_seq.or (op_inD hu)).or (op_dIn (by omega))
theorem op_notInA {X : Cx} (hu : X.A.units + 65 < cLine) : OpR X (compareOp .NotIn) (rNotInA X.K) := (op_notIn_seq.or (op_notInD hu)).or (op_dNotIn (by omega))
theorem memL_ok {G : Pg} {H : Hp} {h : DH} {x : D} {v : V} {a : Addr} {ds : List D} {us : List V} {b : Bool} (rh : RH G H h) (rx : Rep G.K H x v) (hq : SqL G.K H a us) (r : Reps G.K H ds us) (e : memL h x ds = some b) :
    ∃ d es, Dp G.K H v d ∧ Dp G.K H (.ref a) (.list es) ∧ SeqAt.shaped d = true ∧ SeqAt.shaped (.list es) = true ∧ b = es.any fun z => PyData.eqv z d := by
  unfold memL at e
  cases zx : toPy h 19 x with
  | none => simp [zx] at e
  | some d =>
    cases zy : toPys (toPy h 19) ds with
    | none => simp [zx, zy] at e
    | some es =>
      simp only [zx, zy] at e
      cases e
      exact ⟨d, es, toPy_ok rh 19 x v d rx zx, .lst hq (toPys_ok (toPy_ok rh 19) ds us es r zy), toPy_shaped (by decide) zx, toPys_shapedL (by decide) zy, rfl⟩
theorem od_in {G : Pg} : OpD G doIn (rInA G.K) := fun H h x y v u P Q rh rx ry p f => by
  have lst : ∀ ds b, lstOf h y = some ds → memL h x ds = some b → P (.bl b) h → rInA G.K v u H Q := fun ds b e1 e2 p => by
    obtain ⟨a, us, rfl, q, r⟩ := lstOf_ok rh ry e1
    obtain ⟨d, es, h1, h2, h3, h4, rfl⟩ := memL_ok rh rx q r e2
    exact .inl (.inr ⟨d, es, h1, h2, h3, h4, f.val rh p rep_bl⟩)
  have tpl : ∀ ds a us, u = .ref a → SqT G.K H a us → Reps G.K H ds us → x.flat = true → ds.all D.flat = true → P (.bl (ds.any fun y => eqF y x)) h → rInA G.K v u H Q := fun ds a us e q r fx fd p => by
    refine .inl (.inl ⟨a, us, e, .inr q, flat_ok rx fx, flats_ok r fd, ?_⟩)
    rw [if_neg Bool.false_ne_true, inV_ok rx fx r fd]
    exact f.val rh p rep_bl
  cases y with
  | ref a =>
    unfold doIn doInB at p
    simp only at p
    split at p
    · obtain ⟨o, ov, g, k, e1, e2⟩ := dGet_ok rh rx p
      refine .inr ⟨a, ov, ry.ref_, g, ?_⟩
      have e : ov.isSome = o.isSome := by
        cases o with
        | none => rw [e2 rfl]; rfl
        | some d => obtain ⟨w, z, _⟩ := e1 d rfl; rw [z]; rfl
      rw [e]
      exact f.val rh k rep_bl
    · obtain ⟨ds, b, e1, e2, p⟩ := p
      exact lst ds b e1 e2 p
  | rol ds =>
    obtain ⟨b, e2, p⟩ := p
    exact lst ds b rfl e2 p
  | tup ds =>
    obtain ⟨a, us, e, q, r⟩ := ry.tup_
    exact tpl ds a us e q r p.1 p.2.1 p.2.2
  | ktup ds =>
    obtain ⟨a, us, e, q, r⟩ := ry.ktup_
    exact tpl ds a us e q r p.1 p.2.1 p.2.2
  | _ => exact p.elim
theorem od_notIn {G : Pg} : OpD G doNotIn (rNotInA G.K) := fun H h x y v u P Q rh rx ry p f => by
  have lst : ∀ ds b, lstOf h y = some ds → memL h x ds = some b → P (.bl (!b)) h → rNotInA G.K v u H Q := fun ds b e1 e2 p => by
    obtain ⟨a, us, rfl, q, r⟩ := lstOf_ok rh ry e1
    obtain ⟨d, es, h1, h2, h3, h4, rfl⟩ := memL_ok rh rx q r e2
    exact .inl (.inr ⟨d, es, h1, h2, h3, h4, f.val rh p rep_bl⟩)
  have tpl : ∀ ds a us, u = .ref a → SqT G.K H a us → Reps G.K H ds us → x.flat = true → ds.all D.flat = true → P (.bl (!(ds.any fun y => eqF y x))) h → rNotInA G.K v u H Q := fun ds a us e q r fx fd p => by
    refine .inl (.inl ⟨a, us, e, .inr q, flat_ok rx fx, flats_ok r fd, ?_⟩)
    rw [if_pos rfl, inV_ok rx fx r fd]
    exact f.val rh p rep_bl
  cases y with
  | ref a =>
    unfold doNotIn doInB at p
    simp only at p
    split at p
    · obtain ⟨o, ov, g, k, e1, e2⟩ := dGet_ok rh rx p
      refine .inr ⟨a, ov, ry.ref_, g, ?_⟩
      have e : ov.isSome = o.isSome := by
        cases o with
        | none => rw [e2 rfl]; rfl
        | some d => obtain ⟨w, z, _⟩ := e1 d rfl; rw [z]; rfl
      rw [e]
      exact f.val rh k rep_bl
    · obtain ⟨ds, b, e1, e2, p⟩ := p
      exact lst ds b e1 e2 p
  | rol ds =>
    obtain ⟨b, e2, p⟩ := p
    exact lst ds b rfl e2 p
  | tup ds =>
    obtain ⟨a, us, e, q, r⟩ := ry.tup_
    exact tpl ds a us e q r p.1 p.2.1 p.2.2
  | ktup ds =>
    obtain ⟨a, us, e, q, r⟩ := ry.ktup_
    exact tpl ds a us e q r p.1 p.2.1 p.2.2
  | _ => exact p.elim
end DW

/-! DW, part 3: the readings of expressions. -/
namespace DW
open PySem L2

/-! ### the combinators -/
def lk : DSt → Nat → Option D
  | [], _ => none
  | x :: _, 0 => x
  | _ :: e, n + 1 => lk e n
theorem lk_eq : ∀ (e : DSt) (i : Nat) (d : D), lk e i = some d → e[i]? = some (some d)
  | [], _, _, h => by cases h
  | x :: _, 0, d, h => by
    have h' : x = some d := h
    subst h'; rfl
  | _ :: e, n + 1, d, h => by
    have := lk_eq e n d h
    simpa using this
def cVar (i : Nat) : DE := fun e h P _ => match lk e i with
  | some d => P d h
  | none => False
def cD (d : D) : DE := fun _ h P _ => P d h
def cBin (f : DO) (a b : DE) : DE := fun e h P R => a e h (fun x h1 => b e h1 (fun y h2 => f x y h2 P) R) R
/-- a op1 b op2 c -/
def cChain (f g : DO) (a b c : DE) : DE := fun e h P R => a e h (fun x h1 => b e h1 (fun y h2 => f x y h2 fun z h3 => match z with
  | .bl true => c e h3 (fun w h4 => g y w h4 P) R
  | .bl false => P (.bl false) h3
  | _ => False) R) R
def cNil : DA := fun _ h P _ => P [] h
def cCons (a : DE) (r : DA) : DA := fun e h P R => a e h (fun x h1 => r e h1 (fun xs h2 => P (x :: xs) h2) R) R
def cTup (t : DA) : DE := fun e h P R => t e h (fun xs h1 => xs.length ≤ sizeLine ∧ P (.tup xs) h1) R
def cLst (t : DA) : DE := fun e h P R => t e h (fun xs h1 => xs.length ≤ sizeLine ∧ ∀ p, h1 p = none → P (.ref p) (up h1 p (.lst xs))) R
/-! tests -/
def tRu (d : D) (h : DH) (k : Bool → Prop) : Prop := match d with
  | .non => k false
  | .bl b => k b
  | .int i => k (i != 0)
  | .str y => y.length ≤ sizeLine ∧ k ((y.length : Int) != 0)
  | .tup ds => k (!ds.isEmpty)
  | .ktup ds => k (!ds.isEmpty)
  | .rol ds => k (!ds.isEmpty)
  | .ref a => match h a with
    | some (.lst xs) => k (!xs.isEmpty)
    | some (.dK kvs) => k (!kvs.isEmpty)
    | _ => False
/-- a value's truth -/
def cTru (a : DE) : DT := fun e h P R => a e h (fun x h1 => tRu x h1 fun b => P b h1) R
/-- a value that is a truth value -/
def cTst (a : DE) : DT := fun e h P R => a e h (fun x h1 => match x with
  | .bl b => P b h1
  | _ => False) R
def cAnd (t u : DT) : DT := fun e h P R => t e h (fun b h1 => if b = true then u e h1 P R else P false h1) R
def cOr (t u : DT) : DT := fun e h P R => t e h (fun b h1 => if b = true then P true h1 else u e h1 P R) R
def cNot (t : DT) : DT := fun e h P R => t e h (fun b h1 => P (!b) h1) R
/-- as values: all but the last a truth value -/
def cAndV (a b : DE) : DE := fun e h P R => a e h (fun x h1 => match x with
  | .bl true => b e h1 P R
  | .bl false => P (.bl false) h1
  | _ => False) R
def cOrV (a b : DE) : DE := fun e h P R => a e h (fun x h1 => match x with
  | .bl false => b e h1 P R
  | .bl true => P (.bl true) h1
  | _ => False) R
def cNotV (a : DE) : DE := fun e h P R => a e h (fun x h1 => match x with
  | .bl b => P (.bl (!b)) h1
  | _ => False) R
def cIfE (t : DT) (a b : DE) : DE := fun e h P R => t e h (fun c h1 => if c = true then a e h1 P R else b e h1 P R) R
/-- one place: -i -/
def cNeg (a : DE) : DE := fun e h P R => a e h (fun x h1 => match x with
  | .int i => P (.int (-i)) h1
  | _ => False) R
/-- what cannot be read -/
def cBad : DE := fun _ _ _ _ => False
def cBadT : DT := fun _ _ _ _ => False
def cBadA : DA := fun _ _ _ _ => False

section
variable {X : Cx} {G : Pg} {W : WX} {a b c : Expr} {da db dc : DE} {dt du : DT} {pos : Pos}
theorem se_bad {e : Expr} : PE X e (LE G W cBad) := ⟨fun _ _ _ _ _ _ ⟨_, _, _, _, _, _, z, _⟩ => z.elim⟩
theorem st_bad {e : Expr} : PT X e (LT G W cBadT) := ⟨fun _ _ _ _ _ _ ⟨_, _, _, _, _, _, z, _⟩ => z.elim⟩
theorem sw_bad {e : Expr} : PW X e (LT G W cBadT) := ⟨fun _ _ _ _ _ _ _ ⟨_, _, _, _, _, _, z, _⟩ => z.elim⟩
theorem sa_bad {e : List Expr} : PA X e (LA G W cBadA) := ⟨fun _ _ _ _ _ _ _ ⟨_, _, _, _, _, _, z, _⟩ => z.elim⟩
theorem se_var {i : Nat} {x : Str} (hN : X.N[i]? = some x) (hv : Vis X.env.scope x) (hd : (x == ("__debug__" : Str)) = false) (hcd : (x == ("__classdict__" : Str)) = false) : PE X (.Name x pos) (LE G W (cVar i)) := by
  refine pe_imp (pe_var hN hv hd hcd) ?_
  rintro σ H Q ⟨e, h, P, R, re, rh, t, f, _⟩
  unfold cVar at t
  cases z : lk e i with
  | none => rw [z] at t; exact t.elim
  | some d =>
    rw [z] at t
    obtain ⟨v, p, q⟩ := re.2 i d (lk_eq _ _ _ z)
    exact ⟨v, p, f d h v H t (TupLe.refl H) rh q⟩
theorem se_val {e : Expr} {d : D} {v : V} (h : PE X e (tC v)) (r : ∀ H, Rep G.K H d v) : PE X e (LE G W (cD d)) := by
  refine pe_imp h ?_
  rintro σ H Q ⟨e, h, P, R, re, rh, t, f, _⟩
  exact f d h v H t (TupLe.refl H) rh (r H)
/-- what comes of a part, in LE's words -/
theorem LE.mk {t : DE} {σ : St} {H : Hp} {Q : VK} {e : DSt} {h : DH} {P : KD} {R : KX} (re : RE G.K H e σ) (rh : RH G H h) (ht : t e h P R) (x : LX G W σ H R)
    (f : ∀ d h' v H', P d h' → TupLe H H' → RH G H' h' → Rep G.K H' d v → RE G.K H' e σ → LX G W σ H' R → Q v H') : LE G W t σ H Q :=
  ⟨e, h, P, R, re, rh, ht, fun d h' v H' p tl rh' r => f d h' v H' p tl rh' r (re.keep tl) (x.later tl), x⟩
theorem LT.mk {t : DT} {σ : St} {H : Hp} {Q : Bool → Hp → Prop} {e : DSt} {h : DH} {P : Bool → DH → Prop} {R : KX} (re : RE G.K H e σ) (rh : RH G H h) (ht : t e h P R) (x : LX G W σ H R)
    (f : ∀ b h' H', P b h' → TupLe H H' → RH G H' h' → RE G.K H' e σ → LX G W σ H' R → Q b H') : LT G W t σ H Q :=
  ⟨e, h, P, R, re, rh, ht, fun d h' H' p tl rh' => f d h' H' p tl rh' (re.keep tl) (x.later tl), x⟩
theorem LA.mk {t : DA} {σ : St} {H : Hp} {Q : List V → Hp → Prop} {e : DSt} {h : DH} {P : List D → DH → Prop} {R : KX} (re : RE G.K H e σ) (rh : RH G H h) (ht : t e h P R) (x : LX G W σ H R)
    (f : ∀ ds h' vs H', P ds h' → TupLe H H' → RH G H' h' → Reps G.K H' ds vs → RE G.K H' e σ → LX G W σ H' R → Q vs H') : LA G W t σ H Q :=
  ⟨e, h, P, R, re, rh, ht, fun d h' v H' p tl rh' r => f d h' v H' p tl rh' r (re.keep tl) (x.later tl), x⟩
theorem se_bin {op : Operator} {f : DO} {r : R2} (ho : OpR X (binaryOp op) r) (od : OpD G f r) (ha : PE X a (LE G W da)) (hb : PE X b (LE G W db)) : PE X (.BinOp a op b pos) (LE G W (cBin f da db)) := by
  refine pe_imp (pe_op ho ha hb) ?_
  rintro σ H Q ⟨e, h, P, R, re, rh, t, fin, x⟩
  refine LE.mk re rh t x fun d h1 v H1 t1 tl1 rh1 r1 re1 x1 => ?_
  refine LE.mk re1 rh1 t1 x1 fun d2 h2 v2 H2 t2 tl2 rh2 r2 re2 x2 => ?_
  exact od H2 h2 d d2 v v2 P Q rh2 (Rep.keep tl2 d v r1) r2 t2 fun d' h' v' H' p tl => fin d' h' v' H' p (tl1.trans (tl2.trans tl))
theorem se_cmp {op : CmpOp} {f : DO} {r : R2} (ho : OpR X (compareOp op) r) (od : OpD G f r) (hm : behindInMarks op b = false) (ha : PE X a (LE G W da)) (hb : PE X b (LE G W db)) : PE X (.Compare a [op] [b] pos) (LE G W (cBin f da db)) := by
  refine pe_imp (pe_cmpR ho ha hb hm) ?_
  rintro σ H Q ⟨e, h, P, R, re, rh, t, fin, x⟩
  refine LE.mk re rh t x fun d h1 v H1 t1 tl1 rh1 r1 re1 x1 => ?_
  refine LE.mk re1 rh1 t1 x1 fun d2 h2 v2 H2 t2 tl2 rh2 r2 re2 x2 => ?_
  exact od H2 h2 d d2 v v2 P Q rh2 (Rep.keep tl2 d v r1) r2 t2 fun d' h' v' H' p tl => fin d' h' v' H' p (tl1.trans (tl2.trans tl))
/-- a truth value's test from the value's reading -/
theorem tst_of {te : TE} {t : DE} {σ : St} {H : Hp} {Q : Bool → Hp → Prop} (i : ∀ Q' : VK, LE G W t σ H Q' → te σ H Q') (l : LT G W (cTst t) σ H Q) : tTest te σ H Q := by
  obtain ⟨e, h, P, R, re, rh, ht, fin, x⟩ := l
  refine i _ (LE.mk re rh ht x fun d h1 v H1 t1 tl1 rh1 r1 re1 x1 => ?_)
  cases d with
  | bl k =>
    rw [r1.bl_]
    exact ⟨k, rfl, fin k h1 H1 t1 tl1 rh1⟩
  | _ => exact t1.elim
theorem le_bin {f : DO} {r : R2} (od : OpD G f r) : ∀ σ H Q, LE G W (cBin f da db) σ H Q → tOp r (LE G W da) (LE G W db) σ H Q := by
  rintro σ H Q ⟨e, h, P, R, re, rh, t, fin, x⟩
  refine LE.mk re rh t x fun d h1 v H1 t1 tl1 rh1 r1 re1 x1 => ?_
  refine LE.mk re1 rh1 t1 x1 fun d2 h2 v2 H2 t2 tl2 rh2 r2 re2 x2 => ?_
  exact od H2 h2 d d2 v v2 P Q rh2 (Rep.keep tl2 d v r1) r2 t2 fun d' h' v' H' p tl => fin d' h' v' H' p (tl1.trans (tl2.trans tl))
theorem st_cmp {op : CmpOp} {f : DO} {r : R2} (ho : OpR X (compareOp op) r) (od : OpD G f r) (hm : behindInMarks op b = false) (ha : PE X a (LE G W da)) (hb : PE X b (LE G W db)) : PT X (.Compare a [op] [b] pos) (LT G W (cTst (cBin f da db))) :=
  pt_imp (pt_cmpR ho ha hb hm) fun σ H Q l => tst_of (fun Q' q => le_bin od σ H Q' q) l
theorem le_chain {f g : DO} {r r' : R2} (od : OpD G f r) (od' : OpD G g r') : ∀ σ H Q, LE G W (cChain f g da db dc) σ H Q → tChain r r' (LE G W da) (LE G W db) (LE G W dc) σ H Q := by
  rintro σ H Q ⟨e, h, P, R, re, rh, t, fin, x⟩
  refine LE.mk re rh t x fun d h1 v H1 t1 tl1 rh1 r1 re1 x1 => ?_
  refine LE.mk re1 rh1 t1 x1 fun d2 h2 v2 H2 t2 tl2 rh2 r2 re2 x2 => ?_
  refine od H2 h2 d d2 v v2 _ _ rh2 (Rep.keep tl2 d v r1) r2 t2 fun d3 h3 v3 H3 t3 tl3 rh3 r3 => ?_
  cases d3 with
  | bl k =>
    refine ⟨k, r3.bl_, ?_⟩
    cases k with
    | true =>
      rw [if_pos rfl]
      refine LE.mk (re2.keep tl3) rh3 t3 (x2.later tl3) fun d4 h4 v4 H4 t4 tl4 rh4 r4 re4 x4 => ?_
      exact od' H4 h4 d2 d4 v2 v4 P Q rh4 (Rep.keep (tl3.trans tl4) d2 v2 r2) r4 t4 fun d' h' v' H' p tl => fin d' h' v' H' p (tl1.trans (tl2.trans (tl3.trans (tl4.trans tl))))
    | false =>
      rw [if_neg Bool.false_ne_true]
      exact fin _ h3 _ H3 t3 (tl1.trans (tl2.trans tl3)) rh3 rep_bl
  | _ => exact t3.elim
theorem se_chain {op op' : CmpOp} {f g : DO} {r r' : R2} (ho : OpR X (compareOp op) r) (ho' : OpR X (compareOp op') r') (od : OpD G f r) (od' : OpD G g r') (hm : lastMarks [op, op'] [b, c] = false)
    (ha : PE X a (LE G W da)) (hb : PE X b (LE G W db)) (hc : PE X c (LE G W dc)) : PE X (.Compare a [op, op'] [b, c] pos) (LE G W (cChain f g da db dc)) := pe_imp (pe_chain ho ho' ha hb hc hm) (le_chain od od')
theorem st_chain {op op' : CmpOp} {f g : DO} {r r' : R2} (ho : OpR X (compareOp op) r) (ho' : OpR X (compareOp op') r') (od : OpD G f r) (od' : OpD G g r') (hm : lastMarks [op, op'] [b, c] = false)
    (ha : PE X a (LE G W da)) (hb : PE X b (LE G W db)) (hc : PE X c (LE G W dc)) : PT X (.Compare a [op, op'] [b, c] pos) (LT G W (cTst (cChain f g da db dc))) :=
  pt_imp (pt_chain ho ho' ha hb hc hm) fun σ H Q l => tst_of (fun Q' q => le_chain od od' σ H Q' q) l
theorem sa_nil : PA X [] (LA G W cNil) := pa_imp pa_nil (by
  rintro σ H Q ⟨e, h, P, R, re, rh, t, fin, x⟩
  exact fin [] h [] H t (TupLe.refl H) rh reps_nil)
theorem sa_cons {es : List Expr} {dr : DA} (hs : starEach (a :: es) X.env = (false, eval a X.env) :: starEach es X.env) (ha : PE X a (LE G W da)) (hr : PA X es (LA G W dr)) : PA X (a :: es) (LA G W (cCons da dr)) := pa_imp (pa_cons ha hr hs) (by
  rintro σ H Q ⟨e, h, P, R, re, rh, t, fin, x⟩
  refine LE.mk re rh t x fun d h1 v H1 t1 tl1 rh1 r1 re1 x1 => ?_
  refine LA.mk re1 rh1 t1 x1 fun ds h2 vs H2 t2 tl2 rh2 r2 re2 x2 => ?_
  exact fin _ h2 _ H2 t2 (tl1.trans tl2) rh2 (reps_cons (Rep.keep tl2 d v r1) r2))
theorem se_tup {es : List Expr} {t : DA} {x1} (h : PA X es (LA G W t)) : PE X (.Tuple es x1 pos) (LE G W (cTup t)) := pe_imp (pe_tup h) (by
  rintro σ H Q ⟨e, h, P, R, re, rh, t, fin, x⟩
  refine LA.mk re rh t x fun ds h1 vs H1 t1 tl1 rh1 r1 re1 x1 => ?_
  refine ⟨by rw [r1.length]; exact t1.1, ?_⟩
  exact Fin2.newT (P := P) (fun d' h' v' H' p tl => fin d' h' v' H' p (tl1.trans tl)) rh1 t1.2 r1)
theorem se_lst {es : List Expr} {t : DA} (h : PA X es (LA G W t)) : PE X (.List es pos) (LE G W (cLst t)) := pe_imp (pe_lst h) (by
  rintro σ H Q ⟨e, h, P, R, re, rh, t, fin, x⟩
  refine LA.mk re rh t x fun ds h1 vs H1 t1 tl1 rh1 r1 re1 x1 => ?_
  refine ⟨by rw [r1.length]; exact t1.1, ?_⟩
  exact Fin2.new (P := P) (fun d' h' v' H' p tl => fin d' h' v' H' p (tl1.trans tl)) rh1 t1.2 fun c hc => OR.lst hc r1)
theorem isEmpty_reps {K : PySem.W.Frag} {H : Hp} {ds : List D} {vs : List V} (r : Reps K H ds vs) : vs.isEmpty = ds.isEmpty := by
  cases ds with
  | nil => rw [r.nil_]; rfl
  | cons d ds => obtain ⟨v, us, rfl, _⟩ := r.cons_; rfl
theorem tru_okD {H : Hp} {h : DH} {d : D} {v : V} {k : Bool → Prop} (rh : RH G H h) (r : Rep G.K H d v) (t : tRu d h k) : ∃ b, TruV G.K v H b ∧ k b := by
  cases d with
  | non => rw [r.non_]; exact ⟨_, rfl, t⟩
  | bl b => rw [r.bl_]; exact ⟨_, rfl, t⟩
  | int b => rw [r.int_]; exact ⟨_, rfl, t⟩
  | str b => rw [r.str_]; exact ⟨_, ⟨t.1, rfl⟩, t.2⟩
  | tup ds =>
    obtain ⟨a, vs, rfl, q, p⟩ := r.tup_
    exact ⟨_, .inr (.inl ⟨vs, q, rfl⟩), by rw [isEmpty_reps p]; exact t⟩
  | ktup ds =>
    obtain ⟨a, vs, rfl, q, p⟩ := r.ktup_
    exact ⟨_, .inr (.inl ⟨vs, q, rfl⟩), by rw [isEmpty_reps p]; exact t⟩
  | rol ds =>
    obtain ⟨a, vs, rfl, q, p⟩ := r.rol_
    exact ⟨_, .inl ⟨vs, q.sq, rfl⟩, by rw [isEmpty_reps p]; exact t⟩
  | ref a =>
    rw [r.ref_]
    unfold tRu at t
    simp only at t
    split at t
    · rename_i xs e
      obtain ⟨vs, q, p⟩ := rh.lst e
      exact ⟨_, .inl ⟨vs, .inl (.inl q), rfl⟩, by rw [isEmpty_reps p]; exact t⟩
    · rename_i kvs e
      obtain ⟨ws, q, p⟩ := rh _ _ e
      have z : ws.isEmpty = kvs.isEmpty := by
        have l := p.length
        cases ws <;> cases kvs <;> simp at l ⊢
      exact ⟨_, .inr (.inr ⟨ws, q, rfl⟩), by rw [z]; exact t⟩
    · exact t.elim
theorem st_tru (hK : X.K = G.K) (ha : PE X a (LE G W da)) (he : ∀ whole, isTrue a X.env whole = (do let v ← whole; standAt a.pos; holding [v] (truthy v))) : PT X a (LT G W (cTru da)) := pt_imp (pt_truth ha he) (by
  rintro σ H Q ⟨e, h, P, R, re, rh, t, fin, x⟩
  refine LE.mk re rh t x fun d h1 v H1 t1 tl1 rh1 r1 re1 x1 => ?_
  obtain ⟨b, p, q⟩ := tru_okD rh1 r1 t1
  exact ⟨b, by rw [hK]; exact p, fin b h1 H1 q tl1 rh1⟩)
theorem lt_and {t u : DT} : ∀ σ H Q, LT G W (cAnd t u) σ H Q → tAnd (LT G W t) (LT G W u) σ H Q := by
  rintro σ H Q ⟨e, h, P, R, re, rh, t, fin, x⟩
  refine LT.mk re rh t x fun b h1 H1 t1 tl1 rh1 re1 x1 => ?_
  cases b with
  | true =>
    rw [if_pos rfl] at t1 ⊢
    exact LT.mk re1 rh1 t1 x1 fun b h2 H2 t2 tl2 rh2 re2 x2 => fin b h2 H2 t2 (tl1.trans tl2) rh2
  | false =>
    rw [if_neg Bool.false_ne_true] at t1 ⊢
    exact fin false h1 H1 t1 tl1 rh1
theorem lt_or {t u : DT} : ∀ σ H Q, LT G W (cOr t u) σ H Q → tOr (LT G W t) (LT G W u) σ H Q := by
  rintro σ H Q ⟨e, h, P, R, re, rh, t, fin, x⟩
  refine LT.mk re rh t x fun b h1 H1 t1 tl1 rh1 re1 x1 => ?_
  cases b with
  | false =>
    rw [if_neg Bool.false_ne_true] at t1 ⊢
    exact LT.mk re1 rh1 t1 x1 fun b h2 H2 t2 tl2 rh2 re2 x2 => fin b h2 H2 t2 (tl1.trans tl2) rh2
  | true =>
    rw [if_pos rfl] at t1 ⊢
    exact fin true h1 H1 t1 tl1 rh1
theorem st_not (h : PT X a (LT G W dt)) : PT X (.UnaryOp .Not a pos) (LT G W (cNot dt)) := pt_imp (pt_not h) (by
  rintro σ H Q ⟨e, h, P, R, re, rh, t, fin, x⟩
  exact LT.mk re rh t x fun b h1 H1 t1 tl1 rh1 re1 x1 => fin (!b) h1 H1 t1 tl1 rh1)
theorem se_not (h : PE X a (LE G W da)) : PE X (.UnaryOp .Not a pos) (LE G W (cNotV da)) := pe_imp (pe_not h) (by
  rintro σ H Q ⟨e, h, P, R, re, rh, t, fin, x⟩
  refine LE.mk re rh t x fun d h1 v H1 t1 tl1 rh1 r1 re1 x1 => ?_
  cases d with
  | bl k => exact ⟨k, r1.bl_, fin _ h1 _ H1 t1 tl1 rh1 rep_bl⟩
  | _ => exact t1.elim)
theorem se_and {rest : List Expr} (ha : PE X a (LE G W da)) (hb : PE X (.BoolOp .And (b :: rest) pos) (LE G W db)) : PE X (.BoolOp .And (a :: b :: rest) pos) (LE G W (cAndV da db)) := pe_imp (pe_and ha hb) (by
  rintro σ H Q ⟨e, h, P, R, re, rh, t, fin, x⟩
  refine LE.mk re rh t x fun d h1 v H1 t1 tl1 rh1 r1 re1 x1 => ?_
  cases d with
  | bl k =>
    refine ⟨k, r1.bl_, ?_⟩
    cases k with
    | true =>
      rw [if_pos rfl]
      exact LE.mk re1 rh1 t1 x1 fun d2 h2 v2 H2 t2 tl2 rh2 r2 re2 x2 => fin d2 h2 v2 H2 t2 (tl1.trans tl2) rh2 r2
    | false =>
      rw [if_neg Bool.false_ne_true]
      exact fin _ h1 _ H1 t1 tl1 rh1 rep_bl
  | _ => exact t1.elim)
theorem se_or {rest : List Expr} (ha : PE X a (LE G W da)) (hb : PE X (.BoolOp .Or (b :: rest) pos) (LE G W db)) : PE X (.BoolOp .Or (a :: b :: rest) pos) (LE G W (cOrV da db)) := pe_imp (pe_or ha hb) (by
  rintro σ H Q ⟨e, h, P, R, re, rh, t, fin, x⟩
  refine LE.mk re rh t x fun d h1 v H1 t1 tl1 rh1 r1 re1 x1 => ?_
  cases d with
  | bl k =>
    refine ⟨k, r1.bl_, ?_⟩
    cases k with
    | false =>
      rw [if_neg Bool.false_ne_true]
      exact LE.mk re1 rh1 t1 x1 fun d2 h2 v2 H2 t2 tl2 rh2 r2 re2 x2 => fin d2 h2 v2 H2 t2 (tl1.trans tl2) rh2 r2
    | true =>
      rw [if_pos rfl]
      exact fin _ h1 _ H1 t1 tl1 rh1 rep_bl
  | _ => exact t1.elim)
theorem se_ifE (hc : PT X c (LT G W dt)) (ha : PE X a (LE G W da)) (hb : PE X b (LE G W db)) : PE X (.IfExp c a b pos) (LE G W (cIfE dt da db)) := pe_imp (pe_ifExp hc ha hb) (by
  rintro σ H Q ⟨e, h, P, R, re, rh, t, fin, x⟩
  refine LT.mk re rh t x fun b h1 H1 t1 tl1 rh1 re1 x1 => ?_
  cases b with
  | true =>
    rw [if_pos rfl] at t1 ⊢
    exact LE.mk re1 rh1 t1 x1 fun d2 h2 v2 H2 t2 tl2 rh2 r2 re2 x2 => fin d2 h2 v2 H2 t2 (tl1.trans tl2) rh2 r2
  | false =>
    rw [if_neg Bool.false_ne_true] at t1 ⊢
    exact LE.mk re1 rh1 t1 x1 fun d2 h2 v2 H2 t2 tl2 rh2 r2 re2 x2 => fin d2 h2 v2 H2 t2 (tl1.trans tl2) rh2 r2)
theorem se_neg (h : PE X a (LE G W da)) : PE X (.UnaryOp .USub a pos) (LE G W (cNeg da)) := pe_imp (pe_un un_neg h) (by
  rintro σ H Q ⟨e, h, P, R, re, rh, t, fin, x⟩
  refine LE.mk re rh t x fun d h1 v H1 t1 tl1 rh1 r1 re1 x1 => ?_
  cases d with
  | int k => exact ⟨k, r1.int_, fin _ h1 _ H1 t1 tl1 rh1 rep_int⟩
  | _ => exact t1.elim)
end
end DW

/-! DW, part 4: subscripts, slices, fields, calls. -/
namespace DW
open PySem L2

/-! ### items -/
def doIx : DO := fun x y h P => match x, y with
  | .tup ds, .int i => ∃ d, atI ds i = some d ∧ P d h
  | .ktup ds, .int i => ∃ d, atI ds i = some d ∧ P d h
  | .rol ds, .int i => ∃ d, atI ds i = some d ∧ P d h
  | .str z, .int i => z.length ≤ sizeLine ∧ ∃ c, atI z.cps.toList i = some c ∧ P (.str ⟨#[c]⟩) h
  | .ref a, y => if isDict h a = true then dGet h a y fun o => ∃ d, o = some d ∧ P d h else ∃ ds i d, lstOf h (.ref a) = some ds ∧ y = .int i ∧ atI ds i = some d ∧ P d h
  | _, _ => False
def rIxA (K : PySem.W.Frag) : R2 := fun x y H Q => rIx K x y H Q ∨ ∃ a v, x = .ref a ∧ DGet H a y (some v) ∧ Q v H
theorem ix_dict {X : Cx} (hu : X.A.units + 1 < cLine) : IxR X (fun x y H Q => ∃ a v, x = .ref a ∧ DGet H a y (some v) ∧ Q v H) := by
  intro value slice pins s σ H x y v u Q I rx ry h hs
  obtain ⟨a, w, rfl, g, q⟩ := h
  cases rx
  exact PyProof.Rows.tail_any (dict_typeIs I g) PySem.F.slot_dict_getitem.lookup (d_getItem hu I g ry fun w' s' I' r' => ⟨w, H, I', r', q⟩) hs
theorem ix_A {X : Cx} (hu : X.A.units + 1 < cLine) : IxR X (rIxA X.K) := ix_seq.or (ix_dict hu)
theorem Reps.atI {K : PySem.W.Frag} {H : Hp} {ds : List D} {vs : List V} {i : Int} {d : D} (r : Reps K H ds vs) (e : L2.atI ds i = some d) : ∃ v, L2.atI vs i = some v ∧ Rep K H d v := by
  unfold L2.atI at e ⊢
  rw [r.length]
  cases z : ixN ds.length i with
  | none => rw [z] at e; cases e
  | some j =>
    rw [z] at e
    obtain ⟨v, p, q⟩ := r.get (i := j) e
    exact ⟨v, p, q⟩
theorem od_ix {G : Pg} : OpD G doIx (rIxA G.K) := fun H h x y v u P Q rh rx ry p f => by
  cases x with
  | tup ds =>
    cases y <;> first | exact p.elim | skip
    obtain ⟨d, e, q⟩ := p
    obtain ⟨a, vs, rfl, s, r⟩ := rx.tup_
    obtain ⟨w, e', r'⟩ := r.atI e
    exact .inl (.inr (.inl ⟨a, vs, _, w, rfl, ry.int_, s, e', f.val rh q r'⟩))
  | ktup ds =>
    cases y <;> first | exact p.elim | skip
    obtain ⟨d, e, q⟩ := p
    obtain ⟨a, vs, rfl, s, r⟩ := rx.ktup_
    obtain ⟨w, e', r'⟩ := r.atI e
    exact .inl (.inr (.inl ⟨a, vs, _, w, rfl, ry.int_, s, e', f.val rh q r'⟩))
  | rol ds =>
    cases y <;> first | exact p.elim | skip
    obtain ⟨d, e, q⟩ := p
    obtain ⟨a, vs, rfl, s, r⟩ := rx.rol_
    obtain ⟨w, e', r'⟩ := r.atI e
    exact .inl (.inl ⟨a, vs, _, w, rfl, ry.int_, s.sq, e', f.val rh q r'⟩)
  | str z =>
    cases y <;> first | exact p.elim | skip
    obtain ⟨l, c, e, q⟩ := p
    exact .inl (.inr (.inr ⟨z, _, c, rx.str_, ry.int_, l, e, f.val rh q rep_str⟩))
  | ref a =>
    unfold doIx at p
    simp only at p
    split at p
    · obtain ⟨o, ov, g, ⟨d, rfl, k⟩, e1, e2⟩ := dGet_ok rh ry p
      obtain ⟨w, rfl, r⟩ := e1 d rfl
      exact .inr ⟨a, w, rx.ref_, g, f.val rh k r⟩
    · obtain ⟨ds, i, d, e1, rfl, e2, q⟩ := p
      obtain ⟨b, vs, e3, s, r⟩ := lstOf_ok rh rx e1
      obtain ⟨w, e', r'⟩ := r.atI e2
      exact .inl (.inl ⟨b, vs, _, w, e3, ry.int_, s, e', f.val rh q r'⟩)
  | _ => cases y <;> exact p.elim
/-! ### slices -/
/-- a slice's part -/
abbrev DO1 := DSt → DH → (Option Int → DH → Prop) → KX → Prop
def cNoPart : DO1 := fun _ h P _ => P none h
def cPart (a : DE) : DO1 := fun e h P R => a e h (fun x h1 => match x with
  | .int i => P (some i) h1
  | _ => False) R
/-- the items from lo on, below hi -/
def cutD (xs : List D) (lo hi : Option Int) : List D := (xs.drop (HT.sIx xs.length 0 lo)).take (HT.sIx xs.length xs.length hi - HT.sIx xs.length 0 lo)
def slD (x : D) (lo hi : Option Int) (h : DH) (P : KD) : Prop := match x with
  | .tup ds => P (.tup (cutD ds lo hi)) h
  | .rol ds => ∀ p, h p = none → P (.ref p) (up h p (.lst (cutD ds lo hi)))
  | .str z => z.length ≤ sizeLine ∧ P (.str (cutS z lo hi)) h
  | .ref a => match h a with
    | some (.lst ds) => ∀ p, h p = none → P (.ref p) (up h p (.lst (cutD ds lo hi)))
    | _ => False
  | _ => False
def cSl (a : DE) (lo hi : DO1) : DE := fun e h P R => a e h (fun x h1 => lo e h1 (fun l h2 => hi e h2 (fun u h3 => slD x l u h3 P) R) R) R
def rSlAll (K : PySem.W.Frag) : V → Option Int → Option Int → Hp → VK → Prop := fun x lo hi H Q => (rSlL K x lo hi H Q ∨ rSlA K x lo hi H Q) ∨ rSlS x lo hi H Q
theorem sl_all {X : Cx} : SlR X (rSlAll X.K) := (sl_list.or sl_tupA).or sl_str
theorem Reps.cut {K : PySem.W.Frag} {H : Hp} {ds : List D} {vs : List V} (r : Reps K H ds vs) (lo hi : Option Int) : Reps K H (cutD ds lo hi) (cutV vs lo hi) := by
  unfold cutD cutV
  rw [r.length]
  exact (r.drop _).take _
theorem cutD_all {ds : List D} {lo hi : Option Int} (h : HT.sIx ds.length 0 lo = 0 ∧ HT.sIx ds.length ds.length hi = ds.length) : cutD ds lo hi = ds := by
  unfold cutD
  rw [h.1, h.2]
  simp
theorem sl_okD {G : Pg} {H : Hp} {h : DH} {x : D} {v : V} {lo hi : Option Int} {P : KD} {Q : VK} (rh : RH G H h) (r : Rep G.K H x v) (p : slD x lo hi h P) (f : Fin2 G P H Q) : rSlAll G.K v lo hi H Q := by
  cases x with
  | tup ds =>
    obtain ⟨a, vs, rfl, s, q⟩ := r.tup_
    refine .inl (.inr ⟨a, vs, rfl, s, fun e => ?_, fun _ => f.newT rh p (q.cut lo hi)⟩)
    rw [q.length] at e
    have p' : P (.tup (cutD ds lo hi)) h := p
    rw [cutD_all e] at p'
    exact f.val rh p' r
  | rol ds =>
    obtain ⟨a, vs, rfl, s, q⟩ := r.rol_
    exact .inl (.inl ⟨a, vs, rfl, s.sq, f.new rh p fun c hc => OR.lst hc (q.cut lo hi)⟩)
  | str z => exact .inr ⟨z, r.str_, p.1, f.val rh p.2 rep_str⟩
  | ref a =>
    unfold slD at p
    simp only at p
    split at p
    · rename_i ds e
      obtain ⟨vs, s, q⟩ := rh.lst e
      exact .inl (.inl ⟨a, vs, r.ref_, .inl (.inl s), f.new rh p fun c hc => OR.lst hc (q.cut lo hi)⟩)
    · exact p.elim
  | _ => exact p.elim
/-- xs[::-1] -/
def cRev (a : DE) : DE := fun e h P R => a e h (fun x h1 => ∃ ds, lstOf h1 x = some ds ∧ ∀ p, h1 p = none → P (.ref p) (up h1 p (.lst ds.reverse))) R

/-! ### fields: the places by the class's number -/
def cFld (a : DE) (ix : List (Nat × Nat)) : DE := fun e h P R => a e h (fun x h1 => match x with
  | .ref p => match h1 p with
    | some (.ins c fs) => match ix.lookup c with
      | some i => match fs[i]? with
        | some d => P d h1
        | none => False
      | none => False
    | _ => False
  | _ => False) R
/-- what the classes with these fields must be -/
def FldOk (G : Pg) (f : Str) (ix : List (Nat × Nat)) : Prop := ∀ c i, ix.lookup c = some i → Cls G.K (G.ca c) ∧ NoAttr G.K (G.ca c) f ∧ (G.fn c)[i]? = some f ∧ (G.fn c).Nodup
theorem zip_look {ns : List Str} (nd : ns.Nodup) {f : Str} : ∀ {vs : List V} {i : Nat} {v : V}, ns[i]? = some f → vs[i]? = some v → (ns.zip vs).lookup f = some v := by
  induction ns with
  | nil => intro vs i v e; simp at e
  | cons n ns ih =>
    intro vs i v e e'
    cases vs with
    | nil => simp at e'
    | cons w vs =>
      cases i with
      | zero =>
        simp at e e'
        subst e e'
        simp [List.lookup]
      | succ i =>
        simp at e e'
        have nn := List.nodup_cons.mp nd
        have ne : (f == n) = false := by
          rw [beq_eq_false_iff_ne]
          intro z
          subst z
          exact nn.1 (List.mem_of_getElem? e)
        show List.lookup f ((n, w) :: ns.zip vs) = _
        simp only [List.lookup, ne]
        exact ih nn.2 e e'
section
variable {X : Cx} {G : Pg} {W : WX} {a b c e : Expr} {da db dc : DE} {dt du : DT} {pos : Pos}
theorem se_ix (hK : X.K = G.K) (hu : X.A.units + 1 < cLine) (hs : PlainIx b) (ha : PE X a (LE G W da)) (hb : PE X b (LE G W db)) : PE X (.Subscript a b pos) (LE G W (cBin doIx da db)) :=
  pe_imp (pe_ix (by rw [← hK]; exact ix_A hu : IxR X (rIxA G.K)) ha hb hs) (le_bin od_ix)
theorem lo_none : PO X none (fun σ H Q => Q none H) := po_none
theorem se_slice {lo hi : Option Expr} {p2 : Pos} (hK : X.K = G.K) {tl th : DO1}
    (ha : PE X a (LE G W da)) (hl : (lo = none ∧ tl = cNoPart) ∨ ∃ e d, lo = some e ∧ tl = cPart d ∧ PE X e (LE G W d)) (hh : (hi = none ∧ th = cNoPart) ∨ ∃ e d, hi = some e ∧ th = cPart d ∧ PE X e (LE G W d)) :
    PE X (.Subscript a (.Slice lo hi none p2) pos) (LE G W (cSl da tl th)) := by
  -- a part's reading
  have part : ∀ {o : Option Expr} {t : DO1}, ((o = none ∧ t = cNoPart) ∨ ∃ e d, o = some e ∧ t = cPart d ∧ PE X e (LE G W d)) → ∃ to : TO, PO X o to ∧ ∀ {σ : St} {H : Hp} {Q : Option Int → Hp → Prop} {en : DSt} {h : DH} {P : Option Int → DH → Prop} {R : KX}, RE G.K H en σ → RH G H h → t en h P R → LX G W σ H R →
      (∀ o h' H', P o h' → TupLe H H' → RH G H' h' → RE G.K H' en σ → LX G W σ H' R → Q o H') → to σ H Q := by
    intro o t z
    rcases z with ⟨rfl, rfl⟩ | ⟨e, d, rfl, rfl, pe⟩
    · exact ⟨tNoPart, po_none, fun {σ H Q en h P R} re rh p x f => f none h H p (TupLe.refl H) rh re x⟩
    · refine ⟨tPart (LE G W d), po_some pe, fun {σ H Q en h P R} re rh p x f => ?_⟩
      refine LE.mk re rh p x fun d1 h1 v1 H1 t1 tl1 rh1 r1 re1 x1 => ?_
      cases d1 with
      | int i => exact ⟨i, r1.int_, f _ h1 H1 t1 tl1 rh1 re1 x1⟩
      | _ => exact t1.elim
  obtain ⟨tol, pol, cl⟩ := part hl
  obtain ⟨toh, poh, ch⟩ := part hh
  refine pe_imp (pe_slice (sl_all (X := X)) ha pol poh) ?_
  rintro σ H Q ⟨en, h, P, R, re, rh, t, fin, x⟩
  refine LE.mk re rh t x fun d h1 v H1 t1 tl1 rh1 r1 re1 x1 => ?_
  refine cl re1 rh1 t1 x1 fun l h2 H2 t2 tl2 rh2 re2 x2 => ?_
  refine ch re2 rh2 t2 x2 fun u h3 H3 t3 tl3 rh3 re3 x3 => ?_
  rw [hK]
  exact sl_okD rh3 (Rep.keep (tl2.trans tl3) _ _ r1) t3 fun d' h' v' H' p tl => fin d' h' v' H' p (tl1.trans (tl2.trans (tl3.trans tl)))
theorem se_rev {k : Nat} {p1 p2 p3 : Pos} (hK : X.K = G.K) (ha : PE X a (LE G W da)) : PE X (.Subscript a (.Slice none none (some (.UnaryOp .USub (.Constant (.int 1) k p1) p2)) p3) pos) (LE G W (cRev da)) := by
  refine pe_imp (pe_revL ha) ?_
  rintro σ H Q ⟨en, h, P, R, re, rh, t, fin, x⟩
  refine LE.mk re rh t x fun d h1 v H1 t1 tl1 rh1 r1 re1 x1 => ?_
  obtain ⟨ds, e, p⟩ := t1
  obtain ⟨a, vs, rfl, s, q⟩ := lstOf_ok rh1 r1 e
  refine ⟨a, vs, rfl, by rw [hK]; exact s, ?_⟩
  exact Fin2.new (P := P) (fun d' h' v' H' p tl => fin d' h' v' H' p (tl1.trans tl)) rh1 p fun c hc => OR.lst hc q.reverse
theorem se_fld {f : Str} {ix : List (Nat × Nat)} (hK : X.K = G.K) (hf : FldOk G f ix) (hb : attributeBase a f X.env (eval a X.env) = eval a X.env) (ha : PE X a (LE G W da)) : PE X (.Attribute a f pos) (LE G W (cFld da ix)) := by
  refine pe_imp (pe_fld ha hb) ?_
  rintro σ H Q ⟨en, h, P, R, re, rh, t, fin, x⟩
  refine LE.mk re rh t x fun d h1 v H1 t1 tl1 rh1 r1 re1 x1 => ?_
  cases d with
  | ref p =>
    simp only at t1
    split at t1
    · rename_i c fs ep
      split at t1
      · rename_i i ei
        split at t1
        · rename_i d ed
          obtain ⟨dx, vs, e1, e2, e3⟩ := rh1 _ _ ep
          obtain ⟨hc, hn, hi, nd⟩ := hf c i ei
          obtain ⟨w, e4, e5⟩ := e2.get ed
          exact ⟨p, G.ca c, dx, _, w, r1.ref_, e1, by rw [hK]; exact hc, by rw [hK]; exact hn, zip_look nd hi e4, fin d h1 w H1 t1 tl1 rh1 e5⟩
        · exact t1.elim
      · exact t1.elim
    · exact t1.elim
  | _ => exact t1.elim
end

/-! ### calls -/
/-- calling u with positional arguments alone, as s says -/
theorem passN {X : Cx} : Passes (L2N.CX X.prog X.w) X E0 := fun _ _ _ _ _ _ _ h => by
  obtain ⟨_, _, _, _, _, _, _, _, _, _, _, _, z⟩ := h
  exact z.elim
theorem takesN {X : Cx} : L2N.Takes X (fun _ _ _ _ => False) := fun _ _ x => by
  obtain ⟨_, _, _, _, _, _, _, _, _, _, _, _, _, _, _, _, z⟩ := x
  exact z.elim
def CallP (G : Pg) (X : Cx) (W : WX) (u : Value) (s : DSp) : Prop :=
  ∀ (pins : List (Addr × Obj)) (st : Shared) (σ : St) (H : Hp) (ds : List D) (vs : List V) (us : List Value) (h : DH) (P : KD) (R : KX) (Q : VK), Inv X pins σ H st → Vals vs us → Reps G.K H ds vs → RH G H h → s ds h P R → Fin2 G P H Q → LX G W σ H R →
    wpAny (model X.prog X.w) X.A (call u us) (EP X pins σ Q) X.xe st
def cCall (s : DSp) (t : DA) : DE := fun e h P R => t e h (fun ds h1 => s ds h1 P R) R
structure Same5 (G : Pg) (X : Cx) : Prop where
  K : X.K = G.K
  P : X.prog = G.P
  w : X.w = G.w
  mg : X.mg = G.mg
  base : X.base = G.base
theorem call_fnP {G : Pg} {X : Cx} {W : WX} {k : Nat} {f : Addr} {fd : FuncData} {ps : List Str} {s : DSp} (S : Same5 G X) (tk : L2N.Takes X W) (hr : Room k X.A)
    (F : FnOk G.P G.w G.K G.mg G.base (L2N.CX G.P G.w) k f fd ps (LSp G s)) (hb : Binds G.K fd ps []) : CallP G X W (.ref f) s := by
  intro pins st σ H ds vs us h P R Q I rv rs rh hs fin x
  have F' : FnOk X.prog X.w X.K X.mg X.base (L2N.CX X.prog X.w) k f fd ps (LSp G s) := by rw [S.K, S.P, S.w, S.mg, S.base]; exact F
  exact run_fnS (E := WE W) F' hr (by rw [S.K]; exact hb) (L2N.passAt tk σ) I rv ⟨ds, h, P, R, rs, rh, hs, fin, fun x' h' cls dd H' a b c d => x x' h' cls dd H' a b c d⟩
/-- .. while an exception is handled -/
theorem call_hotP {G : Pg} {X : Cx} {W : WX} {k : Nat} {f : Addr} {fd : FuncData} {ps : List Str} {s : DSp} (S : Same5 G X) (tk : L2N.Takes X W) (hr : L2H.RoomH k X.A) (hc : L2H.HotC X)
    (F : L2H.FnH G.P G.w G.K G.mg G.base (L2N.CX G.P G.w) k f fd ps (LSp G s)) (hb : Binds G.K fd ps []) : CallP G X W (.ref f) s := by
  intro pins st σ H ds vs us h P R Q I rv rs rh hs fin x
  have F' : L2H.FnH X.prog X.w X.K X.mg X.base (L2N.CX X.prog X.w) k f fd ps (LSp G s) := by rw [S.K, S.P, S.w, S.mg, S.base]; exact F
  exact L2H.run_fnH (E := WE W) F' hr hc (by rw [S.K]; exact hb) (L2N.passAt tk σ) I rv ⟨ds, h, P, R, rs, rh, hs, fin, fun x' h' cls dd H' a b c d => x x' h' cls dd H' a b c d⟩
section
variable {X : Cx} {G : Pg} {W : WX} {x : Str} {u : Value} {s : DSp} {t : DA} {p pos : Pos} {e : Expr} {es : List Expr}
theorem se_call (hg : Gl X x) (hm : X.mg x = some u) (hk : PySem.W.keepIn X.K u = true) (hc : CallP G X W u s) (ha : PA X (e :: es) (LA G W t)) (hdb : (x == ("__debug__" : Str)) = false)
    (he : starEach (e :: es) X.env = (false, eval e X.env) :: starEach es X.env) (hpl : (backTo pos (starEach es X.env)).any (·.1) = false) : PE X (.Call (.Name x p) (e :: es) [] pos) (LE G W (cCall s t)) := by
  refine ⟨fun pins st σ H Q I h => ?_⟩
  refine wpAny_Call_Name_kw (ld_glob I hg hm ?_ hdb)
  obtain ⟨en, dh, P, R, re, rh, tt, fin, lx⟩ := h
  refine PySem.W.callWith_K (h₀ := X.base) I.ok.mod.kin hk (thn (ha.run pos pins st σ H (fun vs H1 => ∃ ds h1, s ds h1 P R ∧ TupLe H H1 ∧ RH G H1 h1 ∧ Reps G.K H1 ds vs) I ?_) fun us s1 ⟨vs, H1, I1, r, ds, h1, q, tl, rh1, rs⟩ => ⟨I1.kIn, ?_⟩) he hpl
  · exact LA.mk re rh tt lx fun ds h1 vs H1 t1 tl1 rh1 r1 re1 x1 => ⟨ds, h1, t1, tl1, rh1, r1⟩
  · exact hc pins s1 σ H1 ds vs us h1 P R Q I1 r rs rh1 q (fun d' h' v' H' p tl' => fin d' h' v' H' p (tl.trans tl')) (lx.later tl)
theorem se_call0 (hg : Gl X x) (hm : X.mg x = some u) (hk : PySem.W.keepIn X.K u = true) (hc : CallP G X W u s) (hdb : (x == ("__debug__" : Str)) = false) : PE X (.Call (.Name x p) [] [] pos) (LE G W (cCall s cNil)) := by
  refine ⟨fun pins st σ H Q I h => ?_⟩
  refine wpAny_Call_Name_kw (ld_glob I hg hm ?_ hdb)
  obtain ⟨en, dh, P, R, re, rh, tt, fin, lx⟩ := h
  exact PySem.W.callWith_K0 I.kIn hk (hc pins st σ H [] [] [] dh P R Q I .nil reps_nil rh tt (fun d' h' v' H' p tl' => fin d' h' v' H' p tl') lx)
end
end DW

/-! DW, part 5: instances made, methods, properties, keywords, built-ins. -/
namespace DW
open PySem L2

abbrev DSp2 := List D → List D → DH → KD → KX → Prop
/-- calling u with positional and keyword arguments -/
def CallKP (G : Pg) (X : Cx) (W : WX) (u : Value) (ks : List Str) (s : DSp2) : Prop :=
  ∀ (pins : List (Addr × Obj)) (st : Shared) (σ : St) (H : Hp) (ds es : List D) (vs zs : List V) (us ws : List Value) (h : DH) (P : KD) (R : KX) (Q : VK), Inv X pins σ H st → Vals vs us → Vals zs ws → Reps G.K H ds vs → Reps G.K H es zs → RH G H h → s ds es h P R → Fin2 G P H Q → LX G W σ H R →
    wpAny (model X.prog X.w) X.A (call u us (ks.zip ws)) (EP X pins σ Q) X.xe st
def cCallK (s : DSp2) (t tk : DA) : DE := fun e h P R => t e h (fun ds h1 => tk e h1 (fun es h2 => s ds es h2 P R) R) R
/-- how arguments bind: ar puts positional and keyword values (and defaults) in the parameters' order -/
def BindD (G : Pg) (fd : FuncData) (ps : List Str) (n : Nat) (ks : List Str) (ar : List D → List D → List D) : Prop :=
  ∃ g : List Value → List Value → List Value, (∀ (s : Shared) (us ws : List Value), G.K.In s.heap → us.length = n → ws.length = ks.length → BindsTo s fd ⟨us, ks.zip ws⟩ (ps.zip (g us ws))) ∧
    ∀ (H : Hp) (ds es : List D) (vs zs : List V) (us ws : List Value), us.length = n → ws.length = ks.length → Vals vs us → Vals zs ws → Reps G.K H ds vs → Reps G.K H es zs → ∃ vs', Vals vs' (g us ws) ∧ Reps G.K H (ar ds es) vs'
def arSp (n m : Nat) (ar : List D → List D → List D) (s : DSp) : DSp2 := fun ds es h P R => ds.length = n ∧ es.length = m ∧ s (ar ds es) h P R
theorem call_fnKP {G : Pg} {X : Cx} {W : WX} {k n : Nat} {f : Addr} {fd : FuncData} {ps ks : List Str} {s : DSp} {ar : List D → List D → List D} (S : Same5 G X) (tk : L2N.Takes X W) (hr : Room k X.A)
    (F : FnOk G.P G.w G.K G.mg G.base (L2N.CX G.P G.w) k f fd ps (LSp G s)) (hb : BindD G fd ps n ks ar) : CallKP G X W (.ref f) ks (arSp n ks.length ar s) := by
  intro pins st σ H ds es vs zs us ws h P R Q I rv rz rs rt rh hs fin x
  obtain ⟨l1, l2, hs⟩ := hs
  obtain ⟨g, hto, hrel⟩ := hb
  have n1 : us.length = n := by rw [← rv.length, rs.length, l1]
  have n2 : ws.length = ks.length := by rw [← rz.length, rt.length, l2]
  obtain ⟨vs', hv, hr'⟩ := hrel H ds es vs zs us ws n1 n2 rv rz rs rt
  have F' : FnOk X.prog X.w X.K X.mg X.base (L2N.CX X.prog X.w) k f fd ps (LSp G s) := by rw [S.K, S.P, S.w, S.mg, S.base]; exact F
  have hp := L2N.passAt tk σ
  refine wpAny_call (codeAny_mono (F'.run X.A X.stack st H ⟨us, ks.zip ws⟩ (g us ws) vs' Q (WE W σ) hr I.env0 (hto st us ws (by rw [← S.K]; exact I.kIn) n1 n2) hv ⟨ds |> fun _ => ar ds es, h, P, R, hr', rh, hs, fin, fun x' h' cls dd H' a b c d => x x' h' cls dd H' a b c d⟩) fun r s' hq => ?_)
  cases r with
  | ok fl =>
    cases fl with
    | ret u => exact I.after hq
    | _ => exact False.elim hq
  | error er => exact hp pins H st er s' I hq

/-! ### a new instance -/
/-- C(..): a new instance without fields, then __init__ -/
def mkSp (c : Nat) (s : DSp) : DSp := fun ds h P R => ∀ p, h p = none → s (.ref p :: ds) (up h p (.ins c [])) (fun d h' => d = .non ∧ P (.ref p) h') R
def mkSp2 (c : Nat) (s : DSp2) : DSp2 := fun ds es h P R => ∀ p, h p = none → s (.ref p :: ds) es (up h p (.ins c [])) (fun d h' => d = .non ∧ P (.ref p) h') R
theorem made_rh {G : Pg} {H : Hp} {h : DH} {x dx : Addr} {c : Nat} (rh : RH G H h) (hx : H x = none) (hd : H dx = none) (ne : dx ≠ x) :
    RH G (L2.upd (L2.upd H dx (.own x)) x (.ins (G.ca c) dx [])) (up h x (.ins c [])) ∧ TupLe H (L2.upd (L2.upd H dx (.own x)) x (.ins (G.ca c) dx [])) := by
  have hx' : L2.upd H dx (.own x) x = none := by rw [upd_ne (Ne.symm ne)]; exact hx
  refine ⟨(rh.more hd).upd (fun z e => by rw [hx'] at e; cases e) ?_, (TupLe.new hd).trans (TupLe.new hx')⟩
  exact ⟨dx, [], by rw [upd_same, List.zip_nil_right], reps_nil, Nat.zero_le _⟩
/-- the class is called: the frame of type.__call__, the new objects (at dx, x), __init__ -/
theorem run_new {G : Pg} {X : Cx} {W : WX} {k c : Nat} {f : Addr} {fd : FuncData} {ps : List Str} {s : DSp} (S : Same5 G X) (tk : L2N.Takes X W) (M : Mk G.K (G.ca c) f) (hr : Room (k + 1) X.A)
    (F : FnOk G.P G.w G.K G.mg G.base (L2N.CX G.P G.w) k f fd ps (LSp G s)) {pins : List (Addr × Obj)} {st : Shared} {σ : St} {H : Hp} {Q : VK} {us : List Value} {kw : List (Str × Value)} {h : DH} {P : KD} {R : KX}
    (I : Inv X pins σ H st) (rh : RH G H h) (fin : Fin2 G P H Q) (lx : LX G W σ H R)
    (go : ∀ x dx : Addr, H x = none → H dx = none → dx ≠ x → ∃ (bv : List Value) (vs : List V) (rs : List D), (∀ s' : Shared, G.K.In s'.heap → BindsTo s' fd ⟨.ref x :: us, kw⟩ (ps.zip bv)) ∧ Vals vs bv ∧
      Reps G.K (L2.upd (L2.upd H dx (.own x)) x (.ins (G.ca c) dx [])) rs vs ∧ s rs (up h x (.ins c [])) (fun d h' => d = .non ∧ P (.ref x) h') R) :
    wpAny (model X.prog X.w) X.A (call (.ref (G.ca c)) us kw) (EP X pins σ Q) X.xe st := by
  have hx : H (st.heap.objs.size + 1) = none := I.hok.fresh (Nat.le_succ _)
  have hd : H st.heap.objs.size = none := I.hok.fresh (Nat.le_refl _)
  have ne : st.heap.objs.size ≠ st.heap.objs.size + 1 := Nat.ne_of_lt (Nat.lt_succ_self _)
  obtain ⟨rh', tl⟩ := made_rh (c := c) rh hx hd ne
  obtain ⟨bv, vs, rs, hto, hv, hr', hs⟩ := go _ _ hx hd ne
  have F' : FnOk X.prog X.w X.K X.mg X.base (L2N.CX X.prog X.w) k f fd ps (LSp G s) := by rw [S.K, S.P, S.w, S.mg, S.base]; exact F
  have hp := L2N.passAt tk σ
  have M1 := M.makes; have M2 := M.init; have M3 := M.fn
  rw [← S.K] at M1 M2 M3
  have I2 := Inv.made (C := G.ca c) I
  refine wpAny_call (make_map (f := f) I.kIn M1 M2 (beq_iff_eq.mp M3) ?_)
  refine codeAny_mono (F'.run _ X.stack _ _ ⟨.ref (st.heap.objs.size + 1) :: us, kw⟩ bv vs (fun v H3 => v = .non ∧ Q (.ref (st.heap.objs.size + 1)) H3) (WE W σ) (hr.make (G.ca c) us kw) (I2.env0.make (G.ca c) us kw) (hto _ (by rw [← S.K]; exact I2.kIn)) hv ?_) fun r s' hq => ?_
  · refine ⟨rs, _, _, R, hr', rh', hs, ?_, fun x' h' cls dd H' a b c d => lx x' h' cls dd H' a (tl.trans b) c d⟩
    rintro d h' v H' ⟨rfl, p⟩ tl' rh'' r
    exact ⟨r.non_, fin _ h' _ H' p (tl.trans tl') rh'' rep_ref⟩
  · cases r with
    | ok fl =>
      cases fl with
      | ret u =>
        obtain ⟨v, H', I3, rv', ev, q3⟩ := I2.after hq
        subst ev
        exact ⟨rv', ⟨.ref (st.heap.objs.size + 1), H', I3, rfl, q3⟩⟩
      | _ => exact False.elim hq
    | error er => exact hp pins _ _ er s' I2 hq
theorem call_mkP {G : Pg} {X : Cx} {W : WX} {k c : Nat} {f : Addr} {fd : FuncData} {ps : List Str} {s : DSp} (S : Same5 G X) (tk : L2N.Takes X W) (M : Mk G.K (G.ca c) f) (hr : Room (k + 1) X.A)
    (F : FnOk G.P G.w G.K G.mg G.base (L2N.CX G.P G.w) k f fd ps (LSp G s)) (hb : Binds G.K fd ps []) : CallP G X W (.ref (G.ca c)) (mkSp c s) := by
  intro pins st σ H ds vs us h P R Q I rv rs rh hs fin lx
  refine run_new S tk M hr F I rh fin lx fun x dx hx hd ne => ?_
  obtain ⟨rh', tl⟩ := made_rh (c := c) rh hx hd ne
  refine ⟨.ref x :: us, .ref x :: vs, .ref x :: ds, fun s' K' => ?_, .cons rfl rv, reps_cons rep_ref (Reps.keep tl _ _ rs), hs x (rh.fresh hx)⟩
  have hl := F.len (.ref x :: vs) _ (fun _ _ => True) (fun _ _ _ => True) ⟨_, _, _, _, reps_cons rep_ref (Reps.keep tl _ _ rs), rh', hs x (rh.fresh hx), fun _ _ _ _ _ _ _ _ => trivial, fun _ _ _ _ _ _ _ _ _ => trivial⟩
  have b := hb s' (.ref x :: us) K' (by rw [List.append_nil, ← hl, List.length_cons, List.length_cons, rv.length])
  rw [List.append_nil] at b
  exact b
theorem call_mkKP {G : Pg} {X : Cx} {W : WX} {k c n : Nat} {f : Addr} {fd : FuncData} {ps ks : List Str} {s : DSp} {ar : List D → List D → List D} (S : Same5 G X) (tk : L2N.Takes X W) (M : Mk G.K (G.ca c) f) (hr : Room (k + 1) X.A)
    (F : FnOk G.P G.w G.K G.mg G.base (L2N.CX G.P G.w) k f fd ps (LSp G s)) (hb : BindD G fd ps (n + 1) ks ar) : CallKP G X W (.ref (G.ca c)) ks (mkSp2 c (arSp (n + 1) ks.length ar s)) := by
  intro pins st σ H ds es vs zs us ws h P R Q I rv rz rs rt rh hs fin lx
  refine run_new S tk M hr F I rh fin lx fun x dx hx hd ne => ?_
  obtain ⟨rh', tl⟩ := made_rh (c := c) rh hx hd ne
  obtain ⟨l1, l2, hs⟩ := hs x (rh.fresh hx)
  obtain ⟨g, hto, hrel⟩ := hb
  have n1 : (Value.ref x :: us).length = n + 1 := by rw [← l1, List.length_cons, List.length_cons, ← rv.length, rs.length]
  have n2 : ws.length = ks.length := by rw [← rz.length, rt.length, l2]
  obtain ⟨vs', hv, hr'⟩ := hrel _ (.ref x :: ds) es (.ref x :: vs) zs (.ref x :: us) ws n1 n2 (.cons rfl rv) rz (reps_cons rep_ref (Reps.keep tl _ _ rs)) (Reps.keep tl _ _ rt)
  exact ⟨g (.ref x :: us) ws, vs', _, fun s' K' => hto s' _ ws K' n1 n2, hv, hr', hs⟩

/-! ### calls with keywords -/
section
variable {X : Cx} {G : Pg} {W : WX} {x : Str} {u : Value} {ks : List Str} {s : DSp2} {t tk : DA} {p pos kpos : Pos} {e : Expr} {es : List Expr} {kws : List Keyword} {nm : Option Str} {de : DE}
theorem sk_nil : PK X [] (LA G W cNil) := ⟨fun pos pins st σ H Q I h => pk_nil.run pos pins st σ H Q I (by
  obtain ⟨e, h, P, R, re, rh, t, fin, x⟩ := h
  exact fin [] h [] H t (TupLe.refl H) rh reps_nil)⟩
theorem sk_cons (ha : PE X e (LE G W de)) (hr : PK X kws (LA G W tk)) : PK X (⟨nm, e, kpos⟩ :: kws) (LA G W (cCons de tk)) := ⟨fun pos pins st σ H Q I h => (pk_cons ha hr).run pos pins st σ H Q I (by
  obtain ⟨e, h, P, R, re, rh, t, fin, x⟩ := h
  refine LE.mk re rh t x fun d h1 v H1 t1 tl1 rh1 r1 re1 x1 => ?_
  refine LA.mk re1 rh1 t1 x1 fun ds h2 vs H2 t2 tl2 rh2 r2 re2 x2 => ?_
  exact fin _ h2 _ H2 t2 (tl1.trans tl2) rh2 (reps_cons (Rep.keep tl2 d v r1) r2))⟩
theorem se_callK (hg : Gl X x) (hm : X.mg x = some u) (hk : PySem.W.keepIn X.K u = true) (hc : CallKP G X W u ks s) (ha : PA X (e :: es) (LA G W t)) (hkw : PK X kws (LA G W tk)) (hdb : (x == ("__debug__" : Str)) = false)
    (he : starEach (e :: es) X.env = (false, eval e X.env) :: starEach es X.env) (hall : (backToKw pos (keywordEach kws X.env)).all (·.1.isSome) = true) (hks : (backToKw pos (keywordEach kws X.env)).filterMap (·.1) = ks)
    (hpl : ((backTo pos (starEach (e :: es) X.env)).any (·.1) || (backToKw pos (keywordEach kws X.env)).any (·.1.isNone)) = false) : PE X (.Call (.Name x p) (e :: es) kws pos) (LE G W (cCallK s t tk)) := by
  refine ⟨fun pins st σ H Q I h => ?_⟩
  refine wpAny_Call_Name_kw (ld_glob I hg hm ?_ hdb)
  obtain ⟨en, dh, P, R, re, rh, tt, fin, lx⟩ := h
  refine PySem.W.callWith_KW (h₀ := X.base) I.ok.mod.kin hk hall (thn (ha.run pos pins st σ H (fun vs H1 => ∃ ds h1, tk en h1 (fun es h2 => s ds es h2 P R) R ∧ TupLe H H1 ∧ RH G H1 h1 ∧ Reps G.K H1 ds vs ∧ RE G.K H1 en σ ∧ LX G W σ H1 R) I ?_) fun us s1 ⟨vs, H1, I1, r, ds, h1, q, tl, rh1, rs, re1, lx1⟩ => ?_) hpl he
  · exact LA.mk re rh tt lx fun ds h1 vs H1 t1 tl1 rh1 r1 re1 x1 => ⟨ds, h1, t1, tl1, rh1, r1, re1, x1⟩
  · refine thn (hkw.run pos pins s1 σ H1 (fun zs H2 => ∃ es h2, s ds es h2 P R ∧ TupLe H1 H2 ∧ RH G H2 h2 ∧ Reps G.K H2 es zs) I1 ?_) fun ws s2 ⟨zs, H2, I2, r2, es', h2, q2, tl2, rh2, rs2⟩ => ⟨I2.kIn, ?_⟩
    · exact LA.mk re1 rh1 q lx1 fun ds2 h2 vs H2 t1 tl1 rh1 r1 re1 x1 => ⟨ds2, h2, t1, tl1, rh1, r1⟩
    · rw [hks]
      exact hc pins s2 σ H2 ds es' vs zs us ws h2 P R Q I2 r r2 (Reps.keep tl2 _ _ rs) rs2 rh2 q2 (fun d' h' v' H' p tl' => fin d' h' v' H' p (tl.trans (tl2.trans tl'))) (lx.later (tl.trans tl2))
theorem se_callK0 (hg : Gl X x) (hm : X.mg x = some u) (hk : PySem.W.keepIn X.K u = true) (hc : CallKP G X W u ks s) (hkw : PK X kws (LA G W tk)) (hdb : (x == ("__debug__" : Str)) = false)
    (hall : (backToKw pos (keywordEach kws X.env)).all (·.1.isSome) = true) (hks : (backToKw pos (keywordEach kws X.env)).filterMap (·.1) = ks)
    (hpl : ((backTo pos (starEach [] X.env)).any (·.1) || (backToKw pos (keywordEach kws X.env)).any (·.1.isNone)) = false) : PE X (.Call (.Name x p) [] kws pos) (LE G W (cCallK s cNil tk)) := by
  refine ⟨fun pins st σ H Q I h => ?_⟩
  refine wpAny_Call_Name_kw (ld_glob I hg hm ?_ hdb)
  obtain ⟨en, dh, P, R, re, rh, tt, fin, lx⟩ := h
  refine PySem.W.callWith_KW0 (h₀ := X.base) I.ok.mod.kin hk hall ?_ hpl
  refine thn (hkw.run pos pins st σ H (fun zs H2 => ∃ es h2, s [] es h2 P R ∧ TupLe H H2 ∧ RH G H2 h2 ∧ Reps G.K H2 es zs) I ?_) fun ws s2 ⟨zs, H2, I2, r2, es', h2, q2, tl2, rh2, rs2⟩ => ⟨I2.kIn, ?_⟩
  · exact LA.mk re rh tt lx fun ds2 h2 vs H2 t1 tl1 rh1 r1 re1 x1 => ⟨ds2, h2, t1, tl1, rh1, r1⟩
  · rw [hks]
    exact hc pins s2 σ H2 [] es' [] zs [] ws h2 P R Q I2 .nil r2 reps_nil rs2 rh2 q2 (fun d' h' v' H' p tl' => fin d' h' v' H' p (tl2.trans tl')) (lx.later tl2)
end

/-! ### methods, properties -/
/-- o.m(..) of an instance of the class c -/
def cMeth1 (o : DE) (c : Nat) (s : DSp) (t : DA) : DE := fun e h P R => o e h (fun x h1 => match x with
  | .ref p => match h1 p with
    | some (.ins c' _) => c' = c ∧ t e h1 (fun ds h2 => s (x :: ds) h2 P R) R
    | _ => False
  | _ => False) R
/-- .. of one of these -/
def cMeth (o : DE) (tb : List (Nat × DSp)) (t : DA) : DE := fun e h P R => ∃ q ∈ tb, cMeth1 o q.1 q.2 t e h P R
/-- o.f, a property -/
def cProp1 (o : DE) (c : Nat) (s : DSp) : DE := fun e h P R => o e h (fun x h1 => match x with
  | .ref p => match h1 p with
    | some (.ins c' _) => c' = c ∧ s [x] h1 P (fun _ _ => False)
    | _ => False
  | _ => False) R
def cProp (o : DE) (tb : List (Nat × DSp)) : DE := fun e h P R => ∃ q ∈ tb, cProp1 o q.1 q.2 e h P R
/-- the class c has the method -/
structure MethOk (G : Pg) (m : Str) (c : Nat) (f : Addr) : Prop where
  cl : Cls G.K (G.ca c)
  mt : Meth G.K (G.ca c) m f
  no : m ∉ G.fn c
  ne : m = ("__eq__" : Str) → PySem.W.findIn G.K (.ref (G.ca c)) "__ne__" = some (some (.builtin "object.__ne__")) ∧ PySem.W.mroIn G.K (G.ca c) (.type "object") = some true
theorem zip_none {ns : List Str} {m : Str} (h : m ∉ ns) : ∀ (vs : List V), (ns.zip vs).lookup m = none := by
  induction ns with
  | nil => intro vs; rfl
  | cons n ns ih =>
    intro vs
    cases vs with
    | nil => rfl
    | cons v vs =>
      have h1 : ¬ m = n := fun z => h (by rw [z]; exact List.mem_cons_self)
      have h2 : m ∉ ns := fun z => h (List.mem_cons_of_mem _ z)
      have ne : (m == n) = false := by rw [beq_eq_false_iff_ne]; exact h1
      show List.lookup m ((n, v) :: ns.zip vs) = none
      simp only [List.lookup, ne]
      exact ih h2 vs
section
variable {X : Cx} {G : Pg} {W : WX} {o e : Expr} {es : List Expr} {m : Str} {c k : Nat} {f : Addr} {s : DSp} {t : DA} {do_ : DE} {apos pos : Pos} {pl : Sem Bool}
theorem se_meth1 (hK : X.K = G.K) (M : MethOk G m c f) (hc : CallP G X W (.ref f) s) (ho : PE X o (LE G W do_)) (ha : PA X (e :: es) (LA G W t))
    (hst : starEach (e :: es) X.env = (false, eval e X.env) :: starEach es X.env) (hpl : (backTo pos (starEach es X.env)).any (·.1) = false)
    (ht : eval (.Call (.Attribute o m apos) (e :: es) [] pos) X.env = (do
      let recv ← eval o X.env
      standAt apos.atName
      let (fn, own) ← holding [recv] (getMethod recv m pl)
      callWith pos fn own (backTo pos (starEach (e :: es) X.env)) (backToKw pos (keywordEach [] X.env)))) :
    PE X (.Call (.Attribute o m apos) (e :: es) [] pos) (LE G W (cMeth1 do_ c s t)) := by
  refine ⟨fun pins st σ H Q I h => ?_⟩
  obtain ⟨en, dh, P, R, re, rh, tt, fin, lx⟩ := h
  have cl := M.cl; have mt := M.mt
  rw [← hK] at cl mt
  refine PySem.W.methodCall_KW (pl := pl) (thn (ho.run pins st σ H (fun v H1 => ∃ p dx ws h1, v = .ref p ∧ H1 p = some (.ins (G.ca c) dx ((G.fn c).zip ws)) ∧ t en h1 (fun ds h2 => s (.ref p :: ds) h2 P R) R ∧ TupLe H H1 ∧ RH G H1 h1 ∧ RE G.K H1 en σ ∧ LX G W σ H1 R) I ?_) fun u s1 ⟨v, H1, I1, rx, p, dx, ws, h1, ev, ep, q, tl, rh1, re1, lx1⟩ => ?_) ht
  · refine LE.mk re rh tt lx fun d h1 v H1 t1 tl1 rh1 r1 re1 x1 => ?_
    cases d with
    | ref p =>
      simp only at t1
      split at t1
      · rename_i c' fs ep
        obtain ⟨rfl, t1⟩ := t1
        obtain ⟨dx, ws, e1, _⟩ := rh1 _ _ ep
        exact ⟨p, dx, ws, h1, r1.ref_, e1, t1, tl1, rh1, re1, x1⟩
      · exact t1.elim
    | _ => exact t1.elim
  · subst ev
    obtain rfl : u = Value.ref p := rx
    refine getmeth_ok I1 ep cl mt (zip_none M.no ws) ?_
    refine PySem.W.callWith_K (first := [.ref p]) (h₀ := X.base) I.ok.mod.kin mt.kp (thn (ha.run pos pins s1 σ H1 (fun vs H2 => ∃ ds h2, s (.ref p :: ds) h2 P R ∧ TupLe H1 H2 ∧ RH G H2 h2 ∧ Reps G.K H2 ds vs) I1 ?_) fun us s2 ⟨vs, H2, I2, r, ds, h2, q2, tl2, rh2, rs2⟩ => ⟨I2.kIn, ?_⟩) hst hpl
    · exact LA.mk re1 rh1 q lx1 fun ds h2 vs H2 t1 tl1 rh1 r1 re1 x1 => ⟨ds, h2, t1, tl1, rh1, r1⟩
    · exact hc pins s2 σ H2 (.ref p :: ds) (.ref p :: vs) (.ref p :: us) h2 P R Q I2 (.cons rfl r) (reps_cons rep_ref rs2) rh2 q2 (fun d' h' v' H' p tl' => fin d' h' v' H' p (tl.trans (tl2.trans tl'))) (lx1.later tl2)
theorem se_meth0 (hK : X.K = G.K) (M : MethOk G m c f) (hc : CallP G X W (.ref f) s) (ho : PE X o (LE G W do_))
    (ht : eval (.Call (.Attribute o m apos) [] [] pos) X.env = (do
      let recv ← eval o X.env
      standAt apos.atName
      let (fn, own) ← holding [recv] (getMethod recv m pl)
      callWith pos fn own (backTo pos (starEach [] X.env)) (backToKw pos (keywordEach [] X.env)))) :
    PE X (.Call (.Attribute o m apos) [] [] pos) (LE G W (cMeth1 do_ c s cNil)) := by
  refine ⟨fun pins st σ H Q I h => ?_⟩
  obtain ⟨en, dh, P, R, re, rh, tt, fin, lx⟩ := h
  have cl := M.cl; have mt := M.mt
  rw [← hK] at cl mt
  refine PySem.W.methodCall_KW (pl := pl) (thn (ho.run pins st σ H (fun v H1 => ∃ p dx ws h1, v = .ref p ∧ H1 p = some (.ins (G.ca c) dx ((G.fn c).zip ws)) ∧ s [.ref p] h1 P R ∧ TupLe H H1 ∧ RH G H1 h1 ∧ LX G W σ H1 R) I ?_) fun u s1 ⟨v, H1, I1, rx, p, dx, ws, h1, ev, ep, q, tl, rh1, lx1⟩ => ?_) ht
  · refine LE.mk re rh tt lx fun d h1 v H1 t1 tl1 rh1 r1 re1 x1 => ?_
    cases d with
    | ref p =>
      simp only at t1
      split at t1
      · rename_i c' fs ep
        obtain ⟨rfl, t1⟩ := t1
        obtain ⟨dx, ws, e1, _⟩ := rh1 _ _ ep
        exact ⟨p, dx, ws, h1, r1.ref_, e1, t1, tl1, rh1, x1⟩
      · exact t1.elim
    | _ => exact t1.elim
  · subst ev
    obtain rfl : u = Value.ref p := rx
    refine getmeth_ok I1 ep cl mt (zip_none M.no ws) ?_
    exact PySem.W.callWith_K0 (first := [.ref p]) I1.kIn mt.kp (hc pins s1 σ H1 [.ref p] [.ref p] [.ref p] h1 P R Q I1 (.cons rfl .nil) (reps_cons rep_ref reps_nil) rh1 q (fun d' h' v' H' p tl' => fin d' h' v' H' p (tl.trans tl')) lx1)
/-- one of several -/
theorem pe_some {α : Type} {e : Expr} {tb : List α} {f : α → DE} (h : ∀ q ∈ tb, PE X e (LE G W (f q))) : PE X e (LE G W fun en h P R => ∃ q ∈ tb, f q en h P R) := ⟨fun pins st σ H Q I l => by
  obtain ⟨en, dh, P, R, re, rh, ⟨q, hq, tt⟩, fin, lx⟩ := l
  exact (h q hq).run pins st σ H Q I ⟨en, dh, P, R, re, rh, tt, fin, lx⟩⟩
theorem se_prop1 {k : Nat} {p : Addr} {fd : FuncData} {ps : List Str} (S : Same5 G X) (cl : Cls G.K (G.ca c)) (hp : PropOf G.K (G.ca c) m p f) (F : FnOk G.P G.w G.K G.mg G.base (L2N.CX G.P G.w) k f fd ps (LSp G s)) (hb : Binds G.K fd ps []) (hr : Room (k + 1) X.A)
    (hab : attributeBase o m X.env (eval o X.env) = eval o X.env) (ho : PE X o (LE G W do_)) : PE X (.Attribute o m pos) (LE G W (cProp1 do_ c s)) := by
  have F' : FnOk X.prog X.w X.K X.mg X.base (L2N.CX X.prog X.w) k f fd ps (LSp G s) := by rw [S.K, S.P, S.w, S.mg, S.base]; exact F
  have cl' := cl; have hp' := hp; have hb' := hb
  rw [← S.K] at cl' hp' hb'
  refine pe_imp (pe_prop (E := E0) ho cl' hp' F' hr hb' .nil passN hab) ?_
  rintro σ H Q ⟨en, h, P, R, re, rh, t, fin, x⟩
  refine LE.mk re rh t x fun d h1 v H1 t1 tl1 rh1 r1 re1 x1 => ?_
  cases d with
  | ref p =>
    simp only at t1
    split at t1
    · rename_i c' fs ep
      obtain ⟨rfl, t1⟩ := t1
      obtain ⟨dx, ws, e1, _⟩ := rh1 _ _ ep
      exact ⟨p, dx, _, r1.ref_, e1, [.ref p], h1, P, _, reps_cons rep_ref reps_nil, rh1, t1, fun d' h' v' H' p' tl' => fin d' h' v' H' p' (tl1.trans tl'), fun _ _ _ _ _ z => z.elim⟩
    · exact t1.elim
  | _ => exact t1.elim
end
end DW

/-! DW, part 6: targets, statements, loops. -/
namespace DW
open PySem L2

/-! ### targets -/
abbrev DG := D → DSt → DH → (DSt → DH → Prop) → Prop
abbrev DGs := List D → DSt → DH → (DSt → DH → Prop) → Prop
def gN (i : Nat) : DG := fun d e h Q => Q (e.set i (some d)) h
def gsNil : DGs := fun ds e h Q => ds = [] ∧ Q e h
def gsCons (g : DG) (r : DGs) : DGs := fun ds e h Q => match ds with
  | d :: ds => g d e h fun e1 h1 => r ds e1 h1 Q
  | [] => False
/-- a, b, .. = a tuple, or a list -/
def gT (n : Nat) (g : DGs) : DG := fun d e h Q => match d with
  | .tup ds => ds.length = n ∧ g ds e h Q
  | .ktup ds => ds.length = n ∧ g ds e h Q
  | _ => False
def gBad : DG := fun _ _ _ _ => False
def gsBad : DGs := fun _ _ _ _ => False
/-- o[i] = v -/
def gS (o i : DE) (f : D → D → D → DH → (DH → Prop) → Prop) : DG := fun d e h Q => o e h (fun x h1 => i e h1 (fun y h2 => f x y d h2 fun h3 => Q e h3) fun _ _ => False) fun _ _ => False
/-- only the slots S differ -/
def Wip (S : List Nat) (σ σ' : St) : Prop := ∀ vs : List Nat, (∀ i ∈ S, i ∈ vs) → wipe σ' vs = wipe σ vs
theorem wipe_get (σ : St) (j : Nat) : ∀ vs : List Nat, (wipe σ vs)[j]? = if j ∈ vs then (σ[j]?).map (fun _ => none) else σ[j]?
  | [] => by simp [wipe]
  | v :: vs => by
    have ih := wipe_get σ j vs
    unfold wipe
    by_cases e : v = j
    · subst e
      rw [if_pos List.mem_cons_self]
      by_cases l : v < σ.length
      · rw [List.getElem?_set_self (by rw [wipe_length]; exact l), List.getElem?_eq_getElem l]; rfl
      · rw [List.getElem?_eq_none (by rw [List.length_set, wipe_length]; omega), List.getElem?_eq_none (by omega)]; rfl
    · rw [List.getElem?_set_ne e, ih]
      by_cases m : j ∈ vs
      · rw [if_pos m, if_pos (List.mem_cons_of_mem _ m)]
      · rw [if_neg m, if_neg (fun z => by rcases List.mem_cons.mp z with q | q; exact e q.symm; exact m q)]
theorem Wip.refl (S : List Nat) (σ : St) : Wip S σ σ := fun _ _ => rfl
theorem Wip.set {σ : St} {i : Nat} {x : Option V} : Wip [i] σ (σ.set i x) := fun vs h => by
  have hi := h i List.mem_cons_self
  refine List.ext_getElem? fun j => ?_
  rw [wipe_get, wipe_get]
  by_cases e : i = j
  · subst e
    rw [if_pos hi, if_pos hi]
    by_cases l : i < σ.length
    · rw [List.getElem?_set_self l, List.getElem?_eq_getElem l]; rfl
    · rw [List.getElem?_eq_none (by rw [List.length_set]; omega), List.getElem?_eq_none (by omega)]
  · rw [List.getElem?_set_ne e]
theorem Wip.app {S T : List Nat} {σ σ1 σ2 : St} (a : Wip S σ σ1) (b : Wip T σ1 σ2) : Wip (S ++ T) σ σ2 := fun vs h => (b vs fun i m => h i (List.mem_append_right _ m)).trans (a vs fun i m => h i (List.mem_append_left _ m))
def LQ (G : Pg) (Q : St → Hp → Prop) (Q' : DSt → DH → Prop) (H : Hp) : Prop := ∀ e' h' σ' H', Q' e' h' → TupLe H H' → RH G H' h' → RE G.K H' e' σ' → Q σ' H'
def LG (G : Pg) (S : List Nat) (g : DG) : TG := fun v σ H Q => ∃ d e h Q', Rep G.K H d v ∧ RE G.K H e σ ∧ RH G H h ∧ g d e h Q' ∧ LQ G (fun σ' H' => Wip S σ σ' → Q σ' H') Q' H
def LGs (G : Pg) (S : List Nat) (g : DGs) : TGs := fun vs σ H Q => ∃ ds e h Q', Reps G.K H ds vs ∧ RE G.K H e σ ∧ RH G H h ∧ g ds e h Q' ∧ LQ G (fun σ' H' => Wip S σ σ' → Q σ' H') Q' H
section
variable {X : Cx} {G : Pg} {W : WX} {pos : Pos}
theorem pg_imp {e : Expr} {t t' : TG} (h : PG X e t) (i : ∀ v σ H Q, t' v σ H Q → t v σ H Q) : PG X e t' := ⟨fun pins s σ H v u Q I r q => h.run pins s σ H v u Q I r (i _ _ _ _ q)⟩
theorem pgs_imp {e : List Expr} {t t' : TGs} (h : PGs X e t) (i : ∀ v σ H Q, t' v σ H Q → t v σ H Q) : PGs X e t' := ⟨fun pins s σ H v u Q I r q => h.run pins s σ H v u Q I r (i _ _ _ _ q)⟩
theorem sg_bad {e : Expr} : PG X e (LG G [] gBad) := ⟨fun _ _ _ _ _ _ _ _ _ ⟨_, _, _, _, _, _, _, z, _⟩ => z.elim⟩
theorem sgs_bad {e : List Expr} : PGs X e (LGs G [] gsBad) := ⟨fun _ _ _ _ _ _ _ _ _ ⟨_, _, _, _, _, _, _, z, _⟩ => z.elim⟩
theorem sg_name {i : Nat} {x : Str} (hN : X.N.Nodup) (hi : X.N[i]? = some x) (hx : Loc X.env.scope x) (hf : X.fn x = true ∨ X.env.scope.names.lookup x = some .local) : PG X (.Name x pos) (LG G [i] (gN i)) := by
  refine pg_imp (pg_name hN hi hx hf) ?_
  rintro v σ H Q ⟨d, e, h, Q', r, re, rh, q, l⟩
  exact l _ h _ H q (TupLe.refl H) rh (re.set r) Wip.set
theorem sgs_nil : PGs X [] (LGs G [] gsNil) := by
  refine pgs_imp pgs_nil ?_
  rintro v σ H Q ⟨d, e, h, Q', r, re, rh, ⟨rfl, q⟩, l⟩
  exact ⟨r.nil_, l _ h _ H q (TupLe.refl H) rh re (Wip.refl _ _)⟩
theorem LQ.later {Q : St → Hp → Prop} {Q' : DSt → DH → Prop} {H H1 : Hp} (l : LQ G Q Q' H) (t : TupLe H H1) : LQ G Q Q' H1 := fun e' h' σ' H' z t' => l e' h' σ' H' z (t.trans t')
theorem sgs_cons {e : Expr} {es : List Expr} {g : DG} {r : DGs} (hs : (assignEach (e :: es) X.env).map (fun x => x.2) = assign e X.env :: (assignEach es X.env).map (fun x => x.2)) {S T : List Nat} (h1 : PG X e (LG G S g)) (h2 : PGs X es (LGs G T r)) : PGs X (e :: es) (LGs G (S ++ T) (gsCons g r)) := by
  refine pgs_imp (pgs_cons h1 h2 hs) ?_
  rintro v σ H Q ⟨ds, en, h, Q', rs, re, rh, q, l⟩
  cases ds with
  | nil => exact q.elim
  | cons d ds =>
    obtain ⟨w, us, rfl, p, rs'⟩ := rs.cons_
    refine ⟨w, us, rfl, d, en, h, _, p, re, rh, q, fun e1 h1 σ1 H1 q1 tl1 rh1 re1 w1 => ?_⟩
    exact ⟨ds, e1, h1, Q', Reps.keep tl1 _ _ rs', re1, rh1, q1, fun e' h' σ' H' q' tl' rh' re' w' => l e' h' σ' H' q' (tl1.trans tl') rh' re' (w1.app w')⟩
theorem sg_tup {es : List Expr} {k n : Nat} {S : List Nat} {g : DGs} (hK : X.K = G.K) (hc : X.calm = true) (h : PGs X es (LGs G S g)) (hn : (assignEach es X.env).length = n) (hst : (assignEach es X.env).findIdx? (·.1) = none) : PG X (.Tuple es k pos) (LG G S (gT n g)) := by
  refine pg_imp (pg_tup hc h hn hst) ?_
  rintro v σ H Q ⟨d, en, h, Q', r, re, rh, q, l⟩
  cases d with
  | tup ds =>
    obtain ⟨a, vs, rfl, s, rs⟩ := r.tup_
    exact ⟨a, vs, rfl, by rw [hK]; exact s, by rw [rs.length]; exact q.1, ds, en, h, Q', rs, re, rh, q.2, l⟩
  | ktup ds =>
    obtain ⟨a, vs, rfl, s, rs⟩ := r.ktup_
    exact ⟨a, vs, rfl, by rw [hK]; exact s, by rw [rs.length]; exact q.1, ds, en, h, Q', rs, re, rh, q.2, l⟩
  | _ => exact q.elim
end

/-! ### statements -/
def sSeq (t u : DS) : DS := fun D e h => t { D with nx := u D } e h
def sNext : DS := fun D e h => D.nx e h
def sBrk : DS := fun D e h => D.bk e h
def sCnt : DS := fun D e h => D.ct e h
def sDrop (a : DE) : DS := fun D e h => a e h (fun _ h1 => D.nx e h1) fun x h1 => D.ex x e h1
def sRet (a : DE) : DS := fun D e h => a e h D.rt fun x h1 => D.ex x e h1
def sRetN : DS := fun D _ h => D.rt .non h
def sIf (c : DT) (t u : DS) : DS := fun D e h => c e h (fun b h1 => if b = true then t D e h1 else u D e h1) fun x h1 => D.ex x e h1
def sAsg (a : DE) (g : DG) : DS := fun D e h => a e h (fun d h1 => g d e h1 D.nx) fun x h1 => D.ex x e h1
def sBad : DS := fun _ _ _ => False
/-- a, b = e1, e2 -/
def sPar (i j : Nat) (t : DA) : DS := fun D e h => t e h (fun ds h1 => match ds with
  | [d, c] => D.nx ((e.set i (some d)).set j (some c)) h1
  | _ => False) fun x h1 => D.ex x e h1
/-- a field's store: at the place i of the class c (the next place, or one that stands) -/
def putI (fs : List D) (i : Nat) (d : D) : Option (List D) := if i < fs.length then some (fs.set i d) else if i = fs.length then some (fs ++ [d]) else none
def sFld (o a : DE) (ix : List (Nat × Nat)) : DS := fun D e h => a e h (fun d h1 => o e h1 (fun x h2 => match x with
  | .ref p => match h2 p with
    | some (.ins c fs) => match ix.lookup c with
      | some i => match putI fs i d with
        | some fs' => D.nx e (up h2 p (.ins c fs'))
        | none => False
      | none => False
    | _ => False
  | _ => False) fun x h2 => D.ex x e h2) fun x h1 => D.ex x e h1
/-- x[i] = v: a list's or a dict's -/
def putM {κ : Type} [DecidableEq κ] (kvs : List (κ × D)) (k : κ) (v : D) : List (κ × D) := if (kvs.any fun kv => decide (kv.1 = k)) = true then kvs.map fun kv => if kv.1 = k then (kv.1, v) else kv else kvs ++ [(k, v)]
def setD (x y d : D) (h : DH) (Q : DH → Prop) : Prop := match x with
  | .ref a => match h a with
    | some (.lst xs) => ∃ i j, y = .int i ∧ ixN xs.length i = some j ∧ Q (up h a (.lst (xs.set j d)))
    | some (.dK kvs) => ∃ k, y.key? = some k ∧ kvs.length < sizeLine ∧ Q (up h a (.dK (putM kvs k d)))
    | some (.dT kvs) => ∃ k, y.tkey? = some k ∧ kvs.length < sizeLine ∧ Q (up h a (.dT (putM kvs k d)))
    | _ => False
  | _ => False
def sSub (o i a : DE) : DS := fun D e h => a e h (fun d h1 => o e h1 (fun x h2 => i e h2 (fun y h3 => setD x y d h3 fun h4 => D.nx e h4) fun x h3 => D.ex x e h3) fun x h2 => D.ex x e h2) fun x h1 => D.ex x e h1
/-- while: at most n turns -/
def whN (c : DT) (b : DS) : Nat → DEnds → DSt → DH → Prop
  | 0, _, _, _ => False
  | n + 1, D, e, h => c e h (fun k h1 => if k = true then b { D with nx := whN c b n D, ct := whN c b n D, bk := D.nx } e h1 else D.nx e h1) fun x h1 => D.ex x e h1
def sWhile (c : DT) (b : DS) : DS := fun D e h => ∃ n, whN c b n D e h

section
variable {X : Cx} {G : Pg} {W : WX} {a : Expr} {da db dc : DE} {dt : DT} {t u : DS} {pos : Pos}
theorem ss_bad {s : Stmt} : PS X s (LS G W sBad) := ⟨fun _ _ _ _ _ _ ⟨_, _, _, _, _, z, _⟩ => z.elim⟩
theorem sss_bad {s : List Stmt} : PSs X s (LS G W sBad) := ⟨fun _ _ _ _ _ _ ⟨_, _, _, _, _, z, _⟩ => z.elim⟩
/-- exceptions of a part, in the ends' words -/
theorem LEnds.x {D : Ends} {D' : DEnds} {H : Hp} {e : DSt} {σ : St} (l : LEnds G W D D' H) (re : RE G.K H e σ) : LX G W σ H fun x h => D'.ex x e h := fun x h' cls dd H' z tl rh rx => l.ex x e h' cls dd σ H' z tl rh (re.keep tl) rx
theorem sss_nil : PSs X [] (LS G W sNext) := pss_imp pss_nil (by
  rintro D σ H ⟨e, h, D', re, rh, z, l⟩
  exact l.nx e h σ H z (TupLe.refl H) rh re)
theorem sss_cons {s : Stmt} {r : List Stmt} (h1 : PS X s (LS G W t)) (h2 : PSs X r (LS G W u)) : PSs X (s :: r) (LS G W (sSeq t u)) := pss_imp (pss_cons h1 h2) (by
  rintro D σ H ⟨e, h, D', re, rh, z, l⟩
  refine ⟨e, h, { D' with nx := u D' }, re, rh, z, ⟨fun e1 h1 σ1 H1 z1 tl1 rh1 re1 => ?_, l.rt, l.bk, l.ct, l.ex⟩⟩
  exact ⟨e1, h1, D', re1, rh1, z1, l.later tl1⟩)
theorem sss_one {s : Stmt} (h1 : PS X s (LS G W t)) : PSs X [s] (LS G W t) := pss_one h1
theorem ss_pass : PS X (.Pass pos) (LS G W sNext) := ps_imp ps_pass (by
  rintro D σ H ⟨e, h, D', re, rh, z, l⟩
  exact l.nx e h σ H z (TupLe.refl H) rh re)
theorem ss_brk : PS X (.Break pos) (LS G W sBrk) := ps_imp ps_break (by
  rintro D σ H ⟨e, h, D', re, rh, z, l⟩
  exact l.bk e h σ H z (TupLe.refl H) rh re)
theorem ss_cnt : PS X (.Continue pos) (LS G W sCnt) := ps_imp ps_continue (by
  rintro D σ H ⟨e, h, D', re, rh, z, l⟩
  exact l.ct e h σ H z (TupLe.refl H) rh re)
theorem ss_drop (hs : swapsWith a none pos.line X.env = pure false) (ha : PE X a (LE G W da)) : PS X (.Expr a pos) (LS G W (sDrop da)) := ps_imp (ps_expr ha hs) (by
  rintro D σ H ⟨e, h, D', re, rh, z, l⟩
  refine LE.mk re rh z (l.x re) fun d h1 v H1 t1 tl1 rh1 r1 re1 x1 => ?_
  exact l.nx e h1 σ H1 t1 tl1 rh1 re1)
theorem ss_doc {x j pos'} : PS X (.Expr (.Constant (.str x) j pos) pos') (LS G W sNext) := ps_imp ps_doc (by
  rintro D σ H ⟨e, h, D', re, rh, z, l⟩
  exact l.nx e h σ H z (TupLe.refl H) rh re)
theorem ss_ret (ha : PE X a (LE G W da)) : PS X (.Return (some a) pos) (LS G W (sRet da)) := ps_imp (ps_ret ha) (by
  rintro D σ H ⟨e, h, D', re, rh, z, l⟩
  exact LE.mk re rh z (l.x re) fun d h1 v H1 t1 tl1 rh1 r1 re1 x1 => l.rt d h1 v H1 t1 tl1 rh1 r1)
theorem ss_retN : PS X (.Return none pos) (LS G W sRetN) := ps_imp ps_retN (by
  rintro D σ H ⟨e, h, D', re, rh, z, l⟩
  exact l.rt .non h .non H z (TupLe.refl H) rh rep_non)
theorem ss_if {c : Expr} {x y : List Stmt} (hc : PT X c (LT G W dt)) (hx : PSs X x (LS G W t)) (hy : PSs X y (LS G W u)) : PS X (.If c x y pos) (LS G W (sIf dt t u)) := ps_imp (ps_if hc hx hy) (by
  rintro D σ H ⟨e, h, D', re, rh, z, l⟩
  refine LT.mk re rh z (l.x re) fun b h1 H1 t1 tl1 rh1 re1 x1 => ?_
  cases b with
  | true =>
    rw [if_pos rfl] at t1 ⊢
    exact ⟨e, h1, D', re1, rh1, t1, l.later tl1⟩
  | false =>
    rw [if_neg Bool.false_ne_true] at t1 ⊢
    exact ⟨e, h1, D', re1, rh1, t1, l.later tl1⟩)
theorem ss_asg {tg : Expr} {g : DG} (h1 : (assignEach [tg] X.env).map (fun x => x.2) = [assign tg X.env]) (hs : swapsWithSole [tg] a pos.line X.env = pure false) (hw : swappedStores [tg] a X.env = pure none) (ha : PE X a (LE G W da)) {S : List Nat} (hg : PG X tg (LG G S g)) : PS X (.Assign [tg] a pos) (LS G W (sAsg da g)) := ps_imp (ps_asg ha hg hs hw h1) (by
  rintro D σ H ⟨e, h, D', re, rh, z, l⟩
  refine LE.mk re rh z (l.x re) fun d h1 v H1 t1 tl1 rh1 r1 re1 x1 => ?_
  exact ⟨d, e, h1, D'.nx, r1, re1, rh1, t1, fun e' h' σ' H' z' tl' rh' re' _ => l.nx e' h' σ' H' z' (tl1.trans tl') rh' re'⟩)
theorem RepF.none_ {κ : Type} {K : PySem.W.Frag} {H : Hp} {ws : List (κ × V)} (h : RepF K H [] ws) : ws = [] := h
theorem zip_put {ns : List Str} (nd : ns.Nodup) {f : Str} {v : V} : ∀ {vs : List V} {i : Nat}, ns[i]? = some f → i < vs.length → putF f v (ns.zip vs) = ns.zip (vs.set i v) := by
  induction ns with
  | nil => intro vs i e; simp at e
  | cons n ns ih =>
    intro vs i e l
    have nn := List.nodup_cons.mp nd
    cases vs with
    | nil => simp at l
    | cons w vs =>
      cases i with
      | zero =>
        simp at e; subst e
        show (if n = n then (n, v) :: ns.zip vs else _) = _
        rw [if_pos rfl]; rfl
      | succ i =>
        simp at e l
        have ne : ¬ n = f := fun z => nn.1 (by rw [z]; exact List.mem_of_getElem? e)
        show (if n = f then _ else (n, w) :: putF f v (ns.zip vs)) = _
        rw [if_neg ne, ih nn.2 e l]; rfl
theorem zip_add {ns : List Str} (nd : ns.Nodup) {f : Str} {v : V} : ∀ {vs : List V}, ns[vs.length]? = some f → putF f v (ns.zip vs) = ns.zip (vs ++ [v]) := by
  induction ns with
  | nil => intro vs e; simp at e
  | cons n ns ih =>
    intro vs e
    have nn := List.nodup_cons.mp nd
    cases vs with
    | nil =>
      simp at e; subst e
      rw [List.zip_nil_right]
      simp [putF, List.zip_cons_cons]
    | cons w vs =>
      simp at e
      have ne : ¬ n = f := fun z => nn.1 (by rw [z]; exact List.mem_of_getElem? e)
      show (if n = f then _ else (n, w) :: putF f v (ns.zip vs)) = _
      rw [if_neg ne, ih nn.2 e]; rfl
theorem ss_fld {o : Expr} {f : Str} {ix : List (Nat × Nat)} {pos' : Pos} (hK : X.K = G.K) (hf : FldOk G f ix) (hz : ∀ c, (G.fn c).length < 1000) (hs : swapsWith a (some (.Attribute o f pos')) pos.line X.env = pure false) (ho : PE X o (LE G W db)) (ha : PE X a (LE G W da)) : PS X (.Assign [.Attribute o f pos'] a pos) (LS G W (sFld db da ix)) := ps_imp (ps_fld ho ha hs) (by
  rintro D σ H ⟨e, h, D', re, rh, z, l⟩
  refine LE.mk re rh z (l.x re) fun d h1 v H1 t1 tl1 rh1 r1 re1 x1 => ?_
  refine LE.mk re1 rh1 t1 ((l.later tl1).x re1) fun x h2 w H2 t2 tl2 rh2 r2 re2 x2 => ?_
  cases x with
  | ref p =>
    simp only at t2
    split at t2
    · rename_i c fs ep
      split at t2
      · rename_i i ei
        split at t2
        · rename_i fs' efs
          obtain ⟨dx, vs, e1, e2, e3⟩ := rh2 _ _ ep
          obtain ⟨hc, hn, hi, nd⟩ := hf c i ei
          have lv := e2.length
          refine ⟨p, G.ca c, dx, _, r2.ref_, e1, by rw [hK]; exact hc, by rw [hK]; exact hn, ?_, ?_⟩
          · rw [List.length_zip]
            have := hz c
            omega
          · have tl3 : TupLe H2 (upd H2 p (.ins (G.ca c) dx (putF f v ((G.fn c).zip vs)))) := TupLe.upd fun u q => by rw [e1] at q; cases q; rfl
            refine l.nx e _ σ _ t2 (tl1.trans (tl2.trans tl3)) (rh2.upd (fun u q => by rw [e1] at q; cases q; rfl) ?_) (re2.keep tl3)
            have r1' := Rep.keep (tl2.trans tl3) _ _ r1
            have e2' := Reps.keep tl3 _ _ e2
            unfold putI at efs
            split at efs
            · rename_i hlt
              cases efs
              refine ⟨dx, vs.set i v, ?_, e2'.set i r1', by rw [List.length_set]; exact e3⟩
              rw [upd_same, zip_put nd hi (by rw [lv]; exact hlt)]
            · split at efs
              · rename_i heq
                cases efs
                refine ⟨dx, vs ++ [v], ?_, e2'.append (reps_cons r1' reps_nil), ?_⟩
                · rw [upd_same, zip_add nd (by rw [lv, ← heq]; exact hi)]
                · have := (List.getElem?_eq_some_iff.mp hi).1
                  simp; omega
              · cases efs
        · exact t2.elim
      · exact t2.elim
    · exact t2.elim
  | _ => exact t2.elim)
theorem RepF.any {κ : Type} [DecidableEq κ] {K : PySem.W.Frag} {H : Hp} {k : κ} : ∀ {kvs : List (κ × D)} {ws : List (κ × V)}, RepF K H kvs ws → (ws.any fun kv => decide (kv.1 = k)) = kvs.any fun kv => decide (kv.1 = k)
  | [], ws, r => by rw [show ws = [] from r]; rfl
  | (f, d) :: kvs, ws, r => by
    obtain ⟨v, us, rfl, p, q⟩ := r
    show (decide (f = k) || us.any _) = (decide (f = k) || kvs.any _)
    rw [q.any]
theorem RepF.repl {κ : Type} [DecidableEq κ] {K : PySem.W.Frag} {H : Hp} {k : κ} {d : D} {v : V} (rd : Rep K H d v) : ∀ {kvs : List (κ × D)} {ws : List (κ × V)}, RepF K H kvs ws → RepF K H (kvs.map fun kv => if kv.1 = k then (kv.1, d) else kv) (ws.map fun kv => if kv.1 = k then (kv.1, v) else kv)
  | [], ws, r => by rw [show ws = [] from r]; rfl
  | (f, d') :: kvs, ws, r => by
    obtain ⟨v', us, rfl, p, q⟩ := r
    rw [List.map_cons, List.map_cons]
    by_cases e : f = k
    · simp only [e, if_pos]
      exact ⟨v, _, rfl, rd, q.repl rd⟩
    · simp only [e, if_neg, if_false]
      exact ⟨v', _, rfl, p, q.repl rd⟩
theorem RepF.snoc {κ : Type} {K : PySem.W.Frag} {H : Hp} {k : κ} {d : D} {v : V} (rd : Rep K H d v) : ∀ {kvs : List (κ × D)} {ws : List (κ × V)}, RepF K H kvs ws → RepF K H (kvs ++ [(k, d)]) (ws ++ [(k, v)])
  | [], ws, r => by rw [show ws = [] from r]; exact ⟨v, [], rfl, rd, rfl⟩
  | (f, d') :: kvs, ws, r => by
    obtain ⟨v', us, rfl, p, q⟩ := r
    exact ⟨v', _, rfl, p, q.snoc rd⟩
theorem RepF.put {κ : Type} [DecidableEq κ] {K : PySem.W.Frag} {H : Hp} {k : κ} {d : D} {v : V} (rd : Rep K H d v) {kvs : List (κ × D)} {ws : List (κ × V)} (r : RepF K H kvs ws) : RepF K H (putM kvs k d) (putK ws k v) := by
  unfold putM putK
  rw [r.any]
  split
  · exact r.repl rd
  · exact r.snoc rd
/-- o[i] = v where o is a list or a dict -/
theorem set_any {X : Cx} (hu : X.A.units + 1 < cLine) : PSet X (fun o i v H Q => rSetL o i v H Q ∨ ∃ a H4, o = .ref a ∧ DPut H a i v H4 ∧ Q H4) := by
  intro pins s σ H o i v ov iv u Q I ro ri rv q
  rcases q with q | ⟨a, H4, rfl, g, q⟩
  · exact set_list pins s σ H o i v ov iv u Q I ro ri rv q
  · cases ro
    exact d_setItem hu I g ri rv fun s' I' => ⟨H4, I', q⟩
theorem set_okD {H : Hp} {h : DH} {x y d : D} {o i v : V} {Q : Hp → Prop} {Q' : DH → Prop} (rh : RH G H h) (rx : Rep G.K H x o) (ry : Rep G.K H y i) (rd : Rep G.K H d v) (p : setD x y d h Q')
    (f : ∀ h' H', Q' h' → TupLe H H' → RH G H' h' → Q H') : rSetL o i v H Q ∨ ∃ a H4, o = .ref a ∧ DPut H a i v H4 ∧ Q H4 := by
  cases x with
  | ref a =>
    unfold setD at p
    simp only at p
    split at p
    · rename_i xs e
      obtain ⟨k, j, rfl, ej, q⟩ := p
      obtain ⟨vs, e1, r⟩ := rh.lst e
      have hf : ∀ u, H a = some u → fixedO u = false := fun u z => by rw [e1] at z; cases z; rfl
      refine .inl ⟨a, vs, k, j, rx.ref_, ry.int_, e1, by rw [r.length]; exact ej, f _ _ q (TupLe.upd hf) (rh.upd hf ?_)⟩
      exact ⟨_, upd_same, (Reps.keep (TupLe.upd hf) _ _ r).set j (Rep.keep (TupLe.upd hf) _ _ rd)⟩
    · rename_i kvs e
      obtain ⟨k, ek, l, q⟩ := p
      obtain ⟨ws, e1, r⟩ := rh _ _ e
      have hf : ∀ u, H a = some u → fixedO u = false := fun u z => by rw [e1] at z; cases z; rfl
      have z := key_ok ry ek
      subst z
      refine .inr ⟨a, _, rx.ref_, DPut.k e1 (by rw [r.length]; exact l), f _ _ q (TupLe.upd hf) (rh.upd hf ?_)⟩
      exact ⟨_, upd_same, (r.keep (TupLe.upd hf)).put (Rep.keep (TupLe.upd hf) _ _ rd)⟩
    · rename_i kvs e
      obtain ⟨k, ek, l, q⟩ := p
      obtain ⟨ws, e1, r⟩ := rh _ _ e
      have hf : ∀ u, H a = some u → fixedO u = false := fun u z => by rw [e1] at z; cases z; rfl
      obtain ⟨b, rfl, eb⟩ := tkey_ok ry ek
      refine .inr ⟨a, _, rx.ref_, DPut.t e1 eb (by rw [r.length]; exact l), f _ _ q (TupLe.upd hf) (rh.upd hf ?_)⟩
      exact ⟨_, upd_same, (r.keep (TupLe.upd hf)).put (Rep.keep (TupLe.upd hf) _ _ rd)⟩
    · exact p.elim
  | _ => exact p.elim
theorem ss_sub {o i : Expr} {p' : Pos} (hu : X.A.units + 1 < cLine) (hsw : swapsWithSole [.Subscript o i p'] a pos.line X.env = pure false) (hw : swappedStores [.Subscript o i p'] a X.env = pure none)
    (hpg : ∀ {to ti : TE} {t : TSet}, PE X o to → PE X i ti → PSet X t → PG X (.Subscript o i p') (gSub to ti t)) (ho : PE X o (LE G W db)) (hi : PE X i (LE G W dc)) (ha : PE X a (LE G W da)) : PS X (.Assign [.Subscript o i p'] a pos) (LS G W (sSub db dc da)) := ps_imp (ps_asg ha (hpg ho hi (set_any hu)) hsw hw) (by
  rintro D σ H ⟨e, h, D', re, rh, z, l⟩
  refine LE.mk re rh z (l.x re) fun d h1 v H1 t1 tl1 rh1 r1 re1 x1 => ?_
  refine LE.mk re1 rh1 t1 ((l.later tl1).x re1) fun x h2 w H2 t2 tl2 rh2 r2 re2 x2 => ?_
  refine LE.mk re2 rh2 t2 ((l.later (tl1.trans tl2)).x re2) fun y h3 u H3 t3 tl3 rh3 r3 re3 x3 => ?_
  exact set_okD rh3 (Rep.keep tl3 _ _ r2) r3 (Rep.keep (tl2.trans tl3) _ _ r1) t3 fun h' H' q tl' rh' => l.nx e h' σ H' q (tl1.trans (tl2.trans (tl3.trans tl'))) rh' (re3.keep tl'))
theorem ss_while {c : Expr} {body : List Stmt} (hp : PassesOwn (model X.prog X.w) X.A X.env X.xe) (hc : PT X c (LT G W dt)) (hb : PSs X body (LS G W t)) : PS X (.While c body [] pos) (LS G W (sWhile dt t)) := ps_imp (ps_while hp hc hb) (by
  rintro D σ H ⟨e, h, D', re, rh, ⟨n, z⟩, l⟩
  refine ⟨fun m σ' H' => ∃ e' h', TupLe H H' ∧ RE G.K H' e' σ' ∧ RH G H' h' ∧ whN dt t m D' e' h', ⟨n, e, h, TupLe.refl H, re, rh, z⟩, ?_⟩
  rintro m σ1 H1 ⟨e1, h1, tl1, re1, rh1, z1⟩
  cases m with
  | zero => exact z1.elim
  | succ m =>
    refine LT.mk re1 rh1 z1 ((l.later tl1).x re1) fun b h2 H2 t2 tl2 rh2 re2 x2 => ?_
    cases b with
    | true =>
      rw [if_pos rfl] at t2 ⊢
      refine ⟨fun σ' H' => ∃ e' h', TupLe H H' ∧ RE G.K H' e' σ' ∧ RH G H' h' ∧ whN dt t m D' e' h', fun σ' H' q => ⟨m, Nat.lt_succ_self m, q⟩, ?_⟩
      refine ⟨e1, h2, _, re2, rh2, t2, ⟨fun e' h' σ' H' q tl' rh' re' => ?_, fun d h' v H' q tl' => l.rt d h' v H' q (tl1.trans (tl2.trans tl')), fun e' h' σ' H' q tl' rh' re' => ?_, fun e' h' σ' H' q tl' rh' re' => ?_, fun x e' h' cls dd σ' H' q tl' => l.ex x e' h' cls dd σ' H' q (tl1.trans (tl2.trans tl'))⟩⟩
      · exact ⟨e', h', tl1.trans (tl2.trans tl'), re', rh', q⟩
      · exact l.nx e' h' σ' H' q (tl1.trans (tl2.trans tl')) rh' re'
      · exact ⟨e', h', tl1.trans (tl2.trans tl'), re', rh', q⟩
    | false =>
      rw [if_neg Bool.false_ne_true] at t2 ⊢
      exact l.nx e1 h2 σ1 H2 t2 (tl1.trans tl2) rh2 re2)
end

/-! ### what a loop walks: its items, what must stand still meanwhile -/
abbrev DI := DSt → DH → (List D → (DH → Prop) → DH → Prop) → KX → Prop
structure ItOk (G : Pg) (H0 : Hp) (J : It) (ds : List D) (still : DH → Prop) : Prop where
  go : ∀ i H h d, TupLe H0 H → RH G H h → still h → ds[i]? = some d → J.go i H ∧ ∀ x H', J.yld i H x H' → TupLe H H' ∧ RH G H' h ∧ Rep G.K H' d x
  stop : ∀ H h, TupLe H0 H → RH G H h → still h → J.stop ds.length H
def LI (G : Pg) (W : WX) (t : DI) : TI := fun σ H R => ∃ e h P R', RE G.K H e σ ∧ RH G H h ∧ t e h P R' ∧ (∀ ds still h1 H1 J, P ds still h1 → TupLe H H1 → RH G H1 h1 → ItOk G H1 J ds still → R J H1) ∧ LX G W σ H R'
def forS (still : DH → Prop) (g : DG) (b : DS) : List D → DEnds → DSt → DH → Prop
  | [], D, e, h => still h ∧ D.nx e h
  | d :: r, D, e, h => still h ∧ g d e h fun e1 h1 => b { D with nx := forS still g b r D, ct := forS still g b r D, bk := D.nx } e1 h1
def sFor (i : DI) (g : DG) (b : DS) : DS := fun D e h => i e h (fun ds still h1 => forS still g b ds D e h1) fun x h1 => D.ex x e h1
section
variable {X : Cx} {G : Pg} {W : WX} {tg iter : Expr} {body : List Stmt} {di : DI} {g : DG} {b : DS} {pos : Pos}
theorem pi_imp {tg iter : Expr} {t t' : TI} (h : PI X tg iter t) (i : ∀ σ H R, t' σ H R → t σ H R) : PI X tg iter t' := ⟨fun pins s σ H R I q => h.run pins s σ H R I (i _ _ _ q)⟩
theorem ss_for (hp : PassesOwn (model X.prog X.w) X.A X.env X.xe) (hc : X.calm = true) (hi : PI X tg iter (LI G W di)) {S : List Nat} (hg : PG X tg (LG G S g)) (hb : PSs X body (LS G W b)) (hs : ∀ x, foldedSetIterable iter X.env x = pure x) : PS X (.For tg iter body [] pos) (LS G W (sFor di g b)) := ps_imp (ps_for hp hc hi hg hb hs) (by
  rintro D σ H ⟨e, h, D', re, rh, z, l⟩
  refine ⟨e, h, _, _, re, rh, z, fun ds still h1 H1 J q tl1 rh1 ok => ?_, l.x re⟩
  refine ⟨fun i m σ' H' => m = ds.length - i ∧ i ≤ ds.length ∧ ∃ e' h', TupLe H1 H' ∧ RE G.K H' e' σ' ∧ RH G H' h' ∧ forS still g b (ds.drop i) D' e' h', ⟨_, rfl, Nat.zero_le _, e, h1, TupLe.refl _, re.keep tl1, rh1, q⟩, ?_⟩
  rintro i m σ2 H2 ⟨rfl, hi, e2, h2, tl2, re2, rh2, q2⟩
  by_cases hlt : i < ds.length
  · right
    have ed : ds.drop i = ds[i] :: ds.drop (i + 1) := List.drop_eq_getElem_cons hlt
    rw [ed] at q2
    obtain ⟨st, q2⟩ := q2
    obtain ⟨go, yl⟩ := ok.go i H2 h2 ds[i] tl2 rh2 st (List.getElem?_eq_getElem hlt)
    refine ⟨go, fun σ' H' => ∃ e' h', TupLe H1 H' ∧ RE G.K H' e' σ' ∧ RH G H' h' ∧ forS still g b (ds.drop (i + 1)) D' e' h', fun σ' H' w => ⟨_, by omega, rfl, hlt, w⟩, fun x H3 y => ?_⟩
    obtain ⟨tl3, rh3, r3⟩ := yl x H3 y
    refine ⟨ds[i], e2, h2, _, r3, re2.keep tl3, rh3, q2, fun e4 h4 σ4 H4 q4 tl4 rh4 re4 _ => ?_⟩
    refine ⟨e4, h4, _, re4, rh4, q4, ⟨fun e' h' σ' H' w tl' rh' re' => ?_, fun d h' v H' w tl' => l.rt d h' v H' w (tl1.trans (tl2.trans (tl3.trans (tl4.trans tl')))), fun e' h' σ' H' w tl' rh' re' => ?_, fun e' h' σ' H' w tl' rh' re' => ?_, fun x e' h' cls dd σ' H' w tl' => l.ex x e' h' cls dd σ' H' w (tl1.trans (tl2.trans (tl3.trans (tl4.trans tl'))))⟩⟩
    · exact ⟨e', h', tl2.trans (tl3.trans (tl4.trans tl')), re', rh', w⟩
    · exact l.nx e' h' σ' H' w (tl1.trans (tl2.trans (tl3.trans (tl4.trans tl')))) rh' re'
    · exact ⟨e', h', tl2.trans (tl3.trans (tl4.trans tl')), re', rh', w⟩
  · left
    have ei : i = ds.length := by omega
    subst ei
    rw [List.drop_length] at q2
    exact ⟨ok.stop H2 h2 tl2 rh2 q2.1, l.nx e2 h2 σ2 H2 q2.2 (tl1.trans tl2) rh2 re2⟩)
end
end DW

/-! DW, part 7: what loops walk, comprehensions, built-in functions. -/
namespace DW
open PySem L2 PySem.Spec PyProof.Rows

/-! ### iterables -/
/-- x itself is walked: a list, a tuple, a text -/
def kD : Key → D
  | .inl i => .int i
  | .inr s => .str s
theorem rep_key {K : PySem.W.Frag} {H : Hp} (k : Key) : Rep K H (kD k) (kV k) := by
  cases k with
  | inl i => exact rep_int
  | inr s => exact rep_str
theorem reps_kVs {K : PySem.W.Frag} {H : Hp} : ∀ ks : List Key, Reps K H (ks.map kD) (ks.map kV)
  | [] => reps_nil
  | k :: ks => reps_cons (rep_key k) (reps_kVs ks)
theorem RepF.get {κ : Type} {K : PySem.W.Frag} {H : Hp} : ∀ {kvs : List (κ × D)} {ws : List (κ × V)}, RepF K H kvs ws → ∀ {i : Nat} {q : κ × D}, kvs[i]? = some q → ∃ v, ws[i]? = some (q.1, v)
  | [], _, _, i, q, e => by simp at e
  | (k, d) :: kvs, ws, r, i, q, e => by
    obtain ⟨v, us, rfl, p, r'⟩ := r
    cases i with
    | zero => simp at e; subst e; exact ⟨v, rfl⟩
    | succ i => simp at e ⊢; exact r'.get e
def itD (x : D) (h : DH) (P : List D → (DH → Prop) → DH → Prop) : Prop := match x with
  | .tup ds => P ds (fun _ => True) h
  | .ktup ds => P ds (fun _ => True) h
  | .rol ds => P ds (fun _ => True) h
  | .str z => P (z.cps.toList.map fun c => D.str ⟨#[c]⟩) (fun _ => True) h
  | .ref a => match h a with
    | some (.lst ds) => P ds (fun h' => h' a = some (.lst ds)) h
    | some (.fK kvs o ws) => P (kvs.map fun kv => kD kv.1) (fun h' => h' a = some (.fK kvs o ws)) h
    | some (.fT kvs o ws) => P (kvs.map fun kv => .tup (kv.1.map kD)) (fun h' => h' a = some (.fT kvs o ws)) h
    | _ => False
  | _ => False
def iSeq (a : DE) : DI := fun e h P R => a e h (fun x h1 => itD x h1 P) R
def rangeD (lo : Int) (n : Nat) : List D := (List.range n).map fun i => .int (lo + (i : Nat))
def rangeC (lo c : Int) (n : Nat) : List D := (List.range n).map fun i => .int (lo + (i : Nat) * c)
def iRng1D (t : DA) : DI := fun e h P R => t e h (fun ds h1 => match ds with
  | [.int j] => (-(2 ^ 62) ≤ j ∧ j < 2 ^ 62) ∧ P (rangeD 0 j.toNat) (fun _ => True) h1
  | _ => False) R
def iRng2D (t : DA) : DI := fun e h P R => t e h (fun ds h1 => match ds with
  | [.int i, .int j] => (-(2 ^ 62) ≤ i ∧ i < 2 ^ 62 ∧ -(2 ^ 62) ≤ j ∧ j < 2 ^ 62) ∧ P (rangeD i (j - i).toNat) (fun _ => True) h1
  | _ => False) R
def iRng3D (t : DA) : DI := fun e h P R => t e h (fun ds h1 => match ds with
  | [.int i, .int j, .int c] => ∃ n, RgC i j c n ∧ P (rangeC i c n) (fun _ => True) h1
  | _ => False) R
def stillL (x : D) (ds : List D) : DH → Prop := fun h => match x with
  | .ref a => h a = some (.lst ds)
  | _ => True
def enumD (ds : List D) : List D := (List.range ds.length).zip ds |>.map fun p => .tup [.int (p.1 : Nat), p.2]
def iEnumD (t : DA) : DI := fun e h P R => t e h (fun ds h1 => match ds with
  | [x] => ∃ xs, lstOf h1 x = some xs ∧ P (enumD xs) (stillL x xs) h1
  | _ => False) R
def zipD (xs ys : List D) : List D := (xs.zip ys).map fun p => .tup [p.1, p.2]
def iZipD (t : DA) : DI := fun e h P R => t e h (fun ds h1 => match ds with
  | [x, y] => (∃ xs ys, lstOf h1 x = some xs ∧ lstOf h1 y = some ys ∧ P (zipD xs ys) (fun h => stillL x xs h ∧ stillL y ys h) h1) ∨
      ∃ xs ys, x = .tup xs ∧ y = .tup ys ∧ P (zipD xs ys) (fun _ => True) h1
  | _ => False) R
def iRevD (a : DE) : DI := fun e h P R => a e h (fun x h1 => match x with
  | .tup ds => P ds.reverse (fun _ => True) h1
  | .ktup ds => P ds.reverse (fun _ => True) h1
  | _ => ∃ xs, lstOf h1 x = some xs ∧ P xs.reverse (stillL x xs) h1) R
def iBad : DI := fun _ _ _ _ => False
section
variable {X : Cx} {G : Pg} {W : WX} {tg : Expr}
/-- iter(x), by values -/
def IterV (X : Cx) (tg : Expr) (r : V → Hp → (It → Hp → Prop) → Prop) : Prop :=
  ∀ (pins : List (Addr × Obj)) (s : Shared) (σ : L2.St) (H : Hp) (x : V) (v : Value) (R : It → Hp → Prop), Inv X pins σ H s → RelV x v → r x H R → wpAny (model X.prog X.w) X.A (pyIter v) (PIE X pins σ tg R) X.xe s
theorem iv_list : IterV X tg (fun x H R => ∃ a, x = .ref a ∧ (∃ xs, SqL X.K H a xs) ∧ R (Itl X.K a) H) := by
  rintro pins s σ H x v R I r ⟨a, rfl, ⟨xs, hq⟩, q⟩
  cases r
  obtain ⟨its, rv, p, hz⟩ := I.list hq
  refine wpAny_pyIter_list p.isList ⟨_, [s.heap.objs.size], _, _, H, rfl, I.kept (t' := s.toks) fun b o e => Heap.get?_push_of_some _ e, turn_list a _, ⟨_, Heap.get?_push_size _ rfl, rfl, rfl⟩, fun b hb => ?_, q⟩
  rw [List.mem_singleton.mp hb]
  exact I.fpOk (Nat.le_refl _) (I.hok.fresh (Nat.le_refl _))
theorem iv_tup : IterV X tg (fun x H R => ∃ a, x = .ref a ∧ (∃ xs, SqT X.K H a xs) ∧ R (Itt X.K a) H) := by
  rintro pins s σ H x v R I r ⟨a, rfl, ⟨xs, hq⟩, q⟩
  cases r
  obtain ⟨its, rv, p, hz⟩ := I.tuple hq
  refine wpAny_pyIter_tuple (show s.heap.IsTuple a its.toArray from p) ⟨_, [s.heap.objs.size], _, _, H, rfl, I.kept (t' := s.toks) fun b o e => Heap.get?_push_of_some _ e, turn_tuple a _, ⟨_, Heap.get?_push_size _ rfl, rfl, rfl⟩, fun b hb => ?_, q⟩
  rw [List.mem_singleton.mp hb]
  exact I.fpOk (Nat.le_refl _) (I.hok.fresh (Nat.le_refl _))
theorem iv_str : IterV X tg (fun x H R => ∃ z, x = .str z ∧ R (Its z) H) := by
  rintro pins s σ H x v R I r ⟨z, rfl, q⟩
  obtain ⟨t, rfl⟩ := r
  cases ha : z.cps.all (· < 128)
  · exact wpAny_pyIter_wide ha (pi_one (tk := s.toks) I _ (turn_str _ z t "str_iterator" (.inr rfl)) ⟨_, Heap.get?_push_size _ rfl, rfl, rfl⟩ q)
  · exact wpAny_pyIter_ascii ha (pi_one (tk := s.toks) I _ (turn_str _ z t "str_ascii_iterator" (.inl rfl)) ⟨_, Heap.get?_push_size _ rfl, rfl, rfl⟩ q)
theorem iv_keys : IterV X tg (fun x H R => ∃ d o kvs, x = .ref d ∧ H d = some (.frz o (.dK kvs)) ∧ R (Itk d o kvs) H) := by
  rintro pins s σ H x v R I r ⟨d, o, kvs, rfl, hd, q⟩
  cases r
  obtain ⟨n0, g0, x0, e0, p0, w0, t0, z0, -, -⟩ := I.frzK hd
  exact iter_keys n0 g0 x0 t0 (pi_one (tk := s.toks) I _ (turn_keys _ t0) ⟨_, Heap.get?_push_size _ rfl, rfl, by rw [z0] <;> rfl⟩ q)
theorem iv_keysT : IterV X tg (fun x H R => ∃ d o kvs, x = .ref d ∧ H d = some (.frz o (.dT kvs)) ∧ R (Itkt d o kvs) H) := by
  rintro pins s σ H x v R I r ⟨d, o, kvs, rfl, hd, q⟩
  cases r
  obtain ⟨n0, g0, x0, e0, p0, t0, z0, -⟩ := I.frzT hd
  exact iter_keys n0 g0 x0 t0 (pi_one (tk := s.toks) I _ (turn_keysT _ t0) ⟨_, Heap.get?_push_size _ rfl, rfl, by rw [z0] <;> rfl⟩ q)
theorem IterV.or {r r' : V → Hp → (It → Hp → Prop) → Prop} (h : IterV X tg r) (h' : IterV X tg r') : IterV X tg (fun x H R => r x H R ∨ r' x H R) := fun pins s σ H x v R I rv q => q.elim (h pins s σ H x v R I rv) (h' pins s σ H x v R I rv)
theorem pi_of {e : Expr} {te : TE} {r : V → Hp → (It → Hp → Prop) → Prop} (he : PE X e te) (h : IterV X tg r) : PI X tg e (fun σ H R => te σ H fun x H1 => r x H1 R) :=
  ⟨fun pins s σ H R I q => thn (he.run pins s σ H _ I q) fun v s1 ⟨x, H1, I1, r1, q1⟩ => h pins s1 σ H1 x v R I1 r1 q1⟩
theorem ito_list {H0 : Hp} {a : Addr} {ds : List D} {still : DH → Prop} (hs : ∀ H h, TupLe H0 H → RH G H h → still h → ∃ vs, SqL G.K H a vs ∧ Reps G.K H ds vs) : ItOk G H0 (Itl G.K a) ds still where
  go i H h d tl rh st e := by
    obtain ⟨vs, q, r⟩ := hs H h tl rh st
    obtain ⟨w, ew, rw_⟩ := r.get e
    refine ⟨⟨vs, w, q, ew⟩, fun x H' y => ?_⟩
    obtain ⟨rfl, all⟩ := y
    have := all vs q
    rw [ew] at this
    cases this
    exact ⟨TupLe.refl _, rh, rw_⟩
  stop H h tl rh st := by
    obtain ⟨vs, q, r⟩ := hs H h tl rh st
    exact ⟨vs, q, by rw [r.length]; exact Nat.le_refl _⟩
theorem ito_tup {H0 : Hp} {a : Addr} {ds : List D} {vs : List V} {still : DH → Prop} (q : SqT G.K H0 a vs) (r : Reps G.K H0 ds vs) : ItOk G H0 (Itt G.K a) ds still where
  go i H h d tl rh st e := by
    obtain ⟨w, ew, rw_⟩ := r.get e
    refine ⟨⟨vs, w, SqT.keep tl q, ew⟩, fun x H' y => ?_⟩
    obtain ⟨rfl, all⟩ := y
    have := all vs (SqT.keep tl q)
    rw [ew] at this
    cases this
    exact ⟨TupLe.refl _, rh, Rep.keep tl _ _ rw_⟩
  stop H h tl rh st := ⟨vs, SqT.keep tl q, by rw [r.length]; exact Nat.le_refl _⟩
theorem ito_rol {H0 : Hp} {a : Addr} {ds : List D} {vs : List V} {still : DH → Prop} (q : RoL G.K H0 a vs) (r : Reps G.K H0 ds vs) : ItOk G H0 (Itl G.K a) ds still :=
  ito_list fun H h tl rh st => ⟨vs, (q.keep tl).sq, Reps.keep tl _ _ r⟩
theorem ito_ref {H0 : Hp} {a : Addr} {ds : List D} : ItOk G H0 (Itl G.K a) ds (fun h => h a = some (.lst ds)) :=
  ito_list fun H h tl rh st => by
    obtain ⟨vs, q, r⟩ := rh.lst st
    exact ⟨vs, .inl (.inl q), r⟩
theorem ito_str {H0 : Hp} {z : Str} {still : DH → Prop} : ItOk G H0 (Its z) (z.cps.toList.map fun c => D.str ⟨#[c]⟩) still where
  go i H h d tl rh st e := by
    rw [List.getElem?_map] at e
    obtain ⟨c, ec, rfl⟩ := Option.map_eq_some_iff.mp e
    have ec' : z.cps[i]? = some c := by simpa using ec
    refine ⟨(Array.getElem?_eq_some_iff.mp ec').1, fun x H' y => ?_⟩
    obtain ⟨rfl, c', e', rfl⟩ := y
    rw [ec'] at e'
    cases e'
    exact ⟨TupLe.refl _, rh, rep_str⟩
  stop H h tl rh st := by
    show z.cps.size ≤ _
    simp
theorem ito_keys {H0 : Hp} {a : Addr} {kvs : List (Key × D)} {o : Obj} {ws : List (Key × V)} : ItOk G H0 (Itk a o ws) (kvs.map fun kv => kD kv.1) (fun h => h a = some (.fK kvs o ws)) where
  go i H h d tl rh st e := by
    obtain ⟨q, r⟩ := rh _ _ st
    rw [List.getElem?_map] at e
    obtain ⟨kv, e1, rfl⟩ := Option.map_eq_some_iff.mp e
    obtain ⟨v, e2⟩ := r.get e1
    refine ⟨⟨q, (List.getElem?_eq_some_iff.mp e2).1⟩, fun x H' y => ?_⟩
    obtain ⟨rfl, k, v', e3, rfl⟩ := y
    rw [e2] at e3
    cases e3
    exact ⟨TupLe.refl _, rh, rep_key _⟩
  stop H h tl rh st := by
    obtain ⟨q, r⟩ := rh _ _ st
    exact ⟨q, by rw [List.length_map, r.length]; exact Nat.le_refl _⟩
theorem ito_keysT {H0 : Hp} {a : Addr} {kvs : List (List Key × D)} {o : Obj} {ws : List (List Key × V)} : ItOk G H0 (Itkt a o ws) (kvs.map fun kv => .tup (kv.1.map kD)) (fun h => h a = some (.fT kvs o ws)) where
  go i H h d tl rh st e := by
    obtain ⟨q, r⟩ := rh _ _ st
    rw [List.getElem?_map] at e
    obtain ⟨kv, e1, rfl⟩ := Option.map_eq_some_iff.mp e
    obtain ⟨v, e2⟩ := r.get e1
    refine ⟨⟨q, (List.getElem?_eq_some_iff.mp e2).1⟩, fun x H' y => ?_⟩
    obtain ⟨rfl, k, v', b, e3, rfl, eb⟩ := y
    rw [e2] at e3
    cases e3
    exact ⟨TupLe.refl _, rh, rep_tup eb (reps_kVs _)⟩
  stop H h tl rh st := by
    obtain ⟨q, r⟩ := rh _ _ st
    exact ⟨q, by rw [List.length_map, r.length]; exact Nat.le_refl _⟩
theorem si_seq {e : Expr} {de : DE} (hK : X.K = G.K) (he : PE X e (LE G W de)) : PI X tg e (LI G W (iSeq de)) := pi_imp (pi_of he ((iv_list.or (iv_tup.or iv_str)).or (iv_keys.or iv_keysT))) (by
  rintro σ H R ⟨en, h, P, R', re, rh, t, fin, x⟩
  refine LE.mk re rh t x fun d h1 v H1 t1 tl1 rh1 r1 re1 x1 => ?_
  rw [hK]
  cases d with
  | tup ds =>
    obtain ⟨a, vs, rfl, q, r⟩ := r1.tup_
    exact .inl (.inr (.inl ⟨a, rfl, ⟨vs, q⟩, fin _ _ h1 H1 _ t1 tl1 rh1 (ito_tup q r)⟩))
  | ktup ds =>
    obtain ⟨a, vs, rfl, q, r⟩ := r1.ktup_
    exact .inl (.inr (.inl ⟨a, rfl, ⟨vs, q⟩, fin _ _ h1 H1 _ t1 tl1 rh1 (ito_tup q r)⟩))
  | rol ds =>
    obtain ⟨a, vs, rfl, q, r⟩ := r1.rol_
    exact .inl (.inl ⟨a, rfl, ⟨vs, q.sq⟩, fin _ _ h1 H1 _ t1 tl1 rh1 (ito_rol q r)⟩)
  | str z => exact .inl (.inr (.inr ⟨z, r1.str_, fin _ _ h1 H1 _ t1 tl1 rh1 ito_str⟩))
  | ref a =>
    unfold itD at t1
    simp only at t1
    split at t1
    · rename_i ds ea
      obtain ⟨vs, q, r⟩ := rh1.lst ea
      exact .inl (.inl ⟨a, r1.ref_, ⟨vs, .inl (.inl q)⟩, fin _ _ h1 H1 _ t1 tl1 rh1 ito_ref⟩)
    · rename_i kvs o ws ea
      exact .inr (.inl ⟨a, o, ws, r1.ref_, (rh1 _ _ ea).1, fin _ _ h1 H1 _ t1 tl1 rh1 ito_keys⟩)
    · rename_i kvs o ws ea
      exact .inr (.inr ⟨a, o, ws, r1.ref_, (rh1 _ _ ea).1, fin _ _ h1 H1 _ t1 tl1 rh1 ito_keysT⟩)
    · exact t1.elim
  | _ => exact t1.elim)
theorem ito_rng {H0 : Hp} {lo : Int} {n : Nat} {still : DH → Prop} : ItOk G H0 (Itr lo n) (rangeD lo n) still where
  go i H h d tl rh st e := by
    unfold rangeD at e
    rw [List.getElem?_map] at e
    obtain ⟨c, ec, rfl⟩ := Option.map_eq_some_iff.mp e
    obtain ⟨l, ec⟩ := List.getElem?_eq_some_iff.mp ec
    rw [List.length_range] at l
    simp at ec
    subst ec
    exact ⟨l, fun x H' y => by obtain ⟨rfl, rfl⟩ := y; exact ⟨TupLe.refl _, rh, rep_int⟩⟩
  stop H h tl rh st := by show n ≤ _; simp [rangeD]
theorem ito_rngC {H0 : Hp} {lo c : Int} {n : Nat} {still : DH → Prop} : ItOk G H0 (Itc lo c n) (rangeC lo c n) still where
  go i H h d tl rh st e := by
    unfold rangeC at e
    rw [List.getElem?_map] at e
    obtain ⟨c, ec, rfl⟩ := Option.map_eq_some_iff.mp e
    obtain ⟨l, ec⟩ := List.getElem?_eq_some_iff.mp ec
    rw [List.length_range] at l
    simp at ec
    subst ec
    exact ⟨l, fun x H' y => by obtain ⟨rfl, rfl⟩ := y; exact ⟨TupLe.refl _, rh, rep_int⟩⟩
  stop H h tl rh st := by show n ≤ _; simp [rangeC]
/-- lists of one, two, three -/
theorem Reps.one {K : PySem.W.Frag} {H : Hp} {x : D} {vs : List V} (r : Reps K H [x] vs) : ∃ v, vs = [v] ∧ Rep K H x v := by
  obtain ⟨v, u, rfl, p, q⟩ := r.cons_
  rw [q.nil_]; exact ⟨v, rfl, p⟩
theorem Reps.two {K : PySem.W.Frag} {H : Hp} {x y : D} {vs : List V} (r : Reps K H [x, y] vs) : ∃ v w, vs = [v, w] ∧ Rep K H x v ∧ Rep K H y w := by
  obtain ⟨v, u, rfl, p, q⟩ := r.cons_
  obtain ⟨w, rfl, q'⟩ := q.one
  exact ⟨v, w, rfl, p, q'⟩
theorem si_rng1 {a : Expr} {t : DA} {p pos : Pos} (hg : Gl X "range") (hm : X.mg "range" = none) (hs : starEach [a] X.env = [(false, eval a X.env)]) (ha : PA X [a] (LA G W t)) : PI X tg (.Call (.Name "range" p) [a] [] pos) (LI G W (iRng1D t)) := pi_imp (pi_range1 hg hm ha hs) (by
  rintro σ H R ⟨en, h, P, R', re, rh, t, fin, x⟩
  refine LA.mk re rh t x fun ds h1 vs H1 t1 tl1 rh1 r1 re1 x1 => ?_
  split at t1
  · rename_i j
    obtain ⟨v, rfl, r⟩ := r1.one
    exact ⟨j, by rw [r.int_], t1.1.1, t1.1.2, fin _ _ h1 H1 _ t1.2 tl1 rh1 ito_rng⟩
  · exact t1.elim)
theorem si_rng2 {a b : Expr} {t : DA} {p pos : Pos} (hg : Gl X "range") (hm : X.mg "range" = none) (hs : starEach [a, b] X.env = [(false, eval a X.env), (false, eval b X.env)]) (hs2 : starEach [b] X.env = [(false, eval b X.env)]) (ha : PA X [a, b] (LA G W t)) : PI X tg (.Call (.Name "range" p) [a, b] [] pos) (LI G W (iRng2D t)) := pi_imp (pi_range2 hg hm ha hs hs2) (by
  rintro σ H R ⟨en, h, P, R', re, rh, t, fin, x⟩
  refine LA.mk re rh t x fun ds h1 vs H1 t1 tl1 rh1 r1 re1 x1 => ?_
  split at t1
  · rename_i i j
    obtain ⟨v, w, rfl, r, r'⟩ := r1.two
    exact ⟨i, j, by rw [r.int_, r'.int_], t1.1, fin _ _ h1 H1 _ t1.2 tl1 rh1 ito_rng⟩
  · exact t1.elim)
theorem lst_still {H0 H : Hp} {h0 h : DH} {x : D} {v : V} {xs : List D} {a : Addr} {vs : List V} (e : lstOf h0 x = some xs) (rh0 : RH G H0 h0) (r : Rep G.K H0 x v) (ev : v = .ref a) (q : SqL G.K H0 a vs) (rs : Reps G.K H0 xs vs) (tl : TupLe H0 H) (rh : RH G H h) (st : stillL x xs h) : ∃ vs, SqL G.K H a vs ∧ Reps G.K H xs vs := by
  subst ev
  cases x with
  | rol ds =>
    cases e
    obtain ⟨b, ws, eb, q', r'⟩ := r.rol_
    cases eb
    exact ⟨ws, (q'.keep tl).sq, Reps.keep tl _ _ r'⟩
  | ref b =>
    have eb := r.ref_
    cases eb
    obtain ⟨ws, q', r'⟩ := rh.lst st
    exact ⟨ws, .inl (.inl q'), r'⟩
  | _ => cases e
theorem ito_enum {H0 : Hp} {a : Addr} {ds : List D} {still : DH → Prop} (hs : ∀ H h, TupLe H0 H → RH G H h → still h → ∃ vs, SqL G.K H a vs ∧ Reps G.K H ds vs) : ItOk G H0 (Ite G.K a) (enumD ds) still where
  go i H h d tl rh st e := by
    obtain ⟨vs, q, r⟩ := hs H h tl rh st
    unfold enumD at e
    rw [List.getElem?_map] at e
    obtain ⟨⟨j, c⟩, ec, rfl⟩ := Option.map_eq_some_iff.mp e
    rw [List.getElem?_zip_eq_some] at ec
    obtain ⟨e1, e2⟩ := ec
    obtain ⟨l, e1⟩ := List.getElem?_eq_some_iff.mp e1
    simp at e1
    subst e1
    obtain ⟨w, ew, rw_⟩ := r.get e2
    refine ⟨⟨vs, w, q, ew⟩, fun x H' y => ?_⟩
    obtain ⟨T, x', rfl, hT, rfl, all⟩ := y
    have := all vs q
    rw [ew] at this
    cases this
    exact ⟨TupLe.new hT, rh.more hT, rep_tup upd_same (reps_cons rep_int (reps_cons (Rep.keep (TupLe.new hT) _ _ rw_) reps_nil))⟩
  stop H h tl rh st := by
    obtain ⟨vs, q, r⟩ := hs H h tl rh st
    refine ⟨vs, q, ?_⟩
    rw [r.length]
    simp [enumD]
theorem si_enum {a : Expr} {t : DA} {p pos tpos : Pos} {elts : List Expr} {kk : Nat} (hK : X.K = G.K) (hg : Gl X "enumerate") (hm : X.mg "enumerate" = none) (hs : starEach [a] X.env = [(false, eval a X.env)]) (ha : PA X [a] (LA G W t)) : PI X (.Tuple elts kk tpos) (.Call (.Name "enumerate" p) [a] [] pos) (LI G W (iEnumD t)) := pi_imp (pi_enum hg hm ha hs) (by
  rintro σ H R ⟨en, h, P, R', re, rh, t, fin, x⟩
  refine LA.mk re rh t x fun ds h1 vs H1 t1 tl1 rh1 r1 re1 x1 => ?_
  split at t1
  · rename_i x
    obtain ⟨xs, e, p⟩ := t1
    obtain ⟨v, rfl, r⟩ := r1.one
    obtain ⟨a, ws, ev, q, rs⟩ := lstOf_ok rh1 r e
    exact ⟨a, ws, by rw [ev], by rw [hK]; exact q, by rw [hK]; exact fin _ _ h1 H1 _ p tl1 rh1 (ito_enum fun H' h' tl' rh' st => lst_still e rh1 r ev q rs tl' rh' st)⟩
  · exact t1.elim)
theorem ito_zip {H0 : Hp} {J : It} {ds es : List D} {still : DH → Prop} {Sq : Hp → Addr → List V → Prop} {a b : Addr}
    (hJ : J = ⟨fun i H => ∃ (xs ys : List V) (x y : V), Sq H a xs ∧ Sq H b ys ∧ xs[i]? = some x ∧ ys[i]? = some y, fun i H v H' => ∃ T x y, v = .ref T ∧ H T = none ∧ H' = L2.upd H T (.tup [x, y]) ∧ (∀ xs, Sq H a xs → xs[i]? = some x) ∧ ∀ ys, Sq H b ys → ys[i]? = some y,
      fun i H => ∃ xs ys : List V, Sq H a xs ∧ Sq H b ys ∧ (xs.length ≤ i ∨ ys.length ≤ i)⟩)
    (h1 : ∀ H h, TupLe H0 H → RH G H h → still h → ∃ vs, Sq H a vs ∧ Reps G.K H ds vs) (h2 : ∀ H h, TupLe H0 H → RH G H h → still h → ∃ vs, Sq H b vs ∧ Reps G.K H es vs) : ItOk G H0 J (zipD ds es) still where
  go i H h d tl rh st e := by
    subst hJ
    obtain ⟨vs, q, r⟩ := h1 H h tl rh st
    obtain ⟨us, q', r'⟩ := h2 H h tl rh st
    unfold zipD at e
    rw [List.getElem?_map] at e
    obtain ⟨⟨j, c⟩, ec, rfl⟩ := Option.map_eq_some_iff.mp e
    rw [List.getElem?_zip_eq_some] at ec
    obtain ⟨e1, e2⟩ := ec
    obtain ⟨w, ew, rw_⟩ := r.get e1
    obtain ⟨z, ez, rz⟩ := r'.get e2
    refine ⟨⟨vs, us, w, z, q, q', ew, ez⟩, fun x H' y => ?_⟩
    obtain ⟨T, x', y', rfl, hT, rfl, all, all'⟩ := y
    have := all vs q
    rw [ew] at this
    cases this
    have := all' us q'
    rw [ez] at this
    cases this
    exact ⟨TupLe.new hT, rh.more hT, rep_tup upd_same (reps_cons (Rep.keep (TupLe.new hT) _ _ rw_) (reps_cons (Rep.keep (TupLe.new hT) _ _ rz) reps_nil))⟩
  stop H h tl rh st := by
    subst hJ
    obtain ⟨vs, q, r⟩ := h1 H h tl rh st
    obtain ⟨us, q', r'⟩ := h2 H h tl rh st
    refine ⟨vs, us, q, q', ?_⟩
    rw [r.length, r'.length]
    simp [zipD]
    omega
theorem si_zip {a b : Expr} {t : DA} {p pos tpos : Pos} {elts : List Expr} {kk : Nat} (hK : X.K = G.K) (hg : Gl X "zip") (hm : X.mg "zip" = none) (hs : starEach [a, b] X.env = (false, eval a X.env) :: starEach [b] X.env) (hpl : (backTo pos (starEach [b] X.env)).any (·.1) = false) (ha : PA X [a, b] (LA G W t)) :
    PI X (.Tuple elts kk tpos) (.Call (.Name "zip" p) [a, b] [] pos) (LI G W (iZipD t)) := pi_imp (RZ.pi_zipA hg hm ha hs hpl) (by
  rintro σ H R ⟨en, h, P, R', re, rh, t, fin, x⟩
  refine LA.mk re rh t x fun ds h1 vs H1 t1 tl1 rh1 r1 re1 x1 => ?_
  rw [hK]
  split at t1
  · rename_i x y
    obtain ⟨v, w, rfl, r, r'⟩ := r1.two
    rcases t1 with ⟨xs, ys, e, e', p⟩ | ⟨xs, ys, rfl, rfl, p⟩
    · obtain ⟨a, ws, ev, q, rs⟩ := lstOf_ok rh1 r e
      obtain ⟨b, us, ew, q', rs'⟩ := lstOf_ok rh1 r' e'
      exact ⟨a, b, ws, us, by rw [ev, ew], .inl ⟨q, q', fin _ _ h1 H1 _ p tl1 rh1 (ito_zip (Sq := SqL G.K) rfl (fun H' h' tl' rh' st => lst_still e rh1 r ev q rs tl' rh' st.1) (fun H' h' tl' rh' st => lst_still e' rh1 r' ew q' rs' tl' rh' st.2))⟩⟩
    · obtain ⟨a, ws, ev, q, rs⟩ := r.tup_
      obtain ⟨b, us, ew, q', rs'⟩ := r'.tup_
      exact ⟨a, b, ws, us, by rw [ev, ew], .inr ⟨q, q', fin _ _ h1 H1 _ p tl1 rh1 (ito_zip (Sq := SqT G.K) rfl (fun H' h' tl' rh' st => ⟨ws, SqT.keep tl' q, Reps.keep tl' _ _ rs⟩) (fun H' h' tl' rh' st => ⟨us, SqT.keep tl' q', Reps.keep tl' _ _ rs'⟩))⟩⟩
  · exact t1.elim)
theorem ito_rev {H0 : Hp} {J : It} {ds : List D} {n : Nat} {still : DH → Prop} {Sq : Hp → Addr → List V → Prop} {a : Addr} (hn : n = ds.length)
    (hJ : J = ⟨fun i H => i < n ∧ ∃ (xs : List V) (x : V), Sq H a xs ∧ xs[n - 1 - i]? = some x, fun i H x H' => H' = H ∧ ∀ xs, Sq H a xs → xs[n - 1 - i]? = some x, fun i _ => n ≤ i⟩)
    (h1 : ∀ H h, TupLe H0 H → RH G H h → still h → ∃ vs, Sq H a vs ∧ Reps G.K H ds vs) : ItOk G H0 J ds.reverse still where
  go i H h d tl rh st e := by
    subst hJ hn
    obtain ⟨vs, q, r⟩ := h1 H h tl rh st
    have l := (List.getElem?_eq_some_iff.mp e).1
    rw [List.length_reverse] at l
    rw [List.getElem?_reverse l] at e
    obtain ⟨w, ew, rw_⟩ := r.get e
    refine ⟨⟨l, vs, w, q, ew⟩, fun x H' y => ?_⟩
    obtain ⟨rfl, all⟩ := y
    have := all vs q
    rw [ew] at this
    cases this
    exact ⟨TupLe.refl _, rh, rw_⟩
  stop H h tl rh st := by
    subst hJ hn
    show ds.length ≤ ds.reverse.length
    rw [List.length_reverse]
    exact Nat.le_refl _
theorem si_rev {e : Expr} {de : DE} {p pos : Pos} (hK : X.K = G.K) (hg : Gl X "reversed") (hm : X.mg "reversed" = none) (hs : starEach [e] X.env = (false, eval e X.env) :: starEach [] X.env) (he : PE X e (LE G W de)) : PI X tg (.Call (.Name "reversed" p) [e] [] pos) (LI G W (iRevD de)) := pi_imp (RT.pi_revA hg hm he hs) (by
  rintro σ H R ⟨en, h, P, R', re, rh, t, fin, x⟩
  refine LE.mk re rh t x fun d h1 v H1 t1 tl1 rh1 r1 re1 x1 => ?_
  rw [hK]
  have lst : (∃ xs, lstOf h1 d = some xs ∧ P xs.reverse (stillL d xs) h1) → ∃ (a : Addr) (xs : List V), v = .ref a ∧ ((SqL G.K H1 a xs ∧ R (Itv G.K a xs.length) H1) ∨ (SqT G.K H1 a xs ∧ R (RT.ItvT G.K a xs.length) H1)) := fun ⟨xs, e, p⟩ => by
    obtain ⟨a, ws, ev, q, rs⟩ := lstOf_ok rh1 r1 e
    exact ⟨a, ws, ev, .inl ⟨q, fin _ _ h1 H1 _ p tl1 rh1 (ito_rev (Sq := SqL G.K) rs.length rfl fun H' h' tl' rh' st => lst_still e rh1 r1 ev q rs tl' rh' st)⟩⟩
  cases d with
  | tup ds =>
    obtain ⟨a, ws, ev, q, rs⟩ := r1.tup_
    exact ⟨a, ws, ev, .inr ⟨q, fin _ _ h1 H1 _ t1 tl1 rh1 (ito_rev (Sq := SqT G.K) rs.length rfl fun H' h' tl' rh' st => ⟨ws, SqT.keep tl' q, Reps.keep tl' _ _ rs⟩)⟩⟩
  | ktup ds =>
    obtain ⟨a, ws, ev, q, rs⟩ := r1.ktup_
    exact ⟨a, ws, ev, .inr ⟨q, fin _ _ h1 H1 _ t1 tl1 rh1 (ito_rev (Sq := SqT G.K) rs.length rfl fun H' h' tl' rh' st => ⟨ws, SqT.keep tl' q, Reps.keep tl' _ _ rs⟩)⟩⟩
  | non => exact lst t1
  | bl _ => exact lst t1
  | int _ => exact lst t1
  | str _ => exact lst t1
  | rol _ => exact lst t1
  | ref _ => exact lst t1)
theorem si_bad {it : Expr} : PI X tg it (LI G W iBad) := ⟨fun _ _ _ _ _ _ ⟨_, _, _, _, _, _, z, _⟩ => z.elim⟩
end

/-! ### comprehensions -/
def wipeD (e : DSt) : List Nat → DSt
  | [] => e
  | v :: vs => (wipeD e vs).set v none
/-- over the items ds: L the new list -/
def lcS (L : Addr) (still : DH → Prop) (g : DG) (tt : DT) (te : DE) (en : DSt) (vs : List Nat) : List D → List D → DH → KD → Prop
  | [], _, h, P => still h ∧ P (.ref L) h
  | d :: r, acc, h, P => still h ∧ g d en h fun e1 h1 => tt e1 h1 (fun b h2 => if b = true then te e1 h2 (fun y h3 => h3 L = some (.lst acc) ∧ acc.length < sizeLine ∧ lcS L still g tt te en vs r (acc ++ [y]) (up h3 L (.lst (acc ++ [y]))) P) (fun _ _ => False) else h2 L = some (.lst acc) ∧ lcS L still g tt te en vs r acc h2 P) (fun _ _ => False)
def cLc (i : DI) (g : DG) (tt : DT) (te : DE) (vs : List Nat) : DE := fun e h P R => i e h (fun ds still h1 => ∀ L, h1 L = none → lcS L still g tt te (wipeD e vs) vs ds [] (up h1 L (.lst [])) P) R
def tYesD : DT := fun _ h P _ => P true h
theorem wipe_re {K : PySem.W.Frag} {H : Hp} {e : DSt} {σ : L2.St} (r : RE K H e σ) : ∀ vs : List Nat, RE K H (wipeD e vs) (wipe σ vs)
  | [] => r
  | v :: vs => by
    unfold wipeD wipe
    exact (wipe_re r vs).unset
section
variable {X : Cx} {G : Pg} {W : WX} {tg iter elt : Expr} {ifs : List Expr} {scope : Scope} {own : List (Str × Nat)} {di : DI} {g : DG} {tt : DT} {te : DE} {pos : Pos} {S : List Nat}
theorem le_lc (hS : ∀ i ∈ S, i ∈ own.map (·.2)) : ∀ σ H Q, LE G W (cLc di g tt te (own.map (·.2))) σ H Q → tLc (LI G W di) (LG G S g) (LT G (fun _ _ _ _ => False) tt) (LE G (fun _ _ _ _ => False) te) (own.map (·.2)) σ H Q := by
  rintro σ H Q ⟨en, h, P, R, re, rh, t, fin, x⟩
  generalize own.map (·.2) = vs at *
  have xx : ∀ {σ : L2.St} {H : Hp}, LX G (fun _ _ _ _ => False) σ H (fun _ _ => False) := fun {σ H} _ _ _ _ _ z => z.elim
  refine ⟨en, h, _, R, re, rh, t, fun ds still h1 H1 J q tl1 rh1 ok L hL => ?_, x⟩
  have q0 := q L (rh1.fresh hL)
  have tlL : TupLe H1 (L2.upd H1 L (.lst [])) := TupLe.new hL
  refine ⟨fun i m H' => m = ds.length - i ∧ i ≤ ds.length ∧ ∃ acc h' va, TupLe H1 H' ∧ RH G H' h' ∧ H' L = some (.lst va) ∧ Reps G.K H' acc va ∧ h' L = some (.lst acc) ∧ lcS L still g tt te (wipeD en vs) vs (ds.drop i) acc h' P, ⟨_, rfl, Nat.zero_le _, [], _, [], tlL, rh1.upd (fun z e => by rw [hL] at e; cases e) (OR.lst hL reps_nil), upd_same, reps_nil, up_same, q0⟩, ?_⟩
  rintro i m H2 ⟨rfl, hi, acc, h2, va, tl2, rh2, e2, r2, d2, q2⟩
  by_cases hlt : i < ds.length
  · right
    have ed : ds.drop i = ds[i] :: ds.drop (i + 1) := List.drop_eq_getElem_cons hlt
    rw [ed] at q2
    obtain ⟨st, q2⟩ := q2
    obtain ⟨go, yl⟩ := ok.go i H2 h2 ds[i] tl2 rh2 st (List.getElem?_eq_getElem hlt)
    refine ⟨go, fun H' => ∃ acc h' va, TupLe H1 H' ∧ RH G H' h' ∧ H' L = some (.lst va) ∧ Reps G.K H' acc va ∧ h' L = some (.lst acc) ∧ lcS L still g tt te (wipeD en vs) vs (ds.drop (i + 1)) acc h' P, fun H' w => ⟨_, by omega, rfl, hlt, w⟩, fun x H3 y => ?_⟩
    obtain ⟨tl3, rh3, r3⟩ := yl x H3 y
    refine ⟨ds[i], wipeD en vs, h2, _, r3, wipe_re (re.keep (tl1.trans (tl2.trans tl3))) vs, rh3, q2, fun e4 h4 σ4 H4 q4 tl4 rh4 re4 w4 => ⟨?_, ?_⟩⟩
    · have := w4 vs hS
      rw [this]
      refine List.ext_getElem? fun j => ?_
      rw [wipe_get, wipe_get]
      by_cases m : j ∈ vs
      · rw [if_pos m, if_pos m]
        cases σ[j]? <;> rfl
      · rw [if_neg m]
    · refine LT.mk re4 rh4 q4 xx fun b h5 H5 q5 tl5 rh5 re5 x5 => ?_
      cases b with
      | true =>
        rw [if_pos rfl] at q5 ⊢
        refine LE.mk re5 rh5 q5 xx fun d h6 v H6 q6 tl6 rh6 r6 re6 x6 => ?_
        obtain ⟨e6, l6, q6⟩ := q6
        obtain ⟨va6, ea6, ra6⟩ := rh6.lst e6
        have hf : ∀ u, H6 L = some u → fixedO u = false := fun u z => by rw [ea6] at z; cases z; rfl
        have tl7 : TupLe H6 (L2.upd H6 L (.lst (va6 ++ [v]))) := TupLe.upd hf
        refine ⟨va6, ea6, by rw [ra6.length]; exact l6, _, _, va6 ++ [v], tl2.trans (tl3.trans (tl4.trans (tl5.trans (tl6.trans tl7)))), rh6.upd hf ?_, upd_same, ?_, up_same, q6⟩
        · exact ⟨_, upd_same, (Reps.keep tl7 _ _ ra6).append (reps_cons (Rep.keep tl7 _ _ r6) reps_nil)⟩
        · exact (Reps.keep tl7 _ _ ra6).append (reps_cons (Rep.keep tl7 _ _ r6) reps_nil)
      | false =>
        rw [if_neg Bool.false_ne_true] at q5 ⊢
        obtain ⟨e5, q5⟩ := q5
        obtain ⟨va5, ea5, ra5⟩ := rh5.lst e5
        exact ⟨acc, h5, va5, tl2.trans (tl3.trans (tl4.trans tl5)), rh5, ea5, ra5, e5, q5⟩
  · left
    have ei : i = ds.length := by omega
    subst ei
    rw [List.drop_length] at q2
    exact ⟨ok.stop H2 h2 tl2 rh2 q2.1, fin _ h2 _ H2 q2.2 (tl1.trans tl2) rh2 rep_ref⟩
theorem se_lc (hc : X.calm = true) (hN : X.N.Nodup) (hS : ∀ i ∈ S, i ∈ own.map (·.2)) (hi : PI X tg iter (LI G W di)) (ok : BlkOk X.N X.env.scope scope own)
    (hg : ∀ (s : Shared) (H : Hp) (C : Addr) (cl : List (Str × Addr)) (fp : List Addr), PG (X.blk s H scope (compEnvC scope cl C X.env) fp) tg (LG G S g)) (ht : ∀ (s : Shared) (H : Hp) (C : Addr) (cl : List (Str × Addr)) (fp : List Addr), PTs (X.blk s H scope (compEnvC scope cl C X.env) fp) ifs (LT G (fun _ _ _ _ => False) tt))
    (he : ∀ (s : Shared) (H : Hp) (C : Addr) (cl : List (Str × Addr)) (fp : List Addr), PE (X.blk s H scope (compEnvC scope cl C X.env) fp) elt (LE G (fun _ _ _ _ => False) te)) (hs : ∀ x, foldedSetIterable iter X.env x = pure x) :
    PE X (.ListComp elt [⟨tg, iter, ifs, 0⟩] scope pos) (LE G W (cLc di g tt te (own.map (·.2)))) := pe_imp (pe_lc hc hN hi ok hg ht he hs) (le_lc hS)
theorem ss_lc {i : Nat} {y : Str} {py spos : Pos} (hc : X.calm = true) (hN : X.N.Nodup) (hy : X.N[i]? = some y) (hyl : X.env.scope.names.lookup y = some .local) (hsw : swapsWith (.ListComp elt [⟨tg, iter, ifs, 0⟩] scope pos) (some (.Name y py)) spos.line X.env = pure true)
    (hS : ∀ i ∈ S, i ∈ own.map (·.2)) (hi : PI X tg iter (LI G W di)) (ok : BlkOk X.N X.env.scope scope own)
    (hg : ∀ (s : Shared) (H : Hp) (C : Addr) (cl : List (Str × Addr)) (fp : List Addr), PG (X.blk s H scope (compEnvC scope cl C X.env) fp) tg (LG G S g)) (ht : ∀ (s : Shared) (H : Hp) (C : Addr) (cl : List (Str × Addr)) (fp : List Addr), PTs (X.blk s H scope (compEnvC scope cl C X.env) fp) ifs (LT G (fun _ _ _ _ => False) tt))
    (he : ∀ (s : Shared) (H : Hp) (C : Addr) (cl : List (Str × Addr)) (fp : List Addr), PE (X.blk s H scope (compEnvC scope cl C X.env) fp) elt (LE G (fun _ _ _ _ => False) te)) (hs : ∀ x, foldedSetIterable iter X.env x = pure x) :
    PS X (.Assign [.Name y py] (.ListComp elt [⟨tg, iter, ifs, 0⟩] scope pos) spos) (LS G W (sAsg (cLc di g tt te (own.map (·.2))) (gN i))) := ps_imp (ps_setLc hc hN hy hyl hsw hi ok hg ht he hs) (by
  rintro D σ H ⟨e, h, D', re, rh, z, l⟩
  refine le_lc hS σ H _ (LE.mk re rh z (l.x re) fun d h1 v H1 t1 tl1 rh1 r1 re1 x1 => ?_)
  exact l.nx _ h1 _ H1 t1 tl1 rh1 (re1.set r1))
end
/-! ### comprehensions with two loops -/
/-- the inner loop of a comprehension with two: L the list -/
def lcI (L : Addr) (still : DH → Prop) (g : DG) (tt : DT) (te : DE) (en : DSt) : List D → List D → DH → (List D → DH → Prop) → Prop
  | [], acc, h, K => still h ∧ h L = some (.lst acc) ∧ K acc h
  | d :: r, acc, h, K => still h ∧ g d en h fun e1 h1 => tt e1 h1 (fun b h2 => if b = true then te e1 h2 (fun y h3 => h3 L = some (.lst acc) ∧ acc.length < sizeLine ∧ lcI L still g tt te en r (acc ++ [y]) (up h3 L (.lst (acc ++ [y]))) K) (fun _ _ => False) else h2 L = some (.lst acc) ∧ lcI L still g tt te en r acc h2 K) (fun _ _ => False)
def lcS2 (L : Addr) (still : DH → Prop) (g : DG) (tt : DT) (di1 : DI) (g1 : DG) (tt1 : DT) (te : DE) (en : DSt) (vs1 : List Nat) : List D → List D → DH → KD → Prop
  | [], _, h, P => still h ∧ P (.ref L) h
  | d :: r, acc, h, P => still h ∧ g d en h fun e1 h1 => tt e1 h1 (fun b h2 => if b = true then di1 e1 h2 (fun ds1 still1 h3 => h3 L = some (.lst acc) ∧ lcI L still1 g1 tt1 te (wipeD e1 vs1) ds1 acc h3 (fun acc' h' => lcS2 L still g tt di1 g1 tt1 te en vs1 r acc' h' P)) (fun _ _ => False)
      else h2 L = some (.lst acc) ∧ lcS2 L still g tt di1 g1 tt1 te en vs1 r acc h2 P) (fun _ _ => False)
def cLc2 (i : DI) (g : DG) (tt : DT) (di1 : DI) (g1 : DG) (tt1 : DT) (te : DE) (vs vs1 : List Nat) : DE := fun e h P R => i e h (fun ds still h1 => ∀ L, h1 L = none → lcS2 L still g tt di1 g1 tt1 te (wipeD e vs) vs1 ds [] (up h1 L (.lst [])) P) R
section
variable {X : Cx} {G : Pg} {W : WX} {tg iter tg1 iter1 elt : Expr} {ifs ifs1 : List Expr} {scope : Scope} {own : List (Str × Nat)} {vs1 : List Nat} {di di1 : DI} {g g1 : DG} {tt tt1 : DT} {te : DE} {pos : Pos} {S S1 : List Nat}
theorem le_lc2 (hS : ∀ i ∈ S, i ∈ own.map (·.2)) (hS1 : ∀ i ∈ S1, i ∈ vs1) : ∀ σ H Q, LE G W (cLc2 di g tt di1 g1 tt1 te (own.map (·.2)) vs1) σ H Q →
    tLc2 (LI G W di) (LG G S g) (LT G (fun _ _ _ _ => False) tt) (LI G (fun _ _ _ _ => False) di1) (LG G S1 g1) (LT G (fun _ _ _ _ => False) tt1) (LE G (fun _ _ _ _ => False) te) (own.map (·.2)) vs1 σ H Q := by
  rintro σ H Q ⟨en, h, P, R, re, rh, t, fin, x⟩
  generalize own.map (·.2) = vs at *
  have xx : ∀ {σ : L2.St} {H : Hp}, LX G (fun _ _ _ _ => False) σ H (fun _ _ => False) := fun {σ H} _ _ _ _ _ z => z.elim
  have wp : ∀ {vs S : List Nat} {σ σ4 : L2.St}, (∀ i ∈ S, i ∈ vs) → (∀ vs : List Nat, (∀ i ∈ S, i ∈ vs) → wipe σ4 vs = wipe (wipe σ vs) vs) → wipe σ4 vs = wipe σ vs := fun {vs S σ σ4} hS w4 => by
    have := w4 vs hS
    rw [this]
    refine List.ext_getElem? fun j => ?_
    rw [wipe_get, wipe_get]
    by_cases m : j ∈ vs
    · rw [if_pos m, if_pos m]
      cases σ[j]? <;> rfl
    · rw [if_neg m]
  refine ⟨en, h, _, R, re, rh, t, fun ds still h1 H1 J q tl1 rh1 ok L hL => ?_, x⟩
  have q0 := q L (rh1.fresh hL)
  have tlL : TupLe H1 (L2.upd H1 L (.lst [])) := TupLe.new hL
  refine ⟨fun i m H' => m = ds.length - i ∧ i ≤ ds.length ∧ ∃ acc h' va, TupLe H1 H' ∧ RH G H' h' ∧ H' L = some (.lst va) ∧ Reps G.K H' acc va ∧ h' L = some (.lst acc) ∧ lcS2 L still g tt di1 g1 tt1 te (wipeD en vs) vs1 (ds.drop i) acc h' P, ⟨_, rfl, Nat.zero_le _, [], _, [], tlL, rh1.upd (fun z e => by rw [hL] at e; cases e) (OR.lst hL reps_nil), upd_same, reps_nil, up_same, q0⟩, ?_⟩
  rintro i m H2 ⟨rfl, hi, acc, h2, va, tl2, rh2, e2, r2, d2, q2⟩
  by_cases hlt : i < ds.length
  · right
    have ed : ds.drop i = ds[i] :: ds.drop (i + 1) := List.drop_eq_getElem_cons hlt
    rw [ed] at q2
    obtain ⟨st, q2⟩ := q2
    obtain ⟨go, yl⟩ := ok.go i H2 h2 ds[i] tl2 rh2 st (List.getElem?_eq_getElem hlt)
    refine ⟨go, fun H' => ∃ acc h' va, TupLe H1 H' ∧ RH G H' h' ∧ H' L = some (.lst va) ∧ Reps G.K H' acc va ∧ h' L = some (.lst acc) ∧ lcS2 L still g tt di1 g1 tt1 te (wipeD en vs) vs1 (ds.drop (i + 1)) acc h' P, fun H' w => ⟨_, by omega, rfl, hlt, w⟩, fun x H3 y => ?_⟩
    obtain ⟨tl3, rh3, r3⟩ := yl x H3 y
    refine ⟨ds[i], wipeD en vs, h2, _, r3, wipe_re (re.keep (tl1.trans (tl2.trans tl3))) vs, rh3, q2, fun e4 h4 σ4 H4 q4 tl4 rh4 re4 w4 => ⟨?_, ?_⟩⟩
    · have := w4 vs hS
      rw [this]
      refine List.ext_getElem? fun j => ?_
      rw [wipe_get, wipe_get]
      by_cases m : j ∈ vs
      · rw [if_pos m, if_pos m]
        cases σ[j]? <;> rfl
      · rw [if_neg m]
    · refine LT.mk re4 rh4 q4 xx fun b h5 H5 q5 tl5 rh5 re5 x5 => ?_
      cases b with
      | false =>
        rw [if_neg Bool.false_ne_true] at q5 ⊢
        obtain ⟨e5, q5⟩ := q5
        obtain ⟨va5, ea5, ra5⟩ := rh5.lst e5
        exact ⟨acc, h5, va5, tl2.trans (tl3.trans (tl4.trans tl5)), rh5, ea5, ra5, e5, q5⟩
      | true =>
        rw [if_pos rfl] at q5 ⊢
        have tl25 : TupLe H1 H5 := tl2.trans (tl3.trans (tl4.trans tl5))
        refine ⟨e4, h5, _, _, re5, rh5, q5, fun ds1 still1 h6 H6 J1 q6 tl6 rh6 ok1 => ?_, xx⟩
        obtain ⟨e6, q6⟩ := q6
        obtain ⟨va6, ea6, ra6⟩ := rh6.lst e6
        have re6 := re5.keep tl6
        refine ⟨fun j k H' => k = ds1.length - j ∧ j ≤ ds1.length ∧ ∃ acc h' va, TupLe H6 H' ∧ RH G H' h' ∧ H' L = some (.lst va) ∧ Reps G.K H' acc va ∧ h' L = some (.lst acc) ∧ lcI L still1 g1 tt1 te (wipeD e4 vs1) (ds1.drop j) acc h' (fun acc' h' => lcS2 L still g tt di1 g1 tt1 te (wipeD en vs) vs1 (ds.drop (i + 1)) acc' h' P),
          ⟨_, rfl, Nat.zero_le _, acc, h6, va6, TupLe.refl _, rh6, ea6, ra6, e6, q6⟩, ?_⟩
        rintro j k H7 ⟨rfl, hj, acc7, h7, va7, tl7, rh7, ea7, ra7, d7, q7⟩
        by_cases hlt1 : j < ds1.length
        · right
          have ed1 : ds1.drop j = ds1[j] :: ds1.drop (j + 1) := List.drop_eq_getElem_cons hlt1
          rw [ed1] at q7
          obtain ⟨st1, q7⟩ := q7
          obtain ⟨go1, yl1⟩ := ok1.go j H7 h7 ds1[j] tl7 rh7 st1 (List.getElem?_eq_getElem hlt1)
          refine ⟨go1, fun H' => ∃ acc h' va, TupLe H6 H' ∧ RH G H' h' ∧ H' L = some (.lst va) ∧ Reps G.K H' acc va ∧ h' L = some (.lst acc) ∧ lcI L still1 g1 tt1 te (wipeD e4 vs1) (ds1.drop (j + 1)) acc h' (fun acc' h' => lcS2 L still g tt di1 g1 tt1 te (wipeD en vs) vs1 (ds.drop (i + 1)) acc' h' P),
            fun H' w => ⟨_, by omega, rfl, hlt1, w⟩, fun x1 H8 y1 => ?_⟩
          obtain ⟨tl8, rh8, r8⟩ := yl1 x1 H8 y1
          refine ⟨ds1[j], wipeD e4 vs1, h7, _, r8, wipe_re (re6.keep (tl7.trans tl8)) vs1, rh8, q7, fun e9 h9 σ9 H9 q9 tl9 rh9 re9 w9 => ⟨?_, ?_⟩⟩
          · have := w9 vs1 hS1
            rw [this]
            refine List.ext_getElem? fun j => ?_
            rw [wipe_get, wipe_get]
            by_cases m : j ∈ vs1
            · rw [if_pos m, if_pos m]
              cases σ4[j]? <;> rfl
            · rw [if_neg m]
          · refine LT.mk re9 rh9 q9 xx fun b hA HA qA tlA rhA reA xA => ?_
            cases b with
            | true =>
              rw [if_pos rfl] at qA ⊢
              refine LE.mk reA rhA qA xx fun d hB v HB qB tlB rhB rB reB xB => ?_
              obtain ⟨eB, lB, qB⟩ := qB
              obtain ⟨vaB, eaB, raB⟩ := rhB.lst eB
              have hf : ∀ u, HB L = some u → fixedO u = false := fun u z => by rw [eaB] at z; cases z; rfl
              have tlC : TupLe HB (L2.upd HB L (.lst (vaB ++ [v]))) := TupLe.upd hf
              refine ⟨vaB, eaB, by rw [raB.length]; exact lB, _, _, vaB ++ [v], tl7.trans (tl8.trans (tl9.trans (tlA.trans (tlB.trans tlC)))), rhB.upd hf ?_, upd_same, ?_, up_same, qB⟩
              · exact ⟨_, upd_same, (Reps.keep tlC _ _ raB).append (reps_cons (Rep.keep tlC _ _ rB) reps_nil)⟩
              · exact (Reps.keep tlC _ _ raB).append (reps_cons (Rep.keep tlC _ _ rB) reps_nil)
            | false =>
              rw [if_neg Bool.false_ne_true] at qA ⊢
              obtain ⟨eA, qA⟩ := qA
              obtain ⟨vaA, eaA, raA⟩ := rhA.lst eA
              exact ⟨acc7, hA, vaA, tl7.trans (tl8.trans (tl9.trans tlA)), rhA, eaA, raA, eA, qA⟩
        · left
          have ei : j = ds1.length := by omega
          subst ei
          rw [List.drop_length] at q7
          obtain ⟨st1, eL, q7⟩ := q7
          exact ⟨ok1.stop H7 h7 tl7 rh7 st1, acc7, h7, va7, tl25.trans (tl6.trans tl7), rh7, ea7, ra7, eL, q7⟩
  · left
    have ei : i = ds.length := by omega
    subst ei
    rw [List.drop_length] at q2
    exact ⟨ok.stop H2 h2 tl2 rh2 q2.1, fin _ h2 _ H2 q2.2 (tl1.trans tl2) rh2 rep_ref⟩
theorem se_lc2 (hc : X.calm = true) (hN : X.N.Nodup) (hS : ∀ i ∈ S, i ∈ own.map (·.2)) (hS1 : ∀ i ∈ S1, i ∈ vs1) (hv : ∀ i ∈ vs1, i ∈ own.map (·.2)) (hi : PI X tg iter (LI G W di)) (ok : BlkOk X.N X.env.scope scope own)
    (hg : ∀ (s : Shared) (H : Hp) (C : Addr) (cl : List (Str × Addr)) (fp : List Addr), PG (X.blk s H scope (compEnvC scope cl C X.env) fp) tg (LG G S g)) (ht : ∀ (s : Shared) (H : Hp) (C : Addr) (cl : List (Str × Addr)) (fp : List Addr), PTs (X.blk s H scope (compEnvC scope cl C X.env) fp) ifs (LT G (fun _ _ _ _ => False) tt))
    (hi1 : ∀ (s : Shared) (H : Hp) (C : Addr) (cl : List (Str × Addr)) (fp : List Addr), PI (X.blk s H scope (compEnvC scope cl C X.env) fp) tg1 iter1 (LI G (fun _ _ _ _ => False) di1))
    (hg1 : ∀ (s : Shared) (H : Hp) (C : Addr) (cl : List (Str × Addr)) (fp : List Addr), PG (X.blk s H scope (compEnvC scope cl C X.env) fp) tg1 (LG G S1 g1)) (ht1 : ∀ (s : Shared) (H : Hp) (C : Addr) (cl : List (Str × Addr)) (fp : List Addr), PTs (X.blk s H scope (compEnvC scope cl C X.env) fp) ifs1 (LT G (fun _ _ _ _ => False) tt1))
    (he : ∀ (s : Shared) (H : Hp) (C : Addr) (cl : List (Str × Addr)) (fp : List Addr), PE (X.blk s H scope (compEnvC scope cl C X.env) fp) elt (LE G (fun _ _ _ _ => False) te)) (hs : ∀ x, foldedSetIterable iter X.env x = pure x) (hs1 : ∀ env x, foldedSetIterable iter1 env x = pure x) :
    PE X (.ListComp elt [⟨tg, iter, ifs, 0⟩, ⟨tg1, iter1, ifs1, 0⟩] scope pos) (LE G W (cLc2 di g tt di1 g1 tt1 te (own.map (·.2)) vs1)) := pe_imp (pe_lc2 hc hN hi ok hv hg ht hi1 hg1 ht1 he hs hs1) (le_lc2 hS hS1)
theorem ss_lc2 {i : Nat} {y : Str} {py spos : Pos} (hc : X.calm = true) (hN : X.N.Nodup) (hy : X.N[i]? = some y) (hyl : X.env.scope.names.lookup y = some .local) (hsw : swapsWith (.ListComp elt [⟨tg, iter, ifs, 0⟩, ⟨tg1, iter1, ifs1, 0⟩] scope pos) (some (.Name y py)) spos.line X.env = pure true)
    (hS : ∀ i ∈ S, i ∈ own.map (·.2)) (hS1 : ∀ i ∈ S1, i ∈ vs1) (hv : ∀ i ∈ vs1, i ∈ own.map (·.2)) (hi : PI X tg iter (LI G W di)) (ok : BlkOk X.N X.env.scope scope own)
    (hg : ∀ (s : Shared) (H : Hp) (C : Addr) (cl : List (Str × Addr)) (fp : List Addr), PG (X.blk s H scope (compEnvC scope cl C X.env) fp) tg (LG G S g)) (ht : ∀ (s : Shared) (H : Hp) (C : Addr) (cl : List (Str × Addr)) (fp : List Addr), PTs (X.blk s H scope (compEnvC scope cl C X.env) fp) ifs (LT G (fun _ _ _ _ => False) tt))
    (hi1 : ∀ (s : Shared) (H : Hp) (C : Addr) (cl : List (Str × Addr)) (fp : List Addr), PI (X.blk s H scope (compEnvC scope cl C X.env) fp) tg1 iter1 (LI G (fun _ _ _ _ => False) di1))
    (hg1 : ∀ (s : Shared) (H : Hp) (C : Addr) (cl : List (Str × Addr)) (fp : List Addr), PG (X.blk s H scope (compEnvC scope cl C X.env) fp) tg1 (LG G S1 g1)) (ht1 : ∀ (s : Shared) (H : Hp) (C : Addr) (cl : List (Str × Addr)) (fp : List Addr), PTs (X.blk s H scope (compEnvC scope cl C X.env) fp) ifs1 (LT G (fun _ _ _ _ => False) tt1))
    (he : ∀ (s : Shared) (H : Hp) (C : Addr) (cl : List (Str × Addr)) (fp : List Addr), PE (X.blk s H scope (compEnvC scope cl C X.env) fp) elt (LE G (fun _ _ _ _ => False) te)) (hs : ∀ x, foldedSetIterable iter X.env x = pure x) (hs1 : ∀ env x, foldedSetIterable iter1 env x = pure x) :
    PS X (.Assign [.Name y py] (.ListComp elt [⟨tg, iter, ifs, 0⟩, ⟨tg1, iter1, ifs1, 0⟩] scope pos) spos) (LS G W (sAsg (cLc2 di g tt di1 g1 tt1 te (own.map (·.2)) vs1) (gN i))) := ps_imp (ps_setLc2 hc hN hy hyl hsw hi ok hv hg ht hi1 hg1 ht1 he hs hs1) (by
  rintro D σ H ⟨e, h, D', re, rh, z, l⟩
  refine le_lc2 hS hS1 σ H _ (LE.mk re rh z (l.x re) fun d h1 v H1 t1 tl1 rh1 r1 re1 x1 => ?_)
  exact l.nx _ h1 _ H1 t1 tl1 rh1 (re1.set r1))
end
end DW

/-! DW, part 8: built-in functions, isinstance, lists' methods. -/
namespace DW
open PySem L2 PySem.Spec

abbrev DB := List D → DH → KD → Prop
def OpB (G : Pg) (f : DB) (r : List V → Hp → VK → Prop) : Prop := ∀ H h ds vs P Q, RH G H h → Reps G.K H ds vs → f ds h P → Fin2 G P H Q → r vs H Q
def cB (f : DB) (t : DA) : DE := fun e h P R => t e h (fun ds h1 => f ds h1 P) R
section
variable {X : Cx} {G : Pg} {W : WX} {x : Str} {id T : String} {f : DB} {r : List V → Hp → VK → Prop} {t : DA} {p pos : Pos} {e : Expr} {es : List Expr}
theorem le_B (o : OpB G f r) : ∀ σ H Q, LE G W (cB f t) σ H Q → tCB r (LA G W t) σ H Q := by
  rintro σ H Q ⟨en, h, P, R, re, rh, t, fin, x⟩
  refine LA.mk re rh t x fun ds h1 vs H1 t1 tl1 rh1 r1 re1 x1 => ?_
  exact o H1 h1 ds vs P Q rh1 r1 t1 fun d' h' v' H' p tl => fin d' h' v' H' p (tl1.trans tl)
theorem se_B (hc : CallR X (.builtin id) r) (o : OpB G f r) (hg : Gl X x) (hm : X.mg x = none) (hv : bootBuiltins x = some (.builtin id)) (hn : x ≠ "__name__") (hdb : (x == ("__debug__" : Str)) = false)
    (he : starEach (e :: es) X.env = (false, eval e X.env) :: starEach es X.env) (hpl : (backTo pos (starEach es X.env)).any (·.1) = false) (ha : PA X (e :: es) (LA G W t)) : PE X (.Call (.Name x p) (e :: es) [] pos) (LE G W (cB f t)) :=
  pe_imp (pe_callB hc hg hm hv ha hn hdb he hpl) (le_B o)
theorem se_Ty (hc : CallR X (.type T) r) (o : OpB G f r) (hg : Gl X x) (hm : X.mg x = none) (hv : bootBuiltins x = some (.type T)) (hn : x ≠ "__name__") (hdb : (x == ("__debug__" : Str)) = false)
    (he : starEach (e :: es) X.env = (false, eval e X.env) :: starEach es X.env) (hpl : (backTo pos (starEach es X.env)).any (·.1) = false) (ha : PA X (e :: es) (LA G W t)) : PE X (.Call (.Name x p) (e :: es) [] pos) (LE G W (cB f t)) :=
  pe_imp (pe_callTy hc hg hm hv ha hn hdb he hpl) (le_B o)
end

/-! ### int, len, list, tuple -/
def bInt : DB := fun ds h P => match ds with
  | [.int i] => P (.int i) h
  | [.bl k] => P (.int (if k then 1 else 0)) h
  | _ => False
theorem ob_int {G : Pg} : OpB G bInt (fun xs H Q => (∃ i, xs = [.int i] ∧ Q (.int i) H) ∨ ∃ k, xs = [.bl k] ∧ Q (.int (if k then 1 else 0)) H) := fun H h ds vs P Q rh r q f => by
  unfold bInt at q
  split at q
  · obtain ⟨v, rfl, p⟩ := r.one
    exact .inl ⟨_, by rw [p.int_], f.val rh q rep_int⟩
  · obtain ⟨v, rfl, p⟩ := r.one
    exact .inr ⟨_, by rw [p.bl_], f.val rh q rep_int⟩
  · exact q.elim
def lenD (h : DH) : D → Option Nat
  | .tup ds => some ds.length
  | .ktup ds => some ds.length
  | .rol ds => some ds.length
  | .str z => if z.length ≤ sizeLine then some z.length else none
  | .ref a => match h a with
    | some (.lst xs) => some xs.length
    | some (.dK kvs) => some kvs.length
    | some (.dT kvs) => some kvs.length
    | _ => none
  | _ => none
def bLen : DB := fun ds h P => match ds with
  | [x] => ∃ n, lenD h x = some n ∧ P (.int (n : Nat)) h
  | _ => False
def rLenA (K : PySem.W.Frag) : List V → Hp → VK → Prop := fun xs H Q => (∃ x n, xs = [x] ∧ LenV K x H n ∧ Q (.int n) H) ∨ (∃ a kvs, xs = [.ref a] ∧ H a = some (.dK kvs) ∧ Q (.int kvs.length) H) ∨ rLenT xs H Q
theorem cr_lenA {X : Cx} : CallR X (.builtin "len") (rLenA X.K) := call_len.or (CallR.or (r := fun xs H Q => ∃ a kvs, xs = [.ref a] ∧ H a = some (.dK kvs) ∧ Q (.int kvs.length) H) (by
  rintro pins s σ H xs us Q I r ⟨a, kvs, rfl, e, q⟩
  rw [Vals.ref1 r]
  exact d_len I (.inl e) fun t s' I' => ⟨.int kvs.length, H, I', ⟨t, rfl⟩, q⟩) call_len_dT)
theorem ob_len {G : Pg} : OpB G bLen (rLenA G.K) := fun H h ds vs P Q rh r q f => by
  unfold bLen at q
  split at q
  · rename_i x
    obtain ⟨n, e, q⟩ := q
    obtain ⟨v, rfl, p⟩ := r.one
    cases x with
    | tup ds =>
      obtain ⟨a, us, rfl, s, rs⟩ := p.tup_
      cases e
      exact .inl ⟨_, _, rfl, .inr ⟨us, s, rs.length.symm⟩, f.val rh q rep_int⟩
    | ktup ds =>
      obtain ⟨a, us, rfl, s, rs⟩ := p.ktup_
      cases e
      exact .inl ⟨_, _, rfl, .inr ⟨us, s, rs.length.symm⟩, f.val rh q rep_int⟩
    | rol ds =>
      obtain ⟨a, us, rfl, s, rs⟩ := p.rol_
      cases e
      exact .inl ⟨_, _, rfl, .inl ⟨us, s.sq, rs.length.symm⟩, f.val rh q rep_int⟩
    | str z =>
      have e' : (if z.length ≤ sizeLine then some z.length else none) = some n := e
      split at e'
      · rename_i l
        cases e'
        exact .inl ⟨_, z.length, rfl, by rw [p.str_]; exact ⟨l, rfl⟩, f.val rh q rep_int⟩
      · cases e'
    | ref a =>
      unfold lenD at e
      simp only at e
      split at e
      · rename_i xs ea
        cases e
        obtain ⟨us, s, rs⟩ := rh.lst ea
        exact .inl ⟨_, _, rfl, by rw [p.ref_]; exact .inl ⟨us, .inl (.inl s), rs.length.symm⟩, f.val rh q rep_int⟩
      · rename_i kvs ea
        cases e
        obtain ⟨ws, s, rs⟩ := rh _ _ ea
        refine .inr (.inl ⟨a, ws, by rw [p.ref_], s, ?_⟩)
        rw [rs.length]
        exact f.val rh q rep_int
      · rename_i kvs ea
        cases e
        obtain ⟨ws, s, rs⟩ := rh _ _ ea
        refine .inr (.inr ⟨a, ws, by rw [p.ref_], s, ?_⟩)
        rw [rs.length]
        exact f.val rh q rep_int
      · cases e
    | _ => cases e
  · exact q.elim
/-- what list(x) holds -/
def allOf (h : DH) (x : D) : Option (List D) := match x with
  | .ref a => match h a with
    | some (.lst xs) => some xs
    | some (.dK kvs) => some (kvs.map fun kv => kD kv.1)
    | some (.dT kvs) => some (kvs.map fun kv => .tup (kv.1.map kD))
    | _ => none
  | x => seqOf h x
def bList : DB := fun ds h P => match ds with
  | [] => ∀ p, h p = none → P (.ref p) (up h p (.lst []))
  | [x] => ∃ xs, allOf h x = some xs ∧ ∀ p, h p = none → P (.ref p) (up h p (.lst xs))
  | _ => False
def rListA (K : PySem.W.Frag) : List V → Hp → VK → Prop := fun xs H Q => (∃ p ys, xs = [.ref p] ∧ (SqL K H p ys ∨ SqT K H p ys) ∧ ∀ l, H l = none → Q (.ref l) (upd H l (.lst ys))) ∨ rListD xs H Q ∨
  (∃ d kvs, xs = [V.ref d] ∧ Rd H d (.dT kvs) ∧ ∀ p bs, H p = none → IsKeys H kvs bs → Q (.ref p) (upd H p (.lst (bs.map V.ref))))
theorem cr_listA {X : Cx} (hc : X.calm = true) : CallR X (.type "list") (rListA X.K) := call_list_of.or (CallR.or (call_list_dK hc) (call_list_dT hc))
theorem reps_keys {K : PySem.W.Frag} {H : Hp} : ∀ {kvs : List (Key × D)} {ws : List (Key × V)}, RepF K H kvs ws → Reps K H (kvs.map fun kv => kD kv.1) (ws.map fun kv => kV kv.1)
  | [], ws, r => by rw [show ws = [] from r]; exact reps_nil
  | (k, d) :: kvs, ws, r => by
    obtain ⟨v, us, rfl, p, q⟩ := r
    exact reps_cons (rep_key k) (reps_keys q)
theorem reps_tkeys {K : PySem.W.Frag} {H : Hp} : ∀ {kvs : List (List Key × D)} {ws : List (List Key × V)} {bs : List Addr}, RepF K H kvs ws → IsKeys H ws bs → Reps K H (kvs.map fun kv => .tup (kv.1.map kD)) (bs.map V.ref)
  | [], ws, bs, r, i => by
    rw [show ws = [] from r] at i
    cases i
    exact reps_nil
  | (k, d) :: kvs, ws, bs, r, i => by
    obtain ⟨v, us, rfl, p, q⟩ := r
    cases i with
    | cons e i => exact reps_cons (rep_tup e (reps_kVs k)) (reps_tkeys q i)
def bList1 : DB := fun ds h P => match ds with
  | [x] => ∃ xs, allOf h x = some xs ∧ ∀ p, h p = none → P (.ref p) (up h p (.lst xs))
  | _ => False
theorem ob_list {G : Pg} : OpB G bList1 (rListA G.K) := fun H h ds vs P Q rh r q f => by
  unfold bList1 at q
  split at q
  · rename_i x
    obtain ⟨xs, e, q⟩ := q
    obtain ⟨v, rfl, p⟩ := r.one
    have sq : ∀ xs, seqOf h x = some xs → (∀ p, h p = none → P (.ref p) (up h p (.lst xs))) → rListA G.K [v] H Q := fun xs e q => by
      obtain ⟨a, us, rfl, s, rs⟩ := seqOf_ok rh p e
      exact .inl ⟨a, us, rfl, s, f.new rh q fun c hc => OR.lst hc rs⟩
    cases x with
    | ref a =>
      unfold allOf at e
      simp only at e
      split at e
      · rename_i ys ea
        cases e
        exact sq _ (by unfold seqOf; simp only [ea]) q
      · rename_i kvs ea
        cases e
        obtain ⟨ws, s, rs⟩ := rh _ _ ea
        exact .inr (.inl ⟨a, ws, by rw [p.ref_], s, f.new rh q fun c hc => OR.lst hc (reps_keys rs)⟩)
      · rename_i kvs ea
        cases e
        obtain ⟨ws, s, rs⟩ := rh _ _ ea
        exact .inr (.inr ⟨a, ws, by rw [p.ref_], .inl s, fun l bs hl ik => f.new rh q (fun c hc => OR.lst hc (reps_tkeys rs ik)) l hl⟩)
      · cases e
    | non => cases e
    | bl _ => cases e
    | int _ => cases e
    | str _ => cases e
    | tup ds => exact sq xs e q
    | ktup ds => exact sq xs e q
    | rol ds => exact sq xs e q
  · exact q.elim
def bTuple : DB := fun ds h P => match ds with
  | [x] => ∃ xs, seqOf h x = some xs ∧ P (match x with
    | .ktup _ => x
    | _ => .tup xs) h
  | _ => False
theorem ob_tuple {G : Pg} : OpB G bTuple (fun xs H Q => ∃ p ys, xs = [.ref p] ∧ ((SqL G.K H p ys ∧ ∀ l, H l = none → Q (.ref l) (upd H l (.tup ys))) ∨ (SqT G.K H p ys ∧ Q (.ref p) H))) := fun H h ds vs P Q rh r q f => by
  unfold bTuple at q
  split at q
  · rename_i x
    obtain ⟨xs, e, q⟩ := q
    obtain ⟨v, rfl, p⟩ := r.one
    cases x with
    | tup ds =>
      cases e
      obtain ⟨a, us, rfl, s, rs⟩ := p.tup_
      exact ⟨a, us, rfl, .inr ⟨s, f.val rh q p⟩⟩
    | ktup ds =>
      obtain ⟨a, us, rfl, s, rs⟩ := p.ktup_
      exact ⟨a, us, rfl, .inr ⟨s, f.val rh q p⟩⟩
    | rol ds =>
      cases e
      obtain ⟨a, us, rfl, s, rs⟩ := p.rol_
      exact ⟨a, us, rfl, .inl ⟨s.sq, f.newT rh q rs⟩⟩
    | ref a =>
      obtain ⟨b, us, e1, s, rs⟩ := lstOf_ok (xs := xs) rh p e
      exact ⟨b, us, by rw [e1], .inl ⟨s, f.newT rh q rs⟩⟩
    | _ => cases e
  · exact q.elim
/-! ### max, min, sum, all, any, sorted -/
def bMax2 : DB := fun ds h P => match ds with
  | [.int i, .int j] => P (.int (if j > i then j else i)) h
  | _ => False
def bMin2 : DB := fun ds h P => match ds with
  | [.int i, .int j] => P (.int (if j < i then j else i)) h
  | _ => False
/-- a list's ints -/
def intsD : List D → Option (List Int)
  | [] => some []
  | .int i :: ds => (intsD ds).map (i :: ·)
  | _ => none
theorem intsD_eq : ∀ {ds : List D} {ns : List Int}, intsD ds = some ns → ds = ns.map D.int
  | [], ns, e => by cases e; rfl
  | .int i :: ds, ns, e => by
    obtain ⟨ms, e1, rfl⟩ := Option.map_eq_some_iff.mp e
    rw [intsD_eq e1]; rfl
  | .non :: _, _, e => by cases e
  | .bl _ :: _, _, e => by cases e
  | .str _ :: _, _, e => by cases e
  | .tup _ :: _, _, e => by cases e
  | .rol _ :: _, _, e => by cases e
  | .ktup _ :: _, _, e => by cases e
  | .ref _ :: _, _, e => by cases e
def blsD : List D → Option (List Bool)
  | [] => some []
  | .bl i :: ds => (blsD ds).map (i :: ·)
  | _ => none
theorem blsD_eq : ∀ {ds : List D} {ns : List Bool}, blsD ds = some ns → ds = ns.map D.bl
  | [], ns, e => by cases e; rfl
  | .bl i :: ds, ns, e => by
    obtain ⟨ms, e1, rfl⟩ := Option.map_eq_some_iff.mp e
    rw [blsD_eq e1]; rfl
  | .non :: _, _, e => by cases e
  | .int _ :: _, _, e => by cases e
  | .str _ :: _, _, e => by cases e
  | .tup _ :: _, _, e => by cases e
  | .rol _ :: _, _, e => by cases e
  | .ktup _ :: _, _, e => by cases e
  | .ref _ :: _, _, e => by cases e
theorem Reps.bls_ {K : PySem.W.Frag} {H : Hp} : ∀ {ns : List Bool} {vs : List V}, Reps K H (ns.map D.bl) vs → vs = ns.map V.bl
  | [], vs, h => h.nil_
  | n :: ns, vs, h => by
    obtain ⟨v, r, rfl, p, q⟩ := h.cons_
    rw [p.bl_, q.bls_]; rfl
def onInts (x : D) (h : DH) (k : List Int → Prop) : Prop := ∃ xs ns, lstOf h x = some xs ∧ intsD xs = some ns ∧ k ns
def onBls (x : D) (h : DH) (k : List Bool → Prop) : Prop := ∃ xs ns, lstOf h x = some xs ∧ blsD xs = some ns ∧ k ns
theorem onInts_ok {G : Pg} {H : Hp} {h : DH} {x : D} {v : V} {k : List Int → Prop} (rh : RH G H h) (p : Rep G.K H x v) (q : onInts x h k) : ∃ a ns, v = .ref a ∧ SqL G.K H a (ns.map V.int) ∧ k ns := by
  obtain ⟨xs, ns, e1, e2, q⟩ := q
  obtain ⟨a, us, rfl, s, rs⟩ := lstOf_ok rh p e1
  rw [intsD_eq e2] at rs
  rw [rs.ints_] at s
  exact ⟨a, ns, rfl, s, q⟩
theorem onBls_ok {G : Pg} {H : Hp} {h : DH} {x : D} {v : V} {k : List Bool → Prop} (rh : RH G H h) (p : Rep G.K H x v) (q : onBls x h k) : ∃ a ns, v = .ref a ∧ SqL G.K H a (ns.map V.bl) ∧ k ns := by
  obtain ⟨xs, ns, e1, e2, q⟩ := q
  obtain ⟨a, us, rfl, s, rs⟩ := lstOf_ok rh p e1
  rw [blsD_eq e2] at rs
  rw [rs.bls_] at s
  exact ⟨a, ns, rfl, s, q⟩
def bSum : DB := fun ds h P => match ds with
  | [x] => onInts x h fun ns => P (.int ns.sum) h
  | _ => False
def bMaxL : DB := fun ds h P => match ds with
  | [x] => onInts x h fun ns => 0 < ns.length ∧ ∀ m, m ∈ ns → (∀ y, y ∈ ns → y ≤ m) → P (.int m) h
  | _ => False
def bMinL : DB := fun ds h P => match ds with
  | [x] => onInts x h fun ns => 0 < ns.length ∧ ∀ m, m ∈ ns → (∀ y, y ∈ ns → m ≤ y) → P (.int m) h
  | _ => False
def bAll : DB := fun ds h P => match ds with
  | [x] => onBls x h fun bs => P (.bl (bs.all id)) h
  | _ => False
def bAny : DB := fun ds h P => match ds with
  | [x] => onBls x h fun bs => P (.bl (bs.any id)) h
  | _ => False
def bSorted : DB := fun ds h P => match ds with
  | [x] => onInts x h fun ns => ∀ ns' : List Int, ns'.Perm ns → ns'.Pairwise (· ≤ ·) → ∀ p, h p = none → P (.ref p) (up h p (.lst (ns'.map D.int)))
  | _ => False
/-- max: of two, or of a list -/
def bMax : DB := fun ds h P => match ds with
  | [_] => bMaxL ds h P
  | _ => bMax2 ds h P
def bMin : DB := fun ds h P => match ds with
  | [_] => bMinL ds h P
  | _ => bMin2 ds h P
section
variable {G : Pg}
theorem ob_max2 : OpB G bMax2 (fun xs H Q => ∃ i j, xs = [.int i, .int j] ∧ Q (.int (if j > i then j else i)) H) := fun H h ds vs P Q rh r q f => by
  unfold bMax2 at q
  split at q
  · obtain ⟨v, w, rfl, p, p'⟩ := r.two
    exact ⟨_, _, by rw [p.int_, p'.int_], f.val rh q rep_int⟩
  · exact q.elim
theorem ob_min2 : OpB G bMin2 (fun xs H Q => ∃ i j, xs = [.int i, .int j] ∧ Q (.int (if j < i then j else i)) H) := fun H h ds vs P Q rh r q f => by
  unfold bMin2 at q
  split at q
  · obtain ⟨v, w, rfl, p, p'⟩ := r.two
    exact ⟨_, _, by rw [p.int_, p'.int_], f.val rh q rep_int⟩
  · exact q.elim
theorem ob_maxL : OpB G bMaxL (rMax G.K) := fun H h ds vs P Q rh r q f => by
  unfold bMaxL at q
  split at q
  · obtain ⟨v, rfl, p⟩ := r.one
    obtain ⟨a, ns, rfl, s, l, k⟩ := onInts_ok rh p q
    exact ⟨a, ns, rfl, s, l, fun m h1 h2 => f.val rh (k m h1 h2) rep_int⟩
  · exact q.elim
theorem ob_minL : OpB G bMinL (rMin G.K) := fun H h ds vs P Q rh r q f => by
  unfold bMinL at q
  split at q
  · obtain ⟨v, rfl, p⟩ := r.one
    obtain ⟨a, ns, rfl, s, l, k⟩ := onInts_ok rh p q
    exact ⟨a, ns, rfl, s, l, fun m h1 h2 => f.val rh (k m h1 h2) rep_int⟩
  · exact q.elim
theorem ob_max : OpB G bMax (fun vs H Q => rMax G.K vs H Q ∨ ∃ i j, vs = [.int i, .int j] ∧ Q (.int (if j > i then j else i)) H) := fun H h ds vs P Q rh r q f => by
  unfold bMax at q
  split at q
  · exact .inl (ob_maxL H h _ vs P Q rh r q f)
  · exact .inr (ob_max2 H h _ vs P Q rh r q f)
theorem ob_min : OpB G bMin (fun vs H Q => rMin G.K vs H Q ∨ ∃ i j, vs = [.int i, .int j] ∧ Q (.int (if j < i then j else i)) H) := fun H h ds vs P Q rh r q f => by
  unfold bMin at q
  split at q
  · exact .inl (ob_minL H h _ vs P Q rh r q f)
  · exact .inr (ob_min2 H h _ vs P Q rh r q f)
theorem ob_sum : OpB G bSum (rSum G.K) := fun H h ds vs P Q rh r q f => by
  unfold bSum at q
  split at q
  · obtain ⟨v, rfl, p⟩ := r.one
    obtain ⟨a, ns, rfl, s, k⟩ := onInts_ok rh p q
    exact ⟨a, ns, rfl, s, f.val rh k rep_int⟩
  · exact q.elim
theorem ob_all : OpB G bAll (rAll G.K) := fun H h ds vs P Q rh r q f => by
  unfold bAll at q
  split at q
  · obtain ⟨v, rfl, p⟩ := r.one
    obtain ⟨a, ns, rfl, s, k⟩ := onBls_ok rh p q
    exact ⟨a, ns, rfl, s, f.val rh k rep_bl⟩
  · exact q.elim
theorem ob_any : OpB G bAny (rAny G.K) := fun H h ds vs P Q rh r q f => by
  unfold bAny at q
  split at q
  · obtain ⟨v, rfl, p⟩ := r.one
    obtain ⟨a, ns, rfl, s, k⟩ := onBls_ok rh p q
    exact ⟨a, ns, rfl, s, f.val rh k rep_bl⟩
  · exact q.elim
theorem ob_sorted : OpB G bSorted (rSortedI G.K) := fun H h ds vs P Q rh r q f => by
  unfold bSorted at q
  split at q
  · obtain ⟨v, rfl, p⟩ := r.one
    obtain ⟨a, ns, rfl, s, k⟩ := onInts_ok rh p q
    exact ⟨a, ns, rfl, s, fun ns' l h1 h2 hl => f.new rh (k ns' h1 h2) (fun c hc => OR.lst hc (reps_ints ns')) l hl⟩
  · exact q.elim
end

/-! ### isinstance -/
/-- a class: a built-in one, or the own one with this number -/
inductive Tag where
  | ty (n : String) | own (c : Nat)
  deriving DecidableEq
def Tag.v (G : Pg) : Tag → Value
  | .ty n => .type n
  | .own c => .ref (G.ca c)
def tagOf (h : DH) : D → Option Tag
  | .non => some (.ty "NoneType")
  | .bl _ => some (.ty "bool")
  | .int _ => some (.ty "int")
  | .str _ => some (.ty "str")
  | .tup _ => some (.ty "tuple")
  | .ktup _ => some (.ty "tuple")
  | .rol _ => some (.ty "list")
  | .ref a => match h a with
    | some (.lst _) => some (.ty "list")
    | some (.dK _) => some (.ty "dict")
    | some (.dT _) => some (.ty "dict")
    | some (.ins c _) => some (.own c)
    | some (.fK _ _ _) => none
    | some (.fT _ _ _) => none
    | none => none
/-- is one of this class an instance of that one -/
abbrev Kit := Tag → Option Bool
def KitOk (G : Pg) (k : Kit) (u : Value) : Prop := ∀ t b, k t = some b → PySem.W.kitOne G.K (t.v G) u = some b
/-- what an own class must say so that isinstance asks its instances rightly -/
structure InsOk (K : PySem.W.Frag) (C : Addr) : Prop where
  cl : Cls K C
  ha : PySem.W.findIn K (.ref C) "__class__" = some (some (.builtin "object.__class__"))
  hn : PySem.W.specialIn K (.builtin "object.__class__") "__get__" = some (some (.builtin "getset_descriptor.__get__"))
  ht : PySem.W.takesIn K (.builtin "object.__class__") = some true
  hm : PySem.W.mroIn K C (.type "object") = some true
theorem tag_ok {G : Pg} {H : Hp} {h : DH} {x : D} {v : V} {t : Tag} (hi : ∀ c, t = .own c → InsOk G.K (G.ca c)) (rh : RH G H h) (r : Rep G.K H x v) (e : tagOf h x = some t) : TyX G.K H v (t.v G) := by
  cases x with
  | non => cases e; rw [r.non_]; exact .base .non
  | bl b => cases e; rw [r.bl_]; exact .base (.bl b)
  | int b => cases e; rw [r.int_]; exact .base (.int b)
  | str b => cases e; rw [r.str_]; exact .base (.str b)
  | tup ds => cases e; obtain ⟨a, vs, rfl, q, _⟩ := r.tupH; exact .base (.tup q)
  | ktup ds =>
    cases e
    unfold Rep at r
    obtain ⟨a, vs, rfl, ⟨o, its, n, q1, q2, _⟩, _⟩ := r
    exact .kTuple q1 q2
  | rol ds =>
    cases e
    obtain ⟨a, vs, rfl, q, _⟩ := r.rol_
    rcases q with ⟨o, q⟩ | ⟨o, its, n, q1, q2, _⟩
    · exact .base (.frz q)
    · exact .kList q1 q2
  | ref a =>
    rw [r.ref_]
    unfold tagOf at e
    cases ea : h a with
    | none => simp [ea] at e
    | some o =>
      simp only [ea] at e
      cases o with
      | lst xs => cases e; obtain ⟨vs, q, _⟩ := rh.lst ea; exact .base (.lst q)
      | dK xs => cases e; obtain ⟨vs, q, _⟩ := rh _ _ ea; exact .base (.dK q)
      | dT xs => cases e; obtain ⟨vs, q, _⟩ := rh _ _ ea; exact .base (.dT q)
      | ins c fs =>
        cases e
        obtain ⟨dx, vs, q, _⟩ := rh _ _ ea
        have i := hi c rfl
        exact .base (.ins q i.cl i.ha i.hn i.ht i.hm)
      | fK _ _ _ => cases e
      | fT _ _ _ => cases e
def cIsi (a : DE) (k : Kit) : DE := fun e h P R => a e h (fun x h1 => ∃ t b, tagOf h1 x = some t ∧ k t = some b ∧ P (.bl b) h1) R
/-- of several classes -/
def kitL : List Kit → Kit
  | [] => fun _ => some false
  | k :: r => fun t => match k t with
    | some true => some true
    | some false => kitL r t
    | none => none
theorem kitL_ok {G : Pg} : ∀ {ks : List Kit} {us : List Value}, Paired (fun k u => KitOk G k u) ks us → ∀ t b, kitL ks t = some b → PySem.W.kitAny G.K (t.v G) us = some b
  | [], _, .nil, t, b, e => by cases e; rfl
  | k :: ks, _, .cons (b := u) h r, t, b, e => by
    unfold kitL at e
    unfold PySem.W.kitAny
    cases z : k t with
    | none => simp [z] at e
    | some c =>
      rw [h t c z]
      cases c with
      | true => simp [z] at e; subst e; rfl
      | false => simp only [z] at e; exact kitL_ok r t b e
section
variable {X : Cx} {G : Pg} {W : WX} {a : Expr} {da : DE} {p pos : Pos}
theorem se_isi {ce : Expr} {cv : V} {u : Value} {k : Kit} (hK : X.K = G.K) (hi : ∀ c b, k (.own c) = some b → InsOk G.K (G.ca c)) (hk : KitOk G k u) (hcv : ClsV cv u) (hce : PE X ce (tC cv)) (ha : PE X a (LE G W da))
    (hg : Gl X "isinstance") (hm : X.mg "isinstance" = none) (hs1 : starEach [a, ce] X.env = (false, eval a X.env) :: starEach [ce] X.env) (hs2 : starEach [ce] X.env = (false, eval ce X.env) :: starEach [] X.env) (hpl : (backTo pos (starEach [ce] X.env)).any (·.1) = false) :
    PE X (.Call (.Name "isinstance" p) [a, ce] [] pos) (LE G W (cIsi da k)) := by
  refine pe_imp (pe_callB call_isi hg hm PyProof.Rows.boot_isinstance (pa_cons ha (pa_cons hce pa_nil hs2) hs1) (by decide) (by decide) hs1 hpl) ?_
  rintro σ H Q ⟨en, h, P, R, re, rh, t, fin, x⟩
  refine LE.mk re rh t x fun d h1 v H1 t1 tl1 rh1 r1 re1 x1 => ?_
  obtain ⟨t, b, e1, e2, q⟩ := t1
  refine ⟨v, cv, t.v G, u, b, rfl, hcv, by rw [hK]; exact tag_ok (fun c ec => hi c b (by rw [← ec]; exact e2)) rh1 r1 e1, by rw [hK]; exact hk t b e2, fin _ h1 _ H1 q tl1 rh1 rep_bl⟩
end

end DW

/-! DW, part 9: lists' methods, raise, try. -/
namespace DW
open PySem L2 PySem.Spec

/-! ### methods of built-in types -/
abbrev DM := D → List D → DH → KD → Prop
def tyD (T : String) (h : DH) : D → Prop
  | .str _ => T = "str"
  | .rol _ => T = "list"
  | .ref a => match h a with
    | some (.lst _) => T = "list"
    | some (.dK _) => T = "dict"
    | some (.dT _) => T = "dict"
    | _ => False
  | _ => False
def cM (T : String) (f : DM) (o : DE) (t : DA) : DE := fun e h P R => o e h (fun x h1 => tyD T h1 x ∧ t e h1 (fun ds h2 => f x ds h2 P) R) R
def OpM (G : Pg) (f : DM) (r : V → List V → Hp → VK → Prop) : Prop := ∀ H h x ds v vs P Q, RH G H h → Rep G.K H x v → Reps G.K H ds vs → f x ds h P → Fin2 G P H Q → r v vs H Q
theorem tyD_ok {G : Pg} {T : String} {H : Hp} {h : DH} {x : D} {v : V} (rh : RH G H h) (r : Rep G.K H x v) (t : tyD T h x) : tyV G.K T v H := by
  cases x with
  | str z => rw [r.str_]; exact t
  | rol ds =>
    obtain ⟨a, vs, rfl, q, _⟩ := r.rol_
    exact .inl ⟨t, vs, q.sq⟩
  | ref a =>
    rw [r.ref_]
    unfold tyD at t
    simp only at t
    split at t
    · rename_i xs e
      obtain ⟨vs, q, _⟩ := rh.lst e
      exact .inl ⟨t, vs, .inl (.inl q)⟩
    · rename_i xs e
      obtain ⟨vs, q, _⟩ := rh _ _ e
      exact .inr (.inr (.inl ⟨t, .inl ⟨vs, q⟩⟩))
    · rename_i xs e
      obtain ⟨vs, q, _⟩ := rh _ _ e
      exact .inr (.inr (.inl ⟨t, .inr ⟨vs, q⟩⟩))
    · exact t.elim
  | _ => exact t.elim
section
variable {X : Cx} {G : Pg} {W : WX} {o e : Expr} {es : List Expr} {T id : String} {name : Str} {r : V → List V → Hp → VK → Prop} {f : DM} {to : DE} {t : DA} {apos cpos : Pos}
theorem se_m (hK : X.K = G.K) (of : OpM G f r) (pa : PlainAttrs T) (slot : Slot T name id) (hty : typeOf (.builtin id) = pure (.type "method_descriptor")) (hm : MtR X id r) (ho : PE X o (LE G W to)) (ha : PA X (e :: es) (LA G W t))
    (hbase : attributeBase o name X.env (eval o X.env) = eval o X.env)
    (hfew : ((backTo cpos (starEach (e :: es) X.env)).all (fun x => !x.1) && (backToKw cpos (keywordEach [] X.env)).all (fun x => x.1.isSome)
      && decide ((e :: es).length + ([] : List Keyword).length + (if ([] : List Keyword).isEmpty then 0 else 1) < 30)) = true)
    (hline : (apos.endLine == cpos.line) = true) (hs : starEach (e :: es) X.env = (false, eval e X.env) :: starEach es X.env) (hplain : (backTo cpos (starEach es X.env)).any (·.1) = false) :
    PE X (.Call (.Attribute o name apos) (e :: es) [] cpos) (LE G W (cM T f to t)) := by
  refine pe_imp (pe_bm pa slot hty hm ho ha hbase hfew hline hs hplain) ?_
  rintro σ H Q ⟨en, h, P, R, re, rh, tt, fin, x⟩
  refine LE.mk re rh tt x fun d h1 v H1 t1 tl1 rh1 r1 re1 x1 => ?_
  refine ⟨by rw [hK]; exact tyD_ok rh1 r1 t1.1, ?_⟩
  refine LA.mk re1 rh1 t1.2 x1 fun ds h2 vs H2 t2 tl2 rh2 r2 re2 x2 => ?_
  exact of H2 h2 d ds v vs P Q rh2 (Rep.keep tl2 _ _ r1) r2 t2 fun d' h' v' H' p tl => fin d' h' v' H' p (tl1.trans (tl2.trans tl))
theorem se_m0 (hK : X.K = G.K) (of : OpM G f r) (pa : PlainAttrs T) (slot : Slot T name id) (hty : typeOf (.builtin id) = pure (.type "method_descriptor")) (hm : MtR X id r) (ho : PE X o (LE G W to))
    (hbase : attributeBase o name X.env (eval o X.env) = eval o X.env) (hline : (apos.endLine == cpos.line) = true) :
    PE X (.Call (.Attribute o name apos) [] [] cpos) (LE G W (cM T f to cNil)) := by
  refine pe_imp (pe_bm0 pa slot hty hm ho hbase hline) ?_
  rintro σ H Q ⟨en, h, P, R, re, rh, tt, fin, x⟩
  refine LE.mk re rh tt x fun d h1 v H1 t1 tl1 rh1 r1 re1 x1 => ?_
  refine ⟨by rw [hK]; exact tyD_ok rh1 r1 t1.1, ?_⟩
  exact of H1 h1 d [] v [] P Q rh1 r1 reps_nil t1.2 fun d' h' v' H' p tl => fin d' h' v' H' p (tl1.trans tl)
end
def mAppend : DM := fun x ds h P => match x, ds with
  | .ref a, [d] => match h a with
    | some (.lst xs) => xs.length < sizeLine ∧ P .non (up h a (.lst (xs ++ [d])))
    | _ => False
  | _, _ => False
theorem om_append {G : Pg} : OpM G mAppend rAppend := fun H h x ds v vs P Q rh rx rs q f => by
  unfold mAppend at q
  split at q
  · rename_i a d
    split at q
    · rename_i xs e
      obtain ⟨us, s, r⟩ := rh.lst e
      obtain ⟨w, rfl, rw_⟩ := rs.one
      have hf : ∀ u, H a = some u → fixedO u = false := fun u z => by rw [s] at z; cases z; rfl
      refine ⟨a, us, w, rx.ref_, rfl, s, by rw [r.length]; exact q.1, f _ _ _ _ q.2 (TupLe.upd hf) (rh.upd hf ?_) rep_non⟩
      exact ⟨_, upd_same, (Reps.keep (TupLe.upd hf) _ _ r).append (reps_cons (Rep.keep (TupLe.upd hf) _ _ rw_) reps_nil)⟩
    · exact q.elim
  · exact q.elim

/-! ### raise -/
/-- raise C(..), C the own class with this number, without __init__ of its own -/
def sRaise (c : Nat) (t : DA) : DS := fun D e h => t e h (fun ds h1 => ds.length ≤ sizeLine ∧ D.ex ⟨c, none⟩ e h1) fun x h1 => D.ex x e h1
structure RaiseOk (G : Pg) (c : Nat) : Prop where
  ex : ∃ (bmB : List Value) (B newId initId : String), ExcBaseFacts B newId initId bmB ∧ PySem.W.excIn G.K (G.ca c) bmB newId = true
  kp : PySem.W.keepIn G.K (.ref (G.ca c)) = true
  r1 : PySem.W.subIn G.K (.ref (G.ca c)) (.type "BaseException") = some true
  r2 : PySem.W.typeIn G.K (.ref (G.ca c)) = some (.type "type")
theorem pmk_own0 {X : Cx} {C : Addr} {bmB : List Value} {B newId initId : String} {x : Str} {p pos : Pos} (F : ExcBaseFacts B newId initId bmB) (q : PySem.W.excIn X.K C bmB newId = true) (gC : X.mg x = some (.ref C))
    (kC : PySem.W.keepIn X.K (.ref C) = true) (r : Raises X (.ref C)) (hg : Gl X x) (hdb : (x == ("__debug__" : Str)) = false) : L2N.PMk X (.Call (.Name x p) [] [] pos) (fun _ H Q => Q (.ref C) none H) := by
  intro pins s σ H Q I h
  refine wpAny_Call_Name_kw (ld_glob I hg gC ?_ hdb)
  refine PySem.W.callWith_K0 I.kIn kC ?_
  obtain ⟨bm, N, nm, qn, bs, hdct, sn, sub, ab, col, dd, k0, k1, k2, k3, k5, mN, hC, hN, hni, T⟩ := exc_obj I.kIn q
  refine wpAny_call_exc_subT F T hC hN hni (fun h' e hm => ?_) (Nat.zero_le _)
  exact L2N.mk_of I hm r h (I.hok.gone hm.new)
theorem pmk_ownN {X : Cx} {C : Addr} {bmB : List Value} {B newId initId : String} {x : Str} {p pos : Pos} {e : Expr} {es : List Expr} {t : TA} (F : ExcBaseFacts B newId initId bmB) (q : PySem.W.excIn X.K C bmB newId = true) (gC : X.mg x = some (.ref C))
    (kC : PySem.W.keepIn X.K (.ref C) = true) (r : Raises X (.ref C)) (hg : Gl X x) (ha : PA X (e :: es) t) (hdb : (x == ("__debug__" : Str)) = false)
    (he : starEach (e :: es) X.env = (false, eval e X.env) :: starEach es X.env) (hpl : (backTo pos (starEach es X.env)).any (·.1) = false) :
    L2N.PMk X (.Call (.Name x p) (e :: es) [] pos) (fun σ H Q => t σ H fun vs H1 => vs.length ≤ sizeLine ∧ Q (.ref C) none H1) := by
  intro pins s σ H Q I h
  refine wpAny_Call_Name_kw (ld_glob I hg gC ?_ hdb)
  refine PySem.W.callWith_K (h₀ := X.base) I.ok.mod.kin kC (thn (ha.run pos pins s σ H _ I h) fun us s1 ⟨vs, H1, I1, rv, hz, q1⟩ => ⟨I1.kIn, ?_⟩) he hpl
  obtain ⟨bm, N, nm, qn, bs, hdct, sn, sub, ab, col, dd, k0, k1, k2, k3, k5, mN, hC, hN, hni, T⟩ := exc_obj I1.kIn q
  exact wpAny_call_exc_subT F T hC hN hni (fun h' e hm => L2N.mk_of I1 hm r q1 (I1.hok.gone hm.new)) (by rw [List.nil_append, ← rv.length]; exact hz)
section
variable {X : Cx} {G : Pg} {W : WX} {x : Str} {c : Nat} {t : DA} {p pos pos' : Pos} {e : Expr} {es : List Expr}
theorem ss_raise (hc : X.calm = true) (tk : L2N.Takes X W) (hK : X.K = G.K) (ro : RaiseOk G c) (hm : X.mg x = some (.ref (G.ca c))) (hg : Gl X x) (ha : PA X (e :: es) (LA G W t)) (hdb : (x == ("__debug__" : Str)) = false)
    (he : starEach (e :: es) X.env = (false, eval e X.env) :: starEach es X.env) (hpl : (backTo pos (starEach es X.env)).any (·.1) = false) :
    PS X (.Raise (some (.Call (.Name x p) (e :: es) [] pos)) none pos') (LS G W (sRaise c t)) := by
  obtain ⟨bmB, B, newId, initId, F, q⟩ := ro.ex
  refine ps_imp (L2N.ps_raise hc tk (pmk_ownN F (by rw [hK]; exact q) hm (by rw [hK]; exact ro.kp) (raises_own (by rw [hK]; exact ro.r1) (by rw [hK]; exact ro.r2)) hg ha hdb he hpl)) ?_
  rintro D σ H ⟨en, h, D', re, rh, z, l⟩
  refine LA.mk re rh z (l.x re) fun ds h1 vs H1 t1 tl1 rh1 r1 re1 x1 => ?_
  exact ⟨by rw [r1.length]; exact t1.1, l.ex _ _ _ _ _ _ H1 t1.2 tl1 rh1 re1 ⟨rfl, rfl⟩⟩
theorem ss_raise0 (hc : X.calm = true) (tk : L2N.Takes X W) (hK : X.K = G.K) (ro : RaiseOk G c) (hm : X.mg x = some (.ref (G.ca c))) (hg : Gl X x) (hdb : (x == ("__debug__" : Str)) = false) :
    PS X (.Raise (some (.Call (.Name x p) [] [] pos)) none pos') (LS G W (sRaise c cNil)) := by
  obtain ⟨bmB, B, newId, initId, F, q⟩ := ro.ex
  refine ps_imp (L2N.ps_raise hc tk (pmk_own0 F (by rw [hK]; exact q) hm (by rw [hK]; exact ro.kp) (raises_own (by rw [hK]; exact ro.r1) (by rw [hK]; exact ro.r2)) hg hdb)) ?_
  rintro D σ H ⟨en, h, D', re, rh, z, l⟩
  exact l.ex _ _ _ _ _ _ H z.2 (TupLe.refl H) rh re ⟨rfl, rfl⟩
end

/-! ### try -/
/-- a clause: the class, the slot of its name, the suite -/
abbrev Cl := Value × Option Nat × (Addr → Value → Option Addr → TS)
def endsAt (i : Nat) (D : Ends) : Ends := { nx := fun σ' H' => D.nx (σ'.set i none) H', rt := D.rt, bk := fun σ' H' => D.bk (σ'.set i none) H', ct := fun σ' H' => D.ct (σ'.set i none) H' }
def wCl (K : PySem.W.Frag) (Wout : WX) (D : Ends) : List Cl → WX
  | [] => Wout
  | (c, none, ts) :: r => fun cls d σ H => ∃ b, PySem.W.exmOne K cls c = some b ∧ (b = true → ∀ a, H a = none → ts a cls d D σ H) ∧ (b = false → wCl K Wout D r cls d σ H)
  | (c, some i, ts) :: r => fun cls d σ H => ∃ b, PySem.W.exmOne K cls c = some b ∧ (b = true → ∀ a, H a = none → ts a cls d (endsAt i D) (σ.set i (some (.ref a))) H) ∧ (b = false → wCl K Wout D r cls d σ H)
inductive ClsOk (X : Cx) : List ExceptHandler → List Cl → Prop
  | nil : ClsOk X [] []
  | one {x : Str} {c : Value} {ts : Addr → Value → Option Addr → TS} {b₀ : Stmt} {suite : List Stmt} {np pos' : Pos} {hds : List ExceptHandler} {l : List Cl} (hc : Names X x c)
      (hsu : ∀ (a : Addr) (oe : Obj) (cls : Value) (d : Option Addr) (pn : List (Addr × Obj)), L2N.Zn cls d oe → (∃ vs, oe.data = .fields vs) → PSs (X.suite a ((a, oe) :: pn)) (b₀ :: suite) (ts a cls d)) (r : ClsOk X hds l) :
      ClsOk X (.ExceptHandler (some (.Name x np)) none (b₀ :: suite) pos' :: hds) ((c, none, ts) :: l)
  | as {x n : Str} {i : Nat} {c : Value} {ts : Addr → Value → Option Addr → TS} {b₀ : Stmt} {suite : List Stmt} {np pos' : Pos} {hds : List ExceptHandler} {l : List Cl} (hc : Names X x c)
      (hi : X.N[i]? = some n) (hln : X.env.kindOf n = some .local)
      (hsu : ∀ (a : Addr) (oe : Obj) (cls : Value) (d : Option Addr) (pn : List (Addr × Obj)), L2N.Zn cls d oe → (∃ vs, oe.data = .fields vs) → PSs (X.suite a ((a, oe) :: pn)) (b₀ :: suite) (ts a cls d)) (r : ClsOk X hds l) :
      ClsOk X (.ExceptHandler (some (.Name x np)) (some n) (b₀ :: suite) pos' :: hds) ((c, some i, ts) :: l)
/-- an exception of the body, caught: where its object stands, the context beside it -/
structure Lnd (X : Cx) (pins : List (Addr × Obj)) (gr : Heap) (ad : Addr) (cv : Value) (dd : Option Addr) (st : L2.St) (Hh : Hp) (sh : Shared) (hp : Heap) : Prop where
  fly : HandSPX.FlyingZ gr (X.env :: X.outer) ad (L2N.Zn cv dd) hp
  inv : Inv X pins st Hh { sh with heap := hp }
  nl : ad ≠ X.env.locals
  nf : ad ∉ X.fs
  nh : Hh ad = none
section
variable {X : Cx} {pins : List (Addr × Obj)} {gr : Heap} {ad : Addr} {cv : Value} {dd : Option Addr} {st : L2.St} {Hh : Hp} {sh : Shared} {hp : Heap}
theorem Lnd.obj (z : Lnd X pins gr ad cv dd st Hh sh hp) : ∃ ob vs, hp.get? ad = some ob ∧ L2N.Zn cv dd ob ∧ ob.data = .fields vs := by
  obtain ⟨ob, vs, e1, e2, e3⟩ := z.fly.there
  exact ⟨ob, vs, e1, e2, e3⟩
/-- the suite's context at that moment -/
theorem Lnd.within (z : Lnd X pins gr ad cv dd st Hh sh hp) {ob : Obj} {vs : Array Value} (e1 : hp.get? ad = some ob) (e3 : ob.data = .fields vs) : Inv (X.suite ad ((ad, ob) :: (X.pn ++ pins))) [] st Hh { sh with heap := hp } :=
  Inv.suite z.inv e1 e3 z.nh z.nl z.nf
end
section
variable {X : Cx} {body : List Stmt} {h₀ : ExceptHandler} {hds : List ExceptHandler} {l : List Cl} {pos : Pos} {tb : WX → TS} {Wout : WX}
theorem ps_try_cl (hs : X.stack = X.env :: X.outer) (hf : X.env.frame = some X.env.locals) (hN : X.N.Nodup) (tk : L2N.Takes X Wout)
    (hb : ∀ (W : WX) (pn : List (Addr × Obj)) (xe : Value → Shared → Prop), L2N.Takes (X.tr pn xe) W → PassesOwn (model X.prog X.w) X.A X.env xe → PSs (X.tr pn xe) body (tb W))
    (hh : ClsOk X (h₀ :: hds) l) : PS X (.Try body (h₀ :: hds) [] [] pos) (fun D σ H => tb (wCl X.K Wout D l) D σ H) := by
  refine ⟨fun pins s0 st0 Hh0 Dd I0 wish => ?_⟩
  have okx := I0.ok
  have afr : X.A.frames = some (X.env :: X.outer) := okx.frames.trans (by rw [hs])
  refine wpAny_Try_except ?_
  have caught : L2N.Takes (X.tr (X.pn ++ pins) fun ev z1 => wpAny (model X.prog X.w) X.A (noteFrame ev X.env) (fun _ z2 => wpAny (model X.prog X.w) X.A (setFlight ev none) (fun _ z3 =>
      wpAny (model X.prog X.w) X.A (handleBy ev X.env (h₀ :: hds)) (SP X pins Dd) X.xe z3) X.xe z2) X.xe z1) (wCl X.K Wout Dd l) := by
    intro ev z1 thrown
    obtain ⟨ad, gr, sh, ps', st, Hh, cv, dd, rfl, J0, notb, upt, skyz, nh, osz, gens, ww⟩ := thrown
    have Jx := J0.ofTry okx
    rw [show (X.tr _ _).stack = X.env :: X.outer from hs] at skyz
    show wpAny (model X.prog X.w) X.A (noteFrame (.ref ad) X.env) _ _ _
    refine L2N.Sky.land L2N.Zn.steady afr hf skyz fun hp flz upz => ?_
    have at_ : ∀ {hq : Heap}, HandSPX.FlyingZ gr (X.env :: X.outer) ad (L2N.Zn cv dd) hq → z1.heap.UpToSlots hq → Lnd X pins gr ad cv dd st Hh z1 hq := by
      intro hq fq uq
      obtain ⟨ob, vs, e1, e2, e3⟩ := fq.there
      have nofr : ad ∉ frs (X.env :: X.outer) := by
        intro hm
        obtain ⟨_, ob', e', hno⟩ := fq.2.2.1.mem hm
        cases e1.symm.trans e'
        exact hno _ e3
      refine ⟨fq, Jx.landed notb fq.1 (upt.trans uq) osz gens, ?_, ?_, nh⟩
      · rintro rfl
        exact nofr (List.mem_filterMap.mpr ⟨X.env, List.mem_cons_self, hf⟩)
      · intro hm
        obtain ⟨en, h1, h2⟩ := List.mem_filterMap.mp hm
        exact nofr (List.mem_filterMap.mpr ⟨en, List.mem_cons_of_mem _ h1, h2⟩)
    have Lz := at_ flz upz
    obtain ⟨ob, vs, g1, g2, g3⟩ := Lz.obj
    have Sz := Lz.within g1 g3
    have typ : PySem.W.Looks (model X.prog X.w) hp (typeOf (.ref ad)) cv := fun _ _ _ _ kk qq => wpAny_typeOf_ref (kk _ _ g1) (by rw [g2.1]; exact qq)
    have named : ∀ {x : Str} {cl : Value} {np : Pos} {Q : Value → Shared → Prop} {E : Value → Shared → Prop}, Names X x cl → Q cl { z1 with heap := hp } → wpAny (model X.prog X.w) (X.A.mark (some (.ref ad))) (eval (.Name x np) X.env) Q E { z1 with heap := hp } := by
      intro x cl np Q E nm qq
      rcases nm with ⟨n1, n2, n3 | ⟨n3, n4, n5⟩⟩
      · exact ld_glob (X := X.suite ad ((ad, ob) :: (X.pn ++ pins))) Sz n1 n3 qq n2
      · exact ld_blt (X := X.suite ad ((ad, ob) :: (X.pn ++ pins))) Sz n1 n3 n4 qq n5 n2
    have each : ∀ {hs' : List ExceptHandler} {cs : List Cl}, ClsOk X hs' cs → wCl X.K Wout Dd cs cv dd st Hh → wpAny (model X.prog X.w) X.A (handleBy (.ref ad) X.env hs') (SP X pins Dd) X.xe { z1 with heap := hp } := by
      intro hs' cs good
      induction good with
      | nil =>
        intro left
        refine wpAny_handleBy_nil ?_
        obtain ⟨_, _, _, o9, v9, T9, _, _, e9, _, d9, f9, _⟩ := id flz
        unfold PySem.passOn
        refine wpAny_bind (wpAny_field e9 d9 f9 ?_)
        have notNone : ¬ ((Value.ref T9 == Value.none) = true) := by simp
        rw [if_neg notNone]
        have onward : wpAny (model X.prog X.w) X.A (setFlight (.ref ad) X.env.frame) (fun _ z4 => wpAny (model X.prog X.w) X.A (throw (.ref ad) : Sem Flow) (SP X pins Dd) X.xe z4) X.xe { z1 with heap := hp } := by
          rw [hf]
          refine HandSPX.setFlight_upZ flz fun hq held uq => wpAny_throw (tk _ _ ⟨ad, gr, sh, pins, st, Hh, cv, dd, rfl, Jx, notb, (upt.trans upz).trans uq, .inr (.inr ?_), nh, osz, gens, left⟩)
          rw [hs]; exact held
        first
          | exact wpAny_bind (wpAny_pure (wpAny_bind onward))
          | exact wpAny_bind onward
      | @one x cl ts bb rest np pp hs2 cs2 nm run _ ih =>
        intro ⟨hit, e0, yes, no⟩
        refine wpAny_handleBy_cons (codeAny_handlers_test ?_) (by intro zz; cases zz)
        refine named nm ((PySem.W.exm_one (M := model X.prog X.w) Lz.inv.kIn typ e0).here ?_)
        cases hit with
        | false => exact ih (no rfl)
        | true =>
          refine codeAny_handlers_suite (HandSPX.lands_againZ flz fun hq fq uq => ?_)
          have Lq := at_ fq (upz.trans uq)
          obtain ⟨oq, vq, q1, q2, q3⟩ := Lq.obj
          refine wpAny_mono ((run ad oq cv dd (X.pn ++ pins) q2 ⟨_, q3⟩).run [] _ _ Hh _ (Lq.within q1 q3) (yes rfl ad nh)) (fun fl z6 done => ?_) (fun _ _ zz => zz.elim)
          cases fl with
          | next => exact let ⟨_, _, W1, w2⟩ := done; ⟨_, _, W1.unsuite okx, w2⟩
          | brk => exact let ⟨_, _, W1, w2⟩ := done; ⟨_, _, W1.unsuite okx, w2⟩
          | cont => exact let ⟨_, _, W1, w2⟩ := done; ⟨_, _, W1.unsuite okx, w2⟩
          | ret u => exact let ⟨_, _, _, W1, w2, w3⟩ := done; ⟨_, _, _, W1.unsuite okx, w2, w3⟩
      | @as x nn i cl ts bb rest np pp hs2 cs2 nm hi hl run _ ih =>
        intro ⟨hit, e0, yes, no⟩
        refine wpAny_handleBy_cons (codeAny_handlers_test ?_) (by intro zz; cases zz)
        refine named nm ((PySem.W.exm_one (M := model X.prog X.w) Lz.inv.kIn typ e0).here ?_)
        cases hit with
        | false => exact ih (no rfl)
        | true =>
          refine codeAny_handlers_suite_as (HandSPX.lands_againZ flz fun hq fq uq => ?_)
          have Lq := at_ fq (upz.trans uq)
          obtain ⟨oq, vq, q1, q2, q3⟩ := Lq.obj
          refine store_ok (X := X.suite ad ((ad, oq) :: (X.pn ++ pins))) (v := .ref ad) (Lq.within q1 q3) hN hi (.inl hl) rfl (fun z5 W5 => ?_) (.inr hl)
          refine wpAny_mono ((run ad oq cv dd (X.pn ++ pins) q2 ⟨_, q3⟩).run [] z5 _ Hh _ W5 (yes rfl ad nh)) (fun fl z6 done => ?_) (fun _ _ zz => zz.elim)
          -- the name goes
          have after : ∀ {st6 : L2.St} {H6 : Hp} {Q : Shared → Prop}, Inv (X.suite ad ((ad, oq) :: (X.pn ++ pins))) [] st6 H6 z6 → (∀ z7, Inv X pins (st6.set i none) H6 z7 → Q z7) →
              wpAny (model X.prog X.w) X.A (do bindName X.env nn .none; unbindBehindTheSuite X.env nn pp) (fun _ z7 => Q z7) X.xe z6 := fun W6 qq => gone_ok (W6.unsuite okx) hN hi hl qq
          cases fl with
          | next => exact let ⟨_, _, W1, w2⟩ := done; after W1 fun _ W7 => ⟨_, _, W7, w2⟩
          | brk => exact let ⟨_, _, W1, w2⟩ := done; after W1 fun _ W7 => ⟨_, _, W7, w2⟩
          | cont => exact let ⟨_, _, W1, w2⟩ := done; after W1 fun _ W7 => ⟨_, _, W7, w2⟩
          | ret u => exact let ⟨_, _, _, W1, w2, w3⟩ := done; after W1 fun _ W7 => ⟨_, _, _, W7, w2, w3⟩
    exact each hh ww
  have bodyrun := (hb _ _ _ caught PassesOwn.looking).run [] s0 st0 Hh0 Dd (I0.toTry _) wish
  refine wpAny_mono bodyrun (fun fl z1 done => ?_) (fun _ _ zz => zz)
  cases fl with
  | next => exact let ⟨_, _, W1, w2⟩ := done; wpAny_execs_nil ⟨_, _, W1.ofTry okx, w2⟩
  | brk => exact let ⟨_, _, W1, w2⟩ := done; ⟨_, _, W1.ofTry okx, w2⟩
  | cont => exact let ⟨_, _, W1, w2⟩ := done; ⟨_, _, W1.ofTry okx, w2⟩
  | ret u => exact let ⟨_, _, _, W1, w2, w3⟩ := done; ⟨_, _, _, W1.ofTry okx, w2, w3⟩
end
/-- at D: the class as a test of own classes' numbers, the slot of the name, the suite -/
abbrev DCl := (Nat → Option Bool) × Option Nat × (Addr → DX → DS)
def dEndsAt (i : Nat) (D : DEnds) : DEnds := { nx := fun e h => D.nx (e.set i none) h, rt := D.rt, bk := fun e h => D.bk (e.set i none) h, ct := fun e h => D.ct (e.set i none) h }
def noEx (D : DEnds) : DEnds := { nx := D.nx, rt := D.rt, bk := D.bk, ct := D.ct }
def exCl (D : DEnds) : List DCl → DX → DSt → DH → Prop
  | [] => D.ex
  | (k, none, s) :: r => fun x e h => ∃ b, k x.c = some b ∧ (b = true → ∀ a, h a = none → s a x (noEx D) e h) ∧ (b = false → exCl D r x e h)
  | (k, some i, s) :: r => fun x e h => ∃ b, k x.c = some b ∧ (b = true → ∀ a, h a = none → s a x (dEndsAt i D) (e.set i (some (.ref a))) h) ∧ (b = false → exCl D r x e h)
def sTry (b : DS) (l : List DCl) : DS := fun D e h => b { D with ex := exCl D l } e h
/-- a clause's reading, its class c -/
structure ClD (G : Pg) (X : Cx) (hd : ExceptHandler) (q : DCl) : Prop where
  go : ∃ (x : Str) (c : Value) (b₀ : Stmt) (suite : List Stmt) (np pos' : Pos) (n : Option Str), hd = .ExceptHandler (some (.Name x np)) n (b₀ :: suite) pos' ∧ Names X x c ∧ (∀ m b, q.1 m = some b → PySem.W.exmOne G.K (.ref (G.ca m)) c = some b) ∧
    (match n, q.2.1 with
      | none, none => True
      | some n, some i => X.N[i]? = some n ∧ X.env.kindOf n = some .local
      | _, _ => False) ∧
    ∀ (a : Addr) (oe : Obj) (xx : DX) (d : Option Addr) (pn : List (Addr × Obj)), L2N.Zn (.ref (G.ca xx.c)) d oe → (xx.fs = none → d = none) → (∃ vs, oe.data = .fields vs) → PSs (X.suite a ((a, oe) :: pn)) (b₀ :: suite) (LS G (fun _ _ _ _ => False) (q.2.2 a xx))
theorem ss_try {X : Cx} {G : Pg} {W : WX} {body : List Stmt} {h₀ : ExceptHandler} {hds : List ExceptHandler} {pos : Pos} {tb : DS} {q₀ : DCl} {qs : List DCl} (hK : X.K = G.K) (hs : X.stack = X.env :: X.outer) (hf : X.env.frame = some X.env.locals) (hN : X.N.Nodup) (tk : L2N.Takes X W)
    (hb : ∀ (W : WX) (pn : List (Addr × Obj)) (xe : Value → Shared → Prop), L2N.Takes (X.tr pn xe) W → PassesOwn (model X.prog X.w) X.A X.env xe → PSs (X.tr pn xe) body (LS G W tb))
    (hh : Paired (ClD G X) (h₀ :: hds) (q₀ :: qs)) : PS X (.Try body (h₀ :: hds) [] [] pos) (LS G W (sTry tb (q₀ :: qs))) := by
  -- the readings of the clauses
  have mk : ∀ {hd : List ExceptHandler} {qs : List DCl}, Paired (ClD G X) hd qs → ∃ l : List Cl, ClsOk X hd l ∧ ∀ (D : Ends) (D' : DEnds) (H0 H : Hp) (xx : DX) (e : DSt) (h : DH) (cls : Value) (d : Option Addr) (σ : L2.St), LEnds G W D D' H0 → TupLe H0 H → RH G H h → RE G.K H e σ → RX G H xx cls d →
      exCl D' qs xx e h → wCl X.K W D l cls d σ H := by
    intro hd qs hp
    induction hp with
    | nil => exact ⟨[], .nil, fun D D' H0 H xx e h cls d σ l tl rh re rx q => l.ex xx e h cls d σ H q tl rh re rx⟩
    | @cons hd q hds qs hq r ih =>
      obtain ⟨l, ok, ih⟩ := ih
      obtain ⟨x, c, b₀, suite, np, pos', n, rfl, hn, hk, hsl, hsu⟩ := hq.go
      obtain ⟨k, o, s⟩ := q
      have suite_ok : ∀ (a : Addr) (oe : Obj) (cls : Value) (d : Option Addr) (pn : List (Addr × Obj)), L2N.Zn cls d oe → (∃ vs, oe.data = .fields vs) → PSs (X.suite a ((a, oe) :: pn)) (b₀ :: suite)
          (fun D σ H => ∃ xx : DX, cls = .ref (G.ca xx.c) ∧ (xx.fs = none → d = none) ∧ LS G (fun _ _ _ _ => False) (s a xx) D σ H) := by
        intro a oe cls d pn hz hf
        refine ⟨fun pins st σ H D I ⟨xx, e1, e2, z⟩ => ?_⟩
        subst e1
        exact (hsu a oe xx d pn hz e2 hf).run pins st σ H D I z
      have rxn : ∀ {H : Hp} {xx : DX} {cls : Value} {d : Option Addr}, RX G H xx cls d → cls = .ref (G.ca xx.c) ∧ (xx.fs = none → d = none) := fun {H xx cls d} rx => ⟨rx.1, fun z => by
        have := rx.2
        rw [z] at this
        exact this⟩
      cases n with
      | none =>
        cases o with
        | some i => exact hsl.elim
        | none =>
          refine ⟨_, .one hn suite_ok ok, fun D D' H0 H xx e h cls d σ l tl rh re rx q => ?_⟩
          obtain ⟨b, eb, yes, no⟩ := q
          refine ⟨b, by rw [rx.1, hK]; exact hk _ _ eb, fun y a ha => ?_, fun y => ih D D' H0 H xx e h cls d σ l tl rh re rx (no y)⟩
          refine ⟨xx, (rxn rx).1, (rxn rx).2, e, h, noEx D', re, rh, yes y a (rh.fresh ha), ?_⟩
          exact ⟨fun e' h' σ' H' z t' => l.nx e' h' σ' H' z (tl.trans t'), fun d h' v H' z t' => l.rt d h' v H' z (tl.trans t'), fun e' h' σ' H' z t' => l.bk e' h' σ' H' z (tl.trans t'), fun e' h' σ' H' z t' => l.ct e' h' σ' H' z (tl.trans t'), fun _ _ _ _ _ _ _ z => z.elim⟩
      | some n =>
        cases o with
        | none => exact hsl.elim
        | some i =>
          refine ⟨_, .as hn hsl.1 hsl.2 suite_ok ok, fun D D' H0 H xx e h cls d σ l tl rh re rx q => ?_⟩
          obtain ⟨b, eb, yes, no⟩ := q
          refine ⟨b, by rw [rx.1, hK]; exact hk _ _ eb, fun y a ha => ?_, fun y => ih D D' H0 H xx e h cls d σ l tl rh re rx (no y)⟩
          refine ⟨xx, (rxn rx).1, (rxn rx).2, _, h, dEndsAt i D', re.set rep_ref, rh, yes y a (rh.fresh ha), ?_⟩
          exact ⟨fun e' h' σ' H' z t' rh' re' => l.nx _ h' _ H' z (tl.trans t') rh' re'.unset, fun d h' v H' z t' => l.rt d h' v H' z (tl.trans t'), fun e' h' σ' H' z t' rh' re' => l.bk _ h' _ H' z (tl.trans t') rh' re'.unset, fun e' h' σ' H' z t' rh' re' => l.ct _ h' _ H' z (tl.trans t') rh' re'.unset, fun _ _ _ _ _ _ _ z => z.elim⟩
  obtain ⟨l, ok, hl⟩ := mk hh
  refine ps_imp (ps_try_cl hs hf hN tk hb ok) ?_
  rintro D σ H ⟨e, h, D', re, rh, z, le⟩
  refine ⟨e, h, _, re, rh, z, ⟨le.nx, le.rt, le.bk, le.ct, fun xx e' h' cls dd σ' H' q tl rh' re' rx => ?_⟩⟩
  exact hl D D' H H' xx e' h' cls dd σ' le tl rh' re' rx q
/-! isinstance(e, C) in a suite -/
def cIsiX (da : DE) (a : Addr) (o : Option Bool) : DE := fun e h P R => da e h (fun x h1 => (match x with
  | .ref b => b = a
  | _ => False) ∧ ∃ b, o = some b ∧ P (.bl b) h1) R
theorem se_isiX {X : Cx} {G : Pg} {W : WX} {ae ce : Expr} {da : DE} {p pos : Pos} {a DC : Addr} {cv : V} {u : Value} {o : Option Bool} (hcall : CallR X (.builtin "isinstance") (rIsE X.K DC a)) (hk : ∀ b, o = some b → PySem.W.kitOne X.K (.ref DC) u = some b) (hcv : ∀ z, RelV cv z → z = u) (hce : PE X ce (tC cv)) (ha : PE X ae (LE G W da))
    (hg : Gl X "isinstance") (hm : X.mg "isinstance" = none) (hs1 : starEach [ae, ce] X.env = (false, eval ae X.env) :: starEach [ce] X.env) (hs2 : starEach [ce] X.env = (false, eval ce X.env) :: starEach [] X.env) (hpl : (backTo pos (starEach [ce] X.env)).any (·.1) = false) :
    PE X (.Call (.Name "isinstance" p) [ae, ce] [] pos) (LE G W (cIsiX da a o)) := by
  refine pe_imp (pe_callB hcall hg hm PyProof.Rows.boot_isinstance (pa_cons ha (pa_cons hce pa_nil hs2) hs1) (by decide) (by decide) hs1 hpl) ?_
  rintro σ H Q ⟨en, h, P, R, re, rh, t, fin, x⟩
  refine LE.mk re rh t x fun d h1 v H1 t1 tl1 rh1 r1 re1 x1 => ?_
  obtain ⟨e1, b, e2, q⟩ := t1
  cases d with
  | ref a' =>
    have e1' : a' = a := e1
    subst e1'
    exact ⟨cv, u, b, by rw [r1.ref_], hcv, hk b e2, fin _ h1 _ H1 q tl1 rh1 rep_bl⟩
  | _ => exact e1.elim
/-! ### dicts: displays, copies, get; len(set(xs)) -/
def cDict0 : DE := fun _ h P _ => (∀ p, h p = none → P (.ref p) (up h p (.dK []))) ∨ ∀ p, h p = none → P (.ref p) (up h p (.dT []))
theorem se_dict0 {X : Cx} {G : Pg} {W : WX} {pos : Pos} : PE X (.Dict [] [] pos) (LE G W cDict0) := ⟨fun pins s σ H Q I q => by
  obtain ⟨e, h, P, R, re, rh, t, fin, x⟩ := q
  rcases t with t | t
  · exact pe_dnewK.run pins s σ H Q I fun p hp => fin _ _ _ _ (t p (rh.fresh hp)) (TupLe.new hp) (rh.upd (fun z e => by rw [hp] at e; cases e) ⟨[], upd_same, rfl⟩) rep_ref
  · exact pe_dnewT.run pins s σ H Q I fun p hp => fin _ _ _ _ (t p (rh.fresh hp)) (TupLe.new hp) (rh.upd (fun z e => by rw [hp] at e; cases e) ⟨[], upd_same, rfl⟩) rep_ref⟩
def bDict1 : DB := fun ds h P => match ds with
  | [.ref a] => match h a with
    | some (.dK kvs) => ∀ p, h p = none → P (.ref p) (up h p (.dK kvs))
    | _ => False
  | _ => False
theorem ob_dict {G : Pg} : OpB G bDict1 (fun xs H Q => ∃ (a : Addr) (kvs : List (Key × V)), xs = [.ref a] ∧ Rd H a (.dK kvs) ∧ ∀ p, H p = none → Q (.ref p) (upd H p (.dK kvs))) := fun H h ds vs P Q rh r q f => by
  unfold bDict1 at q
  split at q
  · rename_i a
    obtain ⟨v, rfl, p⟩ := r.one
    split at q
    · rename_i kvs ea
      obtain ⟨ws, e1, r1⟩ := rh _ _ ea
      exact ⟨a, ws, by rw [p.ref_], .inl e1, fun b hb => f _ _ _ _ (q b (rh.fresh hb)) (TupLe.new hb) (rh.upd (fun z e => by rw [hb] at e; cases e) ⟨ws, upd_same, r1.keep (TupLe.new hb)⟩) rep_ref⟩
    · exact q.elim
  · exact q.elim
def rGet : V → List V → Hp → VK → Prop := fun x xs H Q => (∃ a y o, x = .ref a ∧ xs = [y] ∧ DGet H a y o ∧ Q (o.getD .non) H) ∨ ∃ a y z o, x = .ref a ∧ xs = [y, z] ∧ DGet H a y o ∧ Q (o.getD z) H
theorem mt_get {X : Cx} (hu : X.A.units + 1 < cLine) : MtR X "dict.get" rGet := by
  intro pins s σ H x xs v us Q I rx rs q
  rcases q with ⟨a, y, o, rfl, rfl, g, q⟩ | ⟨a, y, z, o, rfl, rfl, g, q⟩
  · cases rx
    cases rs with
    | cons ry rt =>
      cases rt
      exact d_get1 hu I g ry fun w' s' I' r' => ⟨_, H, I', r', q⟩
  · cases rx
    cases rs with
    | cons ry rt =>
      cases rt with
      | cons rz rt =>
        cases rt
        exact d_get2 hu I g ry rz fun w' s' I' r' => ⟨_, H, I', r', q⟩
def mGet : DM := fun x ds h P => match x, ds with
  | .ref a, [k] => dGet h a k fun o => P (o.getD .non) h
  | .ref a, [k, d] => dGet h a k fun o => P (o.getD d) h
  | _, _ => False
theorem om_get {G : Pg} : OpM G mGet rGet := fun H h x ds v vs P Q rh rx rs q f => by
  unfold mGet at q
  split at q
  · rename_i a k
    obtain ⟨w, rfl, rw_⟩ := rs.one
    obtain ⟨o, ov, g, z, e1, e2⟩ := dGet_ok rh rw_ q
    refine .inl ⟨a, w, ov, rx.ref_, rfl, g, f.val rh z ?_⟩
    cases o with
    | none => rw [e2 rfl]; exact rep_non
    | some d =>
      obtain ⟨u, e3, r⟩ := e1 d rfl
      rw [e3]; exact r
  · rename_i a k d0
    obtain ⟨w, us, rfl, rw_, rs'⟩ := rs.cons_
    obtain ⟨u0, rfl, ru⟩ := rs'.one
    obtain ⟨o, ov, g, z, e1, e2⟩ := dGet_ok rh rw_ q
    refine .inr ⟨a, w, u0, ov, rx.ref_, rfl, g, f.val rh z ?_⟩
    cases o with
    | none => rw [e2 rfl]; exact ru
    | some d =>
      obtain ⟨u, e3, r⟩ := e1 d rfl
      rw [e3]; exact r
  · exact q.elim
/-- how many different ones -/
def ddN (ns : List Int) : Nat := (PyProof.Rows.firstMet (fun i => ns.getD i 0) ns.length).length
def cLenSet (a : DE) : DE := fun e h P R => a e h (fun x h1 => ∃ xs ns, lstOf h1 x = some xs ∧ intsD xs = some ns ∧ ns.length < 63 ∧ P (.int (ddN ns : Nat)) h1) R
def tLenS (K : PySem.W.Frag) (ta : TE) : TE := fun σ H Q => ta σ H fun x H1 => ∃ (l : Addr) (ns : List Int), x = V.ref l ∧ SqL K H1 l (ns.map V.int) ∧ ns.length < 63 ∧ Q (.int (ddN ns : Nat)) H1
theorem pe_lenS {X : Cx} {a : Expr} {ta : TE} {p p2 q pos : Pos} (hc : X.calm = true) (hg : Gl X "len") (hm : X.mg "len" = none) (hg2 : Gl X "set") (hm2 : X.mg "set" = none) (ha : PE X a ta)
    (na : starEach [a] X.env = (false, eval a X.env) :: starEach [] X.env) : PE X (.Call (.Name "len" p) [.Call (.Name "set" p2) [a] [] q] [] pos) (tLenS X.K ta) := ⟨fun pins s σ H Q I w => by
  refine PyProof.Rows.Call_ (ld_blt I hg hm PySem.boot_len (PyProof.Rows.callWith_builtin1 (PyProof.Rows.args_cons ?_ rfl) rfl rfl))
  refine PyProof.Rows.Call_ (ld_blt I hg2 hm2 PyProof.Rows.boot_set (PyProof.Rows.callWith_type1 (PyProof.Rows.args_cons (thn (ha.run pins s σ H _ I w) fun v s1 z => PyProof.Rows.args_nil ?_) na) na rfl))
  obtain ⟨x, H1, I1, r1, l, ns, rfl, hq, h1, q1⟩ := z
  cases r1
  obtain ⟨its, r, pl, hz⟩ := I1.list hq
  have hl : its.toArray.size = ns.length := by rw [List.size_toArray, ← r.length, List.length_map]
  refine PySem.call_set_list (I1.ok.hd hc) pl.isList (ns := ns) (by simpa using r.ints) (by unfold scanBound; omega) fun h' tk hS hk => PyProof.Rows.args_nil ?_
  rw [hl] at hS
  obtain ⟨o, es, ep, t, ho, hex, hd, _, _, _, hf, hn⟩ := hS
  have le : ddN ns ≤ ns.length := PyProof.Rows.firstMet_length_le _ _
  have I2 : Inv X pins σ H1 { s1 with heap := h', toks := tk } := I1.kept fun b o e => hk b o (Heap.lt_size e) e
  exact call_len_set ho hex hd hf (by rw [hn]; show ((ddN ns : Nat) : Int) < 2 ^ 63; omega) ⟨.int (ddN ns : Nat), H1, I2.tok _, ⟨_, by rw [hn]; rfl⟩, q1⟩⟩
/-! ### x == {}, x != {} -/
def doEq0 (v : Bool) : DO := fun x y h P => match x, y with
  | .ref a, .ref b => (h a = some (.dK []) ∧ h b = some (.dK [])) ∧ P (.bl v) h
  | _, _ => False
theorem od_eq0 {G : Pg} : OpD G (doEq0 true) rEqDA := fun H h x y v u P Q rh rx ry p f => by
  cases x <;> cases y <;> first | exact p.elim | skip
  rename_i a b
  obtain ⟨⟨ea, eb⟩, q⟩ := p
  obtain ⟨ws, e1, r1⟩ := rh _ _ ea
  obtain ⟨ws', e2, r2⟩ := rh _ _ eb
  rw [show ws = [] from r1] at e1
  rw [show ws' = [] from r2] at e2
  exact ⟨a, b, [], [], rx.ref_, ry.ref_, e1, e2, rfl, (fun _ z => by cases z), f.val rh q rep_bl⟩
theorem od_ne0 {G : Pg} : OpD G (doEq0 false) rNeDA := fun H h x y v u P Q rh rx ry p f => by
  cases x <;> cases y <;> first | exact p.elim | skip
  rename_i a b
  obtain ⟨⟨ea, eb⟩, q⟩ := p
  obtain ⟨ws, e1, r1⟩ := rh _ _ ea
  obtain ⟨ws', e2, r2⟩ := rh _ _ eb
  rw [show ws = [] from r1] at e1
  rw [show ws' = [] from r2] at e2
  exact ⟨a, b, [], [], rx.ref_, ry.ref_, e1, e2, rfl, (fun _ z => by cases z), f.val rh q rep_bl⟩
/-! ### a dict that a loop walks -/
def unE (d : Addr) (f u : MO) (E : DEnds) : DEnds where
  nx := fun e h => h d = some f ∧ E.nx e (up h d u)
  rt := fun x h => h d = some f ∧ E.rt x (up h d u)
  bk := fun e h => h d = some f ∧ E.bk e (up h d u)
  ct := fun e h => h d = some f ∧ E.ct e (up h d u)
  ex := E.ex
/-- the statement as it is, or with a dict locked -/
def sLk (t : DS) : DS := fun E e h => t E e h ∨ (∃ d kvs, h d = some (.dK kvs) ∧ ∀ o ws, t (unE d (.fK kvs o ws) (.dK kvs) E) e (up h d (.fK kvs o ws))) ∨
  ∃ d kvs, h d = some (.dT kvs) ∧ ∀ o ws, t (unE d (.fT kvs o ws) (.dT kvs) E) e (up h d (.fT kvs o ws))
section
variable {X : Cx} {G : Pg} {W : WX} {st : Stmt} {t : DS}
theorem lk_ends {D : Ends} {D' : DEnds} {H : Hp} {d : Addr} {od : Obj} {u : HO} {f m : MO} (hd : H d = some u) (hu : fixedO u = false) (hf : fixedO (.frz od u) = false)
    (go : ∀ H' h', RH G H' h' → h' d = some f → H' d = some (.frz od u) ∧ RH G (L2.upd H' d u) (up h' d m)) (le : LEnds G W D D' H) :
    LEnds G W ⟨fun σ' H' => H' d = some (.frz od u) ∧ D.nx σ' (L2.upd H' d u), fun v H' => H' d = some (.frz od u) ∧ D.rt v (L2.upd H' d u), fun σ' H' => H' d = some (.frz od u) ∧ D.bk σ' (L2.upd H' d u), fun σ' H' => H' d = some (.frz od u) ∧ D.ct σ' (L2.upd H' d u)⟩ (unE d f m D') (L2.upd H d (.frz od u)) := by
  have t0 : TupLe H (L2.upd H d (.frz od u)) := TupLe.upd fun z e => by rw [hd] at e; cases e; exact hu
  have t1 : ∀ {H'}, H' d = some (.frz od u) → TupLe H' (L2.upd H' d u) := fun {H'} e => TupLe.upd fun z e' => by rw [e] at e'; cases e'; exact hf
  refine ⟨fun e' h' σ' H' z tl rh re => ?_, fun x h' v H' z tl rh r => ?_, fun e' h' σ' H' z tl rh re => ?_, fun e' h' σ' H' z tl rh re => ?_, fun x e' h' cls dd σ' H' z tl => le.ex x e' h' cls dd σ' H' z (t0.trans tl)⟩
  · obtain ⟨e1, r1⟩ := go H' h' rh z.1
    exact ⟨e1, le.nx _ _ _ _ z.2 (t0.trans (tl.trans (t1 e1))) r1 (re.keep (t1 e1))⟩
  · obtain ⟨e1, r1⟩ := go H' h' rh z.1
    exact ⟨e1, le.rt _ _ _ _ z.2 (t0.trans (tl.trans (t1 e1))) r1 (Rep.keep (t1 e1) _ _ r)⟩
  · obtain ⟨e1, r1⟩ := go H' h' rh z.1
    exact ⟨e1, le.bk _ _ _ _ z.2 (t0.trans (tl.trans (t1 e1))) r1 (re.keep (t1 e1))⟩
  · obtain ⟨e1, r1⟩ := go H' h' rh z.1
    exact ⟨e1, le.ct _ _ _ _ z.2 (t0.trans (tl.trans (t1 e1))) r1 (re.keep (t1 e1))⟩
theorem ss_lk (h : PS X st (LS G W t)) : PS X st (LS G W (sLk t)) := by
  refine ⟨fun pins s σ H D I q => ?_⟩
  obtain ⟨e, dh, D', re, rh, z, le⟩ := q
  rcases z with z | ⟨d, kvs, hd, z⟩ | ⟨d, kvs, hd, z⟩
  · exact h.run pins s σ H D I ⟨e, dh, D', re, rh, z, le⟩
  · obtain ⟨ws, e1, r1⟩ := rh _ _ hd
    refine (ps_lock h).run pins s σ H D I ⟨d, .dK ws, e1, trivial, fun od => ?_⟩
    have t0 : TupLe H (L2.upd H d (.frz od (.dK ws))) := TupLe.upd fun z e => by rw [e1] at e; cases e; rfl
    refine ⟨e, up dh d (.fK kvs od ws), _, re.keep t0, rh.upd (fun z e => by rw [e1] at e; cases e; rfl) ⟨upd_same, r1.keep t0⟩, z od ws, lk_ends e1 rfl rfl (fun H' h' rh' e2 => ?_) le⟩
    obtain ⟨e3, r3⟩ := rh' _ _ e2
    have hf : ∀ z, H' d = some z → fixedO z = false := fun z e => by rw [e3] at e; cases e; rfl
    exact ⟨e3, rh'.upd hf ⟨ws, upd_same, r3.keep (TupLe.upd hf)⟩⟩
  · obtain ⟨ws, e1, r1⟩ := rh _ _ hd
    refine (ps_lock h).run pins s σ H D I ⟨d, .dT ws, e1, trivial, fun od => ?_⟩
    have t0 : TupLe H (L2.upd H d (.frz od (.dT ws))) := TupLe.upd fun z e => by rw [e1] at e; cases e; rfl
    refine ⟨e, up dh d (.fT kvs od ws), _, re.keep t0, rh.upd (fun z e => by rw [e1] at e; cases e; rfl) ⟨upd_same, r1.keep t0⟩, z od ws, lk_ends e1 rfl rfl (fun H' h' rh' e2 => ?_) le⟩
    obtain ⟨e3, r3⟩ := rh' _ _ e2
    have hf : ∀ z, H' d = some z → fixedO z = false := fun z e => by rw [e3] at e; cases e; rfl
    exact ⟨e3, rh'.upd hf ⟨ws, upd_same, r3.keep (TupLe.upd hf)⟩⟩
end
/-! ### o.f += a, o.f -= a (ints) -/
def sAugF (g : Int → Int → Int) (o a : DE) (ix : List (Nat × Nat)) : DS := fun D e h => o e h (fun x h1 => match x with
  | .ref p => ∃ c fs i m, h1 p = some (.ins c fs) ∧ ix.lookup c = some i ∧ fs[i]? = some (.int m) ∧ a e h1 (fun y h2 => ∃ n fs', y = .int n ∧ h2 p = some (.ins c fs') ∧ i < fs'.length ∧ D.nx e (up h2 p (.ins c (fs'.set i (.int (g m n)))))) fun x h2 => D.ex x e h2
  | _ => False) fun x h1 => D.ex x e h1
/-- del o[i] of a list -/
def sDelL (o i : DE) : DS := fun D e h => o e h (fun x h1 => i e h1 (fun y h2 => match x, y with
  | .ref p, .int j => ∃ xs k, h2 p = some (.lst xs) ∧ -(2 ^ 63) ≤ j ∧ j < 2 ^ 63 ∧ seqIndex? j xs.length = some k ∧ D.nx e (up h2 p (.lst (xs.eraseIdx k)))
  | _, _ => False) fun x h2 => D.ex x e h2) fun x h1 => D.ex x e h1
theorem Reps.erase {K : PySem.W.Frag} {H : Hp} : ∀ {ds : List D} {vs : List V}, Reps K H ds vs → ∀ k : Nat, Reps K H (ds.eraseIdx k) (vs.eraseIdx k)
  | [], vs, r, k => by rw [r.nil_]; exact reps_nil
  | d :: ds, vs, r, k => by
    obtain ⟨v, us, rfl, p, q⟩ := r.cons_
    cases k with
    | zero => exact q
    | succ k => exact reps_cons p (q.erase k)
section
variable {X : Cx} {G : Pg} {W : WX} {a o i : Expr} {da db : DE} {pos tpos : Pos}
theorem ss_augF {op : Operator} {g : Int → Int → Int} {rd : V → V → Hp → VK → Prop} {f : Str} {ix : List (Nat × Nat)} (hop : InOp X op rd) (hrd : ∀ i j H Q, Q (.int (g i j)) H → rd (.int i) (.int j) H Q) (hK : X.K = G.K) (hf : FldOk G f ix) (hz : ∀ c, (G.fn c).length < 1000)
    (ho : PE X o (LE G W db)) (ha : PE X a (LE G W da)) : PS X (.AugAssign (.Attribute o f tpos) op a pos) (LS G W (sAugF g db da ix)) := ps_imp (ps_fldaug ho ha hop) (by
  rintro D σ H ⟨e, h, D', re, rh, z, l⟩
  refine LE.mk re rh z (l.x re) fun x h1 v H1 t1 tl1 rh1 r1 re1 x1 => ?_
  cases x with
  | ref p =>
    obtain ⟨c, fs, i, m, e1, e2, e3, t1⟩ := t1
    obtain ⟨dx, vs, k1, k2, k3⟩ := rh1 _ _ e1
    obtain ⟨hc, hn, hi, nd⟩ := hf c i e2
    obtain ⟨w, k4, k5⟩ := k2.get e3
    refine ⟨p, G.ca c, dx, _, w, r1.ref_, k1, by rw [hK]; exact hc, by rw [hK]; exact hn, zip_look nd hi k4, ?_⟩
    rw [k5.int_]
    refine LE.mk re1 rh1 t1 ((l.later tl1).x re1) fun y h2 u H2 t2 tl2 rh2 r2 re2 x2 => ?_
    obtain ⟨n, fs', rfl, e4, hlt, q⟩ := t2
    obtain ⟨dx', vs', j1, j2, j3⟩ := rh2 _ _ e4
    rw [r2.int_]
    have lv := j2.length
    refine hrd m n H2 _ ⟨dx', _, j1, by rw [List.length_zip]; have := hz c; omega, ?_⟩
    have tl3 : TupLe H2 (upd H2 p (.ins (G.ca c) dx' (putF f (.int (g m n)) ((G.fn c).zip vs')))) := TupLe.upd fun u q => by rw [j1] at q; cases q; rfl
    refine l.nx e _ σ _ q (tl1.trans (tl2.trans tl3)) (rh2.upd (fun u q => by rw [j1] at q; cases q; rfl) ?_) (re2.keep tl3)
    refine ⟨dx', vs'.set i (.int (g m n)), ?_, (Reps.keep tl3 _ _ j2).set i rep_int, by rw [List.length_set]; exact j3⟩
    rw [upd_same, zip_put nd hi (by rw [lv]; exact hlt)]
  | _ => exact t1.elim)
theorem ss_delL (ho : PE X o (LE G W db)) (hi : PE X i (LE G W da)) : PS X (.Delete [.Subscript o i tpos] pos) (LS G W (sDelL db da)) := ps_imp (ps_delL ho hi) (by
  rintro D σ H ⟨e, h, D', re, rh, z, l⟩
  refine LE.mk re rh z (l.x re) fun x h1 v H1 t1 tl1 rh1 r1 re1 x1 => ?_
  refine LE.mk re1 rh1 t1 ((l.later tl1).x re1) fun y h2 u H2 t2 tl2 rh2 r2 re2 x2 => ?_
  cases x with
  | ref p =>
    cases y with
    | int j =>
      obtain ⟨xs, k, e1, b1, b2, hk, q⟩ := t2
      obtain ⟨vs, s, r⟩ := rh2.lst e1
      have hf : ∀ z, H2 p = some z → fixedO z = false := fun z q => by rw [s] at q; cases q; rfl
      refine ⟨p, vs, j, k, (Rep.keep tl2 _ _ r1).ref_, r2.int_, s, b1, b2, by rw [r.length]; exact hk, ?_⟩
      exact l.nx e _ σ _ q (tl1.trans (tl2.trans (TupLe.upd hf))) (rh2.upd hf ⟨_, upd_same, (Reps.keep (TupLe.upd hf) _ _ r).erase k⟩) (re2.keep (TupLe.upd hf))
    | _ => exact t2.elim
  | _ => exact t2.elim)
end
/-! ### extend, pop -/
def mExtend : DM := fun x ds h P => match x, ds with
  | .ref a, [.ref b] => ∃ xs ys, h a = some (.lst xs) ∧ h b = some (.lst ys) ∧ xs.length + ys.length ≤ sizeLine ∧ P .non (up h a (.lst (xs ++ ys)))
  | _, _ => False
theorem om_extend {G : Pg} : OpM G mExtend rExtend := fun H h x ds v vs P Q rh rx rs q f => by
  unfold mExtend at q
  split at q
  · rename_i a b
    obtain ⟨xs, ys, ea, eb, hl, q⟩ := q
    obtain ⟨us, s, r⟩ := rh.lst ea
    obtain ⟨ws, s2, r2⟩ := rh.lst eb
    obtain ⟨w, rfl, rw_⟩ := rs.one
    have hf : ∀ u, H a = some u → fixedO u = false := fun u z => by rw [s] at z; cases z; rfl
    refine ⟨a, b, us, ws, rx.ref_, by rw [rw_.ref_], s, s2, by rw [r.length, r2.length]; exact hl, f _ _ _ _ q (TupLe.upd hf) (rh.upd hf ?_) rep_non⟩
    exact ⟨_, upd_same, (Reps.keep (TupLe.upd hf) _ _ r).append (Reps.keep (TupLe.upd hf) _ _ r2)⟩
  · exact q.elim
/-- xs.pop(), xs.pop(i) -/
def mPopL : DM := fun x ds h P => match x, ds with
  | .ref a, [] => ∃ xs y, h a = some (.lst xs) ∧ xs[xs.length - 1]? = some y ∧ P y (up h a (.lst xs.dropLast))
  | .ref a, [.int i] => ∃ xs k y, h a = some (.lst xs) ∧ -(2 ^ 63) ≤ i ∧ i < 2 ^ 63 ∧ seqIndex? i xs.length = some k ∧ xs[k]? = some y ∧ P y (up h a (.lst (xs.eraseIdx k)))
  | _, _ => False
def rPopLA : V → List V → Hp → VK → Prop := fun x vs H Q => rPop x vs H Q ∨ rPopAt x vs H Q
theorem mt_popLA {X : Cx} : MtR X "list.pop" rPopLA := fun pins s σ H x xs v us Q I rx rs q => q.elim (mt_pop pins s σ H x xs v us Q I rx rs) (mt_popAt pins s σ H x xs v us Q I rx rs)
theorem om_popL {G : Pg} : OpM G mPopL rPopLA := fun H h x ds v vs P Q rh rx rs q f => by
  unfold mPopL at q
  split at q
  · rename_i a
    obtain ⟨xs, y, ea, ey, q⟩ := q
    obtain ⟨us, s, r⟩ := rh.lst ea
    have hf : ∀ u, H a = some u → fixedO u = false := fun u z => by rw [s] at z; cases z; rfl
    obtain ⟨w, e1, r1⟩ := r.get ey
    refine .inl ⟨a, us, w, rx.ref_, rs.nil_, s, by rw [r.length]; exact e1, f _ _ _ _ q (TupLe.upd hf) (rh.upd hf ⟨_, upd_same, (Reps.keep (TupLe.upd hf) _ _ r).dropLast⟩) (Rep.keep (TupLe.upd hf) _ _ r1)⟩
  · rename_i a i
    obtain ⟨xs, k, y, ea, b1, b2, hk, ey, q⟩ := q
    obtain ⟨us, s, r⟩ := rh.lst ea
    obtain ⟨w0, rfl, rw_⟩ := rs.one
    have hf : ∀ u, H a = some u → fixedO u = false := fun u z => by rw [s] at z; cases z; rfl
    obtain ⟨w, e1, r1⟩ := r.get ey
    refine .inr ⟨a, us, i, k, w, rx.ref_, by rw [rw_.int_], s, b1, b2, by rw [r.length]; exact hk, e1, f _ _ _ _ q (TupLe.upd hf) (rh.upd hf ⟨_, upd_same, (Reps.keep (TupLe.upd hf) _ _ r).erase k⟩) (Rep.keep (TupLe.upd hf) _ _ r1)⟩
  · exact q.elim
/-- xs.index(i), ints -/
def mIndexI : DM := fun x ds h P => match x, ds with
  | .ref a, [.int i] => ∃ (ns : List Int) (j : Nat), h a = some (.lst (ns.map D.int)) ∧ ns[j]? = some i ∧ (∀ m : Nat, m < j → ns[m]? ≠ some i) ∧ P (.int (j : Nat)) h
  | _, _ => False
theorem om_indexI {G : Pg} : OpM G mIndexI (rIndex G.K) := fun H h x ds v vs P Q rh rx rs q f => by
  unfold mIndexI at q
  split at q
  · rename_i a i
    obtain ⟨ns, j, ea, ej, hn, q⟩ := q
    obtain ⟨us, s, r⟩ := rh.lst ea
    obtain ⟨w0, rfl, rw_⟩ := rs.one
    have eu := r.ints_
    subst eu
    have at_ : ∀ m : Nat, (ns.map V.int)[m]? = (ns[m]?).map V.int := fun m => List.getElem?_map ..
    refine ⟨a, ns.map V.int, .int i, j, .int i, rx.ref_, by rw [rw_.int_], .inl (.inl s), rfl, ?_, by rw [at_, ej]; rfl, ?_, fun m z hm hz => ?_, f.val rh q rep_int⟩
    · rw [List.all_map, List.all_eq_true]
      intro x _; rfl
    · show (i == i) = true
      simp
    · rw [at_] at hz
      obtain ⟨k, e1, rfl⟩ := Option.map_eq_some_iff.mp hz
      show (k == i) = false
      rw [beq_eq_false_iff_ne]
      intro e
      exact hn m hm (by rw [e1, e])
  · exact q.elim
/-! ### max, min of a tuple of ints -/
section
variable {prog : Program} {w : World} {A : Around} {E : Value → Shared → Prop} {s : Shared} {t : Addr} {its : List Value} {ns : List Int} {Q : Value → Shared → Prop}
theorem tup_kept {h' : Heap} (hk : ∀ b o, b ∉ [s.heap.objs.size] → (s.heap.push { cls := .type "tuple_iterator", data := .fields #[.ref t, .int 0 0] }).get? b = some o → h'.get? b = some o) : ∀ b o, s.heap.get? b = some o → h'.get? b = some o := fun b o e =>
  hk b o (fun z => absurd (List.mem_singleton.mp z ▸ Heap.lt_size e) (Nat.lt_irrefl _)) (Heap.get?_push_of_some _ e)
theorem max_tupI (hh : A.handled = none) (hl : s.heap.IsTuple t its.toArray) (hi : PyProof.Rows.IntsAre its ns) (hne : 0 < ns.length)
    (h : ∀ h' tk M t', (∀ b o, s.heap.get? b = some o → h'.get? b = some o) → M ∈ ns → (∀ y, y ∈ ns → y ≤ M) → Q (.int M t') { s with heap := h', toks := tk }) : wpAny (model prog w) A (call (.builtin "max") [.ref t]) Q E s := by
  obtain ⟨xs, ex⟩ := hi.allInts.items
  have en : numsOf (intItems xs).toList = ns := by rw [← ex]; exact hi.numsOf
  rw [nums_intItems] at en
  subst en
  rw [ex] at hl
  have pos : 0 < xs.size := by simpa using hne
  have lt : t < s.heap.objs.size := by obtain ⟨_, e0, _⟩ := hl; exact Heap.lt_size e0
  refine call_max_walk (wpAny_pyIter_tuple hl ⟨_, _, _, _, _, _, _, rfl, Walks.tuple (A := A.in1) hh _ t (Nat.ne_of_lt lt) (intItems xs), ⟨⟨_, Heap.get?_push_size _ rfl, rfl, rfl⟩, ?_⟩, fun b hb => ?_, by simpa [intItems] using pos, CmpOf.ints_gt (numAt xs) (fun _ _ => intItems_at), fun v h' tk hP hk => ?_⟩)
  · obtain ⟨o, e0, r⟩ := hl
    exact ⟨o, Heap.get?_push_of_some _ e0, r⟩
  · show b < (s.heap.push _).objs.size
    rw [Heap.size_push]
    simp only [List.mem_cons, List.not_mem_nil, or_false] at hb
    rcases hb with hb | hb
    · rw [hb]; exact Nat.lt_succ_self _
    · rw [hb]; exact Nat.lt_succ_of_lt lt
  · obtain ⟨tt, rfl⟩ := intItems_at (by simpa [intItems] using hP)
    obtain ⟨g1, g2⟩ := argBest_gt (numAt xs) (xs.size - 1)
    refine h h' tk _ tt (tup_kept hk) ?_ fun y hy => ?_
    · rw [numAt_eq]; exact PySem.getD_mem (Nat.lt_of_le_of_lt g1 (by rw [List.length_map, Array.length_toList]; omega))
    · obtain ⟨j, hj, rfl⟩ := mem_getD hy
      rw [List.length_map, Array.length_toList] at hj
      rw [← numAt_eq]; exact g2 j (by omega)
end
def rMaxT (K : PySem.W.Frag) : List V → Hp → VK → Prop := fun vs H Q => ∃ (a : Addr) (ns : List Int), vs = [V.ref a] ∧ SqT K H a (ns.map V.int) ∧ 0 < ns.length ∧ ∀ m, m ∈ ns → (∀ y, y ∈ ns → y ≤ m) → Q (.int m) H
theorem cr_maxT {X : Cx} (hc : X.calm = true) : CallR X (.builtin "max") (rMaxT X.K) := by
  intro pins s σ H vs us Q I r z
  obtain ⟨a, ns, rfl, hs, hne, q⟩ := z
  obtain ⟨its, rv, p, _⟩ := I.tuple hs
  rw [Vals.ref1 r]
  exact max_tupI (I.ok.hd hc) (show s.heap.IsTuple a its.toArray from p) rv.ints hne fun h' tk m t' hk m1 m2 => ⟨.int _, H, I.kept hk, ⟨_, rfl⟩, q m m1 m2⟩
/-- max of a tuple too -/
def bMaxA : DB := fun ds h P => match ds with
  | [.tup xs] => ∃ ns, intsD xs = some ns ∧ 0 < ns.length ∧ ∀ m, m ∈ ns → (∀ y, y ∈ ns → y ≤ m) → P (.int m) h
  | _ => bMax ds h P
theorem ob_maxA {G : Pg} : OpB G bMaxA (fun vs H Q => rMaxT G.K vs H Q ∨ (rMax G.K vs H Q ∨ ∃ i j, vs = [.int i, .int j] ∧ Q (.int (if j > i then j else i)) H)) := fun H h ds vs P Q rh r q f => by
  unfold bMaxA at q
  split at q
  · rename_i xs
    obtain ⟨ns, e1, hl, k⟩ := q
    obtain ⟨v, rfl, p⟩ := r.one
    obtain ⟨a, us, rfl, s, rs⟩ := p.tup_
    rw [intsD_eq e1] at rs
    rw [rs.ints_] at s
    exact .inl ⟨a, ns, rfl, s, hl, fun m m1 m2 => f.val rh (k m m1 m2) rep_int⟩
  · exact .inr (ob_max H h _ vs P Q rh r q f)
/-! ### sorted(d), dict(d) -/
def bSortedA : DB := fun ds h P => match ds with
  | [.ref a] => match h a with
    | some (.dT kvs) => ∃ (ks : List (List Int)) (d : Nat) (B : Int), kvs.map (·.1) = ks.map (List.map Sum.inl) ∧ ks.length < 64 ∧ 1 ≤ d ∧ (∀ k ∈ ks, k.length = d ∧ TS.Bd B k) ∧
      ∀ ys : List (List Int), ys.Perm ks → ys.Pairwise (fun x y => TS.code B x ≤ TS.code B y) → ∀ p, h p = none → P (.ref p) (up h p (.lst (ys.map fun k => .tup (k.map D.int))))
    | some (.dK kvs) => ∃ ks : List Int, kvs.map (·.1) = ks.map Sum.inl ∧ ks.length < 64 ∧ ∀ ys : List Int, ys.Perm ks → ys.Pairwise (· ≤ ·) → ∀ p, h p = none → P (.ref p) (up h p (.lst (ys.map D.int)))
    | _ => bSorted ds h P
  | _ => bSorted ds h P
def rSortedA (K : PySem.W.Frag) : List V → Hp → VK → Prop := fun vs H Q => rSortedI K vs H Q ∨ (∃ (d : Nat) (B : Int), 1 ≤ d ∧ rSortDT d B vs H Q) ∨ (∃ (a : Addr) (kvs : List (Key × V)) (ks : List Int), vs = [.ref a] ∧ Rd H a (.dK kvs) ∧ kvs.map (·.1) = ks.map Sum.inl ∧ ks.length < 64 ∧
    ∀ (ys : List Int) (p : Addr), ys.Perm ks → ys.Pairwise (· ≤ ·) → H p = none → Q (.ref p) (upd H p (.lst (ys.map V.int))))
theorem cr_sortedA {X : Cx} (hc : X.calm = true) : CallR X (.builtin "sorted") (rSortedA X.K) := by
  intro pins s σ H xs us Q I r q
  rcases q with q | ⟨d, B, hd, q⟩ | q
  · exact cr_sortedI pins s σ H xs us Q I r q
  · exact call_sortedDT hd hc pins s σ H xs us Q I r q
  · exact call_sortedDI hc pins s σ H xs us Q I r q
theorem reps_pairs {K : PySem.W.Frag} {H : Hp} {ys : List (List Int)} {bs : List Addr} (r : Paired (fun k b => H b = some (.tup (k.map V.int))) ys bs) : Reps K H (ys.map fun k => .tup (k.map D.int)) (bs.map V.ref) := by
  induction r with
  | nil => exact reps_nil
  | cons h t ih => exact reps_cons (rep_tup h (reps_ints _)) ih
theorem ob_sortedA {G : Pg} : OpB G bSortedA (rSortedA G.K) := fun H h ds vs P Q rh r q f => by
  unfold bSortedA at q
  split at q
  · rename_i a
    split at q
    · rename_i kvs ea
      obtain ⟨ks, d, B, e1, e2, e3, e4, q⟩ := q
      obtain ⟨v, rfl, p⟩ := r.one
      obtain ⟨ws, e5, r1⟩ := rh _ _ ea
      refine .inr (.inl ⟨d, B, e3, a, ws, ks, by rw [p.ref_], .inl e5, by rw [r1.keys]; exact e1, e2, e4, fun ys bs l h1 h2 h3 hl => ?_⟩)
      refine f.new rh (fun c hc => q ys h1 h2 c hc) (fun c hc => OR.lst hc (Reps.keep (TupLe.refl H) _ _ (reps_pairs h3))) l hl
    · rename_i kvs ea
      obtain ⟨ks, e1, e2, q⟩ := q
      obtain ⟨v, rfl, p⟩ := r.one
      obtain ⟨ws, e5, r1⟩ := rh _ _ ea
      exact .inr (.inr ⟨a, ws, ks, by rw [p.ref_], .inl e5, by rw [r1.keys]; exact e1, e2, fun ys l h1 h2 hl => f.new rh (fun c hc => q ys h1 h2 c hc) (fun c hc => OR.lst hc (reps_ints ys)) l hl⟩)
    · exact .inl (ob_sorted H h _ vs P Q rh r q f)
  · exact .inl (ob_sorted H h _ vs P Q rh r q f)
def bDictA : DB := fun ds h P => match ds with
  | [.ref a] => match h a with
    | some (.dT kvs) => ∃ ks : List (List Int), kvs.map (·.1) = ks.map (List.map Sum.inl) ∧ (ks.map ihash).Nodup ∧ ∀ p, h p = none → P (.ref p) (up h p (.dT kvs))
    | _ => bDict1 ds h P
  | _ => bDict1 ds h P
theorem call_dictA {X : Cx} : CallR X (.type "dict") (fun xs H Q => (∃ (a : Addr) (kvs : List (Key × V)), xs = [.ref a] ∧ Rd H a (.dK kvs) ∧ ∀ p, H p = none → Q (.ref p) (upd H p (.dK kvs))) ∨ rDictT xs H Q) := call_dictD.or call_dictT
theorem ob_dictA {G : Pg} : OpB G bDictA (fun xs H Q => (∃ (a : Addr) (kvs : List (Key × V)), xs = [.ref a] ∧ Rd H a (.dK kvs) ∧ ∀ p, H p = none → Q (.ref p) (upd H p (.dK kvs))) ∨ rDictT xs H Q) := fun H h ds vs P Q rh r q f => by
  unfold bDictA at q
  split at q
  · rename_i a
    split at q
    · rename_i kvs ea
      obtain ⟨ks, e1, e2, q⟩ := q
      obtain ⟨v, rfl, p⟩ := r.one
      obtain ⟨ws, e5, r1⟩ := rh _ _ ea
      exact .inr ⟨a, ws, ks, by rw [p.ref_], .inl e5, by rw [r1.keys]; exact e1, e2, fun b hb => f _ _ _ _ (q b (rh.fresh hb)) (TupLe.new hb) (rh.upd (fun z e => by rw [hb] at e; cases e) ⟨ws, upd_same, r1.keep (TupLe.new hb)⟩) rep_ref⟩
    · exact .inl (ob_dict H h _ vs P Q rh r q f)
  · exact .inl (ob_dict H h _ vs P Q rh r q f)
/-- {a: b} -/
def cDict1 (a b : DE) : DE := fun e h P R => ∀ p, h p = none → a e (up h p (.dK [])) (fun x h1 => b e h1 (fun y h2 => h2 p = some (.dK []) ∧ ∃ k, x.key? = some k ∧ P (.ref p) (up h2 p (.dK [(k, y)]))) R) R
theorem se_dict1 {X : Cx} {G : Pg} {W : WX} {pos : Pos} {a b : Expr} {da db : DE} (ha : PE X a (LE G W da)) (hb : PE X b (LE G W db)) : PE X (.Dict [some a] [b] pos) (LE G W (cDict1 da db)) :=
  pe_imp (pe_disp (pps_cons ha hb pps_nil) rfl rfl (by simp) (by simp)) (by
  rintro σ H Q ⟨e, h, P, R, re, rh, t, fin, x⟩
  intro p hp
  have tl0 : TupLe H (L2.upd H p (.dK [])) := TupLe.new hp
  have rh0 : RH G (L2.upd H p (.dK [])) (up h p (.dK [])) := rh.upd (fun z e => by rw [hp] at e; cases e) ⟨[], upd_same, rfl⟩
  refine LE.mk (re.keep tl0) rh0 (t p (rh.fresh hp)) (x.later tl0) fun d1 h1 v1 H1 t1 tl1 rh1 r1 re1 x1 => ?_
  refine LE.mk re1 rh1 t1 x1 fun d2 h2 v2 H2 t2 tl2 rh2 r2 re2 x2 => ?_
  obtain ⟨e2, k, ek, q⟩ := t2
  obtain ⟨ws, w1, w2⟩ := rh2 _ _ e2
  rw [show ws = [] from w2] at w1
  have tl3 : TupLe H2 (L2.upd H2 p (.dK [(k, v2)])) := TupLe.upd fun u z => by rw [w1] at z; cases z; rfl
  refine ⟨w1, [(k, v2)], ?_, by simp, ?_⟩
  · rw [key_ok (Rep.keep tl2 _ _ r1) ek]; rfl
  · refine fin _ _ _ _ q (tl0.trans (tl1.trans (tl2.trans tl3))) (rh2.upd (fun z e => by rw [w1] at e; cases e; rfl) ?_) rep_ref
    exact ⟨[(k, v2)], upd_same, v2, [], rfl, Rep.keep tl3 _ _ r2, rfl⟩)
/-- x += a of a local name that is an int -/
def sAugN (g : Int → Int → Int) (i : Nat) (a : DE) : DS := fun D e h => match lk e i with
  | some (.int m) => a e h (fun y h1 => match y with
    | .int n => D.nx (e.set i (some (.int (g m n)))) h1
    | _ => False) fun x h1 => D.ex x e h1
  | _ => False
theorem ss_augN {X : Cx} {G : Pg} {W : WX} {g : Int → Int → Int} {i : Nat} {x : Str} {op : Operator} {a : Expr} {da : DE} {p pos : Pos} (ho : PIp X op (ipI g)) (hN : X.N.Nodup) (hi : X.N[i]? = some x) (hl : X.env.scope.names.lookup x = some .local) (ha : PE X a (LE G W da)) :
    PS X (.AugAssign (.Name x p) op a pos) (LS G W (sAugN g i da)) := ps_imp (ps_aug hN hi (.inl hl) ha ho (.inr hl)) (by
  rintro D σ H ⟨e, h, D', re, rh, z, l⟩
  unfold sAugN at z
  split at z
  · rename_i m em
    obtain ⟨v, ev, rv⟩ := re.2 i _ (lk_eq _ _ _ em)
    rw [rv.int_] at ev
    refine ⟨.int m, ev, LE.mk re rh z (l.x re) fun d h1 v H1 t1 tl1 rh1 r1 re1 x1 => ?_⟩
    cases d with
    | int n =>
      rw [r1.int_]
      exact ⟨m, n, rfl, rfl, l.nx _ h1 _ H1 t1 tl1 rh1 (re1.set rep_int)⟩
    | _ => exact t1.elim
  · exact z.elim)
end DW

/-! DW, part 10: the reading of the text as combinators: functions on the syntax. -/
namespace DW
open PySem L2 PySem.Spec

/-! ### facts of the syntax -/
def isStar : Expr → Bool
  | .Starred _ _ => true
  | _ => false
def isSet : Expr → Bool
  | .Set _ _ _ => true
  | _ => false
def isComp : Expr → Bool
  | .ListComp _ _ _ _ => true
  | .SetComp _ _ _ _ => true
  | .DictComp _ _ _ _ _ => true
  | _ => false
def isSlice : Expr → Bool
  | .Slice _ _ _ _ => true
  | _ => false
def isTupE : Expr → Bool
  | .Tuple _ _ _ => true
  | _ => false
def isCall0 : Expr → Bool
  | .Call (.Name _ _) [] [] _ => true
  | _ => false
/-- its truth is looked at from outside -/
def plainT : Expr → Bool
  | .UnaryOp .Not _ _ => false
  | .BoolOp _ _ _ => false
  | .IfExp _ _ _ _ => false
  | .Compare _ _ _ _ => false
  | _ => true
def noStar (es : List Expr) : Bool := es.all fun e => !isStar e
theorem star_cons {e : Expr} {es : List Expr} {env : Env} (h : isStar e = false) : starEach (e :: es) env = (false, eval e env) :: starEach es env := by
  cases e <;> first | rfl | cases h
theorem star_any {pos : Pos} {env : Env} : ∀ {es : List Expr}, noStar es = true → (backTo pos (starEach es env)).any (·.1) = false
  | [], _ => rfl
  | e :: es, h => by
    have h2 : (!isStar e && noStar es) = true := h
    rw [Bool.and_eq_true] at h2
    have he : isStar e = false := by simpa using h2.1
    rw [star_cons he]
    show (false || (backTo pos (starEach es env)).any (·.1)) = false
    rw [star_any h2.2]; rfl
theorem star_all {pos : Pos} {env : Env} : ∀ {es : List Expr}, noStar es = true → (backTo pos (starEach es env)).all (fun x => !x.1) = true
  | [], _ => rfl
  | e :: es, h => by
    have h2 : (!isStar e && noStar es) = true := h
    rw [Bool.and_eq_true] at h2
    have he : isStar e = false := by simpa using h2.1
    rw [star_cons he]
    show (true && (backTo pos (starEach es env)).all (fun x => !x.1)) = true
    rw [star_all h2.2]; rfl
theorem noStar_cons {e : Expr} {es : List Expr} (h : noStar (e :: es) = true) : isStar e = false ∧ noStar es = true := by
  have h2 : (!isStar e && noStar es) = true := h
  rw [Bool.and_eq_true] at h2
  exact ⟨by simpa using h2.1, h2.2⟩
theorem behind_no {op : CmpOp} {b : Expr} (h : isSet b = false) : behindInMarks op b = false := by
  cases b <;> first | rfl | cases h
theorem last_no {op op' : CmpOp} {b c : Expr} (h : isSet c = false) : lastMarks [op, op'] [b, c] = false := by
  show behindInMarks op' c = false
  exact behind_no h
theorem ab_plain {o : Expr} {f : Str} {env : Env} {w : Sem Value} (h : isCall0 o = false) : attributeBase o f env w = w := by
  unfold attributeBase
  split
  · cases h
  · rfl
theorem swaps_no {v : Expr} {t : Option Expr} {l : Nat} {env : Env} (h : isComp v = false) : swapsWith v t l env = pure false := by
  cases v <;> first | rfl | cases h
theorem swaps_notName {v t : Expr} {l : Nat} {env : Env} (h : ∀ x p, t ≠ .Name x p) : swapsWith v (some t) l env = pure false := by
  unfold swapsWith
  cases v <;> first | rfl | skip
  all_goals (cases t <;> first | rfl | exact absurd rfl (h _ _))
theorem stores_v {t v : Expr} {env : Env} (h : isTupE v = false) : swappedStores [t] v env = pure none := by
  unfold swappedStores
  cases v <;> first | cases h | skip
  all_goals (cases t <;> rfl)
theorem stores_t {t v : Expr} {env : Env} (h : ∀ a b c, t ≠ .Tuple a b c) (h2 : ∀ a b, t ≠ .List a b) : swappedStores [t] v env = pure none := by
  unfold swappedStores
  cases t <;> first | exact absurd rfl (h _ _ _) | exact absurd rfl (h2 _ _) | rfl
theorem set_plain {i : Expr} {env : Env} {x : Value} (h : isSet i = false) : foldedSetIterable i env x = pure x := by
  cases i <;> first | rfl | cases h
theorem true_plain {e : Expr} {env : Env} {w : Sem Value} (h : plainT e = true) : isTrue e env w = (do let v ← w; standAt e.pos; holding [v] (truthy v)) := by
  cases e <;> first | rfl | cases h | skip
  case UnaryOp op a p => cases op <;> first | rfl | cases h
theorem ix_plain {b : Expr} (h : isSlice b = false) : PlainIx b := by
  intro o i
  cases b <;> first | rfl | cases h
theorem asg_each1 {t : Expr} {env : Env} (h : isStar t = false) : (assignEach [t] env).map (fun x => x.2) = [assign t env] := by
  cases t <;> first | rfl | cases h
theorem asg_cons {t : Expr} {ts : List Expr} {env : Env} (h : isStar t = false) : (assignEach (t :: ts) env).map (fun x => x.2) = assign t env :: (assignEach ts env).map (fun x => x.2) := by
  cases t <;> first | rfl | cases h
theorem asg_len {env : Env} : ∀ {ts : List Expr}, (assignEach ts env).length = ts.length
  | [] => rfl
  | t :: ts => by
    have ih := asg_len (env := env) (ts := ts)
    cases t <;> (show (assignEach ts env).length + 1 = ts.length + 1; rw [ih])
theorem asg_star {env : Env} : ∀ {ts : List Expr}, noStar ts = true → (assignEach ts env).findIdx? (·.1) = none
  | [], _ => rfl
  | t :: ts, h => by
    obtain ⟨h1, h2⟩ := noStar_cons h
    have ih := asg_star (env := env) h2
    have e : assignEach (t :: ts) env = (false, assign t env) :: assignEach ts env := by cases t <;> first | rfl | cases h1
    rw [e, List.findIdx?_cons, ih]
    rfl
theorem asg_sub {o i : Expr} {p : Pos} {env : Env} (h : isSlice i = false) (v : Value) : assign (.Subscript o i p) env v = (do
      let ov ← holding [v] (eval o env)
      let iv ← holding [v, ov] (eval i env)
      standAt p
      holding [v, ov, iv] (setItem ov iv v)
      release [v, ov, iv] []) := by
  cases i <;> first | rfl | cases h

/-! ### the tables -/
/-- what the module's names are; the levels: of what they rest on -/
structure Gt where
  free : List Str
  val : List (Str × D)
  call : List (Str × Nat × DSp)
  callK : List ((Str × Nat × List Str) × Nat × DSp2)
  kit : List (Str × Kit)
  exk : List (Str × (Nat → Option Bool))
  exc : List (Str × Nat)
  fld : List (Str × List (Nat × Nat))
  meth : List (Str × List (Nat × Nat × DSp))
  prop : List (Str × List (Nat × Nat × DSp))
  lk : List Nat := []
  hot : List (Str × Nat × DSp) := []
structure Cfg where
  g : Gt
  lv : Nat
  N : List Str
  sc : Scope
  exv : Option (Addr × DX) := none
  blkS : Option Scope := none
def Cfg.kind (C : Cfg) (x : Str) : Option NameKind := C.sc.names.lookup x
/-- may be stored to here -/
def Cfg.own (C : Cfg) (x : Str) : Bool := match C.blkS with
  | none => true
  | some s => s.names.lookup x == some .cell
def Cfg.asg (C : Cfg) (x : Str) : Bool := C.kind x == some .local || (C.kind x == some .cell && C.own x)
def ixOf (N : List Str) (x : Str) : Option Nat := (N.zip (List.range N.length)).lookup x
def Cfg.isG (C : Cfg) (x : Str) : Bool := match C.kind x with
  | some .globalImplicit => !(x == ("__debug__" : Str))
  | _ => false
/-- built-in functions and types, called -/
def bDB (x : Str) : Option DB :=
  if x == ("int" : Str) then some bInt
  else if x == ("len" : Str) then some bLen
  else if x == ("list" : Str) then some bList1
  else if x == ("tuple" : Str) then some bTuple
  else if x == ("max" : Str) then some bMaxA
  else if x == ("min" : Str) then some bMin
  else if x == ("sum" : Str) then some bSum
  else if x == ("all" : Str) then some bAll
  else if x == ("any" : Str) then some bAny
  else if x == ("sorted" : Str) then some bSortedA
  else if x == ("dict" : Str) then some bDictA
  else none
def opD : Operator → Option DO
  | .Add => some doAdd
  | .Sub => some doSub
  | .Mult => some doMul
  | .FloorDiv => some doDiv
  | .Mod => some doMod
  | .Pow => some doPow
  | _ => none
def cmpD : CmpOp → DO
  | .Eq => doEq
  | .NotEq => doNe
  | .Lt => doLt
  | .LtE => doLe
  | .Gt => doGt
  | .GtE => doGe
  | .Is => doIs
  | .IsNot => doIsNot
  | .In => doIn
  | .NotIn => doNotIn

def isD0 : Expr → Bool
  | .Dict [] [] _ => true
  | _ => false
def cmpX (op : CmpOp) (b : Expr) : DO := match isD0 b, op with
  | true, .Eq => doEq0 true
  | true, .NotEq => doEq0 false
  | _, op => cmpD op
/-- len(set(a)) -/
def lenSetA : Expr → List Expr → List Keyword → Option Expr
  | .Name x _, [.Call (.Name y _) [a] [] _], [] => if (x == ("len" : Str) && y == ("set" : Str)) = true then some a else none
  | _, _, _ => none
/-! ### expressions -/
def rdName (C : Cfg) (x : Str) : DE := match C.kind x with
  | some .globalImplicit => match C.isG x, C.g.val.lookup x with
    | true, some d => cD d
    | _, _ => cBad
  | some .globalExplicit => cBad
  | some _ => match ixOf C.N x, (x == ("__debug__" : Str)) || (x == ("__classdict__" : Str)) with
    | some i, false => cVar i
    | _, _ => cBad
  | none => cBad
def rdA (E : Expr → DE) : List Expr → DA
  | [] => cNil
  | e :: es => match isStar e with
    | true => cBadA
    | false => cCons (E e) (rdA E es)
def rdK (E : Expr → DE) : List Keyword → DA
  | [] => cNil
  | ⟨_, e, _⟩ :: es => cCons (E e) (rdK E es)
def ksOf (kws : List Keyword) : List Str := kws.filterMap fun k => k.arg
def kwAll (kws : List Keyword) : Bool := kws.all fun k => k.arg.isSome
/-- and, or -/
def rdBV (E : Expr → DE) (op : BoolOp) : List Expr → DE
  | [] => cBad
  | [a] => E a
  | a :: b :: r => match op with
    | .And => cAndV (E a) (rdBV E op (b :: r))
    | .Or => cOrV (E a) (rdBV E op (b :: r))
def rdB (T : Expr → DT) (op : BoolOp) : List Expr → DT
  | [] => cBadT
  | [a] => T a
  | a :: b :: r => match op with
    | .And => cAnd (T a) (rdB T op (b :: r))
    | .Or => cOr (T a) (rdB T op (b :: r))
def rdPart (E : Expr → DE) : Option Expr → DO1
  | none => cNoPart
  | some e => cPart (E e)
/-- minus one -/
def isM1 : Option Expr → Bool
  | some (.UnaryOp .USub (.Constant (.int 1) _ _) _) => true
  | _ => false
/-- of an exception without own fields -/
def exO (k : Nat → Option Bool) (x : DX) : Option Bool := match x.fs with
  | none => k x.c
  | some _ => none
def rdIsi (E : Expr → DE) (C : Cfg) (a c : Expr) : DE := match isStar a, c with
  | false, .Name x _ => match C.isG x, C.isG ("isinstance" : Str), C.g.free.contains ("isinstance" : Str) with
    | true, true, true => match C.exv with
      | some (ad, dx) => match C.g.exk.lookup x with
        | some k => cIsiX (E a) ad (exO k dx)
        | none => cBad
      | none => match C.g.kit.lookup x with
        | some k => cIsi (E a) k
        | none => cBad
    | _, _, _ => cBad
  | _, _ => cBad
def mDM (m : Str) : Option (String × DM) :=
  if m == ("append" : Str) then some ("list", mAppend)
  else if m == ("get" : Str) then some ("dict", mGet)
  else if m == ("extend" : Str) then some ("list", mExtend)
  else if m == ("pop" : Str) then some ("list", mPopL)
  else if m == ("index" : Str) then some ("list", mIndexI)
  else none
def methTb (lv : Nat) (tb : List (Nat × Nat × DSp)) : List (Nat × DSp) := (tb.filter fun q => Nat.blt q.2.1 lv).map fun q => (q.1, q.2.2)
/-! own specials: == != in len -/
def noXK : KX := fun _ _ => False
/-- what an own == may be asked of -/
def okY (c : Nat) (y : D) (h : DH) : Prop := match y with
  | .int _ => True
  | .tup _ => True
  | .ref p => match h p with
    | some (.ins c' _) => c' = c
    | _ => False
  | _ => False
def oEq (tb : List (Nat × DSp)) (f : DO) : DO := fun x y h P => f x y h P ∨ ∃ q ∈ tb, ∃ p fs, x = .ref p ∧ h p = some (.ins q.1 fs) ∧ okY q.1 y h ∧ q.2 [x, y] h (fun d h' => ∃ b, d = .bl b ∧ P (.bl b) h') noXK
def oNe (tb : List (Nat × DSp)) (f : DO) : DO := fun x y h P => f x y h P ∨ ∃ q ∈ tb, ∃ p fs p' fs', x = .ref p ∧ h p = some (.ins q.1 fs) ∧ y = .ref p' ∧ h p' = some (.ins q.1 fs') ∧ q.2 [x, y] h (fun d h' => ∃ b, d = .bl b ∧ P (.bl (!b)) h') noXK
def oIn (tb : List (Nat × DSp)) (g : Bool → Bool) (f : DO) : DO := fun x y h P => f x y h P ∨ ∃ q ∈ tb, ∃ p fs, y = .ref p ∧ h p = some (.ins q.1 fs) ∧ q.2 [y, x] h (fun d h' => ∃ b, d = .bl b ∧ P (.bl (g b)) h') noXK
def bLenO (tb : List (Nat × DSp)) : DB := fun ds h P => bLen ds h P ∨ ∃ q ∈ tb, ∃ p fs, ds = [.ref p] ∧ h p = some (.ins q.1 fs) ∧ q.2 ds h (fun d h' => ∃ n, d = .int n ∧ (0 ≤ n ∧ n < 2 ^ 63) ∧ P (.int n) h') noXK
def cmpO (C : Cfg) (op : CmpOp) (f : DO) : DO := match C.exv, op with
  | none, .Eq => match C.g.meth.lookup ("__eq__" : Str) with
    | some tb => oEq (methTb C.lv tb) f
    | none => f
  | none, .NotEq => match C.g.meth.lookup ("__eq__" : Str) with
    | some tb => oNe (methTb (C.lv - 1) tb) f
    | none => f
  | none, .In => match C.g.meth.lookup ("__contains__" : Str) with
    | some tb => oIn (methTb C.lv tb) id f
    | none => f
  | none, .NotIn => match C.g.meth.lookup ("__contains__" : Str) with
    | some tb => oIn (methTb C.lv tb) not f
    | none => f
  | _, _ => f
def ownLen (C : Cfg) (f : Expr) (es : List Expr) (kws : List Keyword) : Option (Expr × List (Nat × Nat × DSp)) := match f, es, kws with
  | .Name x _, [a], [] => match x == ("len" : Str), C.g.meth.lookup ("__len__" : Str), C.exv with
    | true, some tb, none => some (a, tb)
    | _, _, _ => none
  | _, _, _ => none
def rdCall (E : Expr → DE) (C : Cfg) (f : Expr) (es : List Expr) (kws : List Keyword) (pos : Pos) : DE := match f, kws with
  | .Name x _, [] => match C.isG x with
    | false => cBad
    | true => match C.exv, C.g.hot.lookup x with
     | some _, some (l, s) => match Nat.blt l C.lv, noStar es with
        | true, true => cCall s (rdA E es)
        | _, _ => cBad
     | _, _ => match C.g.call.lookup x, C.exv with
      | some (l, s), none => match Nat.blt l C.lv, noStar es with
        | true, true => cCall s (rdA E es)
        | _, _ => cBad
      | _, _ => match C.exv, C.g.callK.lookup (x, es.length, []) with
        | none, some (l, s) => match Nat.blt l C.lv, noStar es with
          | true, true => cCallK s (rdA E es) cNil
          | _, _ => cBad
        | _, _ => match C.g.free.contains x, x == ("isinstance" : Str), es with
          | true, true, [a, c] => rdIsi E C a c
          | true, false, e :: r => match bDB x, C.exv, noStar (e :: r) with
            | some b, none, true => cB b (rdA E es)
            | _, _, _ => cBad
          | _, _, _ => cBad
  | .Name x _, k :: ks => match C.isG x, C.exv, C.g.callK.lookup (x, es.length, ksOf (k :: ks)) with
    | true, none, some (l, s) => match Nat.blt l C.lv, noStar es, kwAll (k :: ks) with
      | true, true, true => cCallK s (rdA E es) (rdK E (k :: ks))
      | _, _, _ => cBad
    | _, _, _ => cBad
  | .Attribute o m ap, [] => match noStar es, C.exv, C.g.meth.lookup m with
    | true, none, some tb => match isCall0 o, ap.endLine == pos.line, Nat.blt es.length 30 with
      | false, true, true => cMeth (E o) (methTb C.lv tb) (rdA E es)
      | _, _, _ => cBad
    | true, _, none => match mDM m, isCall0 o, ap.endLine == pos.line, Nat.blt es.length 30 with
      | some (T, f), false, true, true => cM T f (E o) (rdA E es)
      | _, _, _, _ => cBad
    | _, _, _ => cBad
  | _, _ => cBad
def rdCall2 (E : Expr → DE) (C : Cfg) (f : Expr) (es : List Expr) (kws : List Keyword) (pos : Pos) : DE := match lenSetA f es kws with
  | some a => match C.isG ("len" : Str) && (C.g.free.contains ("len" : Str) && (C.isG ("set" : Str) && (C.g.free.contains ("set" : Str) && !isStar a))), C.exv with
    | true, none => cLenSet (E a)
    | _, _ => cBad
  | none => match ownLen C f es kws with
    | some (a, tb) => match C.isG ("len" : Str) && (C.g.free.contains ("len" : Str) && !isStar a) with
      | true => cB (bLenO (methTb (C.lv - 1) tb)) (rdA E [a])
      | false => cBad
    | none => rdCall E C f es kws pos
/-! targets -/
def rdG (C : Cfg) : Nat → Expr → List Nat × DG
  | 0, _ => ([], gBad)
  | n + 1, e => match e with
    | .Name x _ => match ixOf C.N x, C.asg x with
      | some i, true => ([i], gN i)
      | _, _ => ([], gBad)
    | .Tuple es _ _ => match noStar es, C.exv with
      | true, none => let r := go n es; (r.1, gT es.length r.2)
      | _, _ => ([], gBad)
    | _ => ([], gBad)
where go (n : Nat) : List Expr → List Nat × DGs
  | [] => ([], gsNil)
  | e :: es => ((rdG C n e).1 ++ (go n es).1, gsCons (rdG C n e).2 (go n es).2)
/-! comprehensions -/
def isOwnK (k : NameKind) : Bool := match k with
  | .local => true
  | .cell => true
  | _ => false
def ownOf (N : List Str) (names : List (Str × NameKind)) : List (Str × Nat) := names.filterMap fun p => if isOwnK p.2 then (ixOf N p.1).map fun i => (p.1, i) else none
def nkB (a : Option NameKind) (k : NameKind) : Bool := decide (a = some k)
def blkB (sc scope : Scope) : Bool := decide (scope.kind = .function) && (scope.names.all (fun y => nkB (scope.names.lookup y.1) y.2) &&
  scope.names.all fun y => !(decide (y.2 = .free)) || (nkB (sc.names.lookup y.1) .cell || nkB (sc.names.lookup y.1) .free))
def Cfg.blk (C : Cfg) (scope : Scope) : Cfg := { C with sc := relS scope C.sc, blkS := some scope }
structure Rd where
  E : Cfg → Expr → DE
  T : Cfg → Expr → DT
def rdI (r : Rd) (C : Cfg) (tg iter : Expr) : DI := match iter with
  | .Call (.Name x p) es [] pos => match C.isG x && C.g.free.contains x, es with
    | true, [a] => if x == ("range" : Str) then (if isStar a then iBad else iRng1D (rdA (r.E C) [a]))
      else if x == ("enumerate" : Str) then (if isStar a || !isTupE tg then iBad else iEnumD (rdA (r.E C) [a]))
      else if x == ("reversed" : Str) then (if isStar a then iBad else iRevD (r.E C a))
      else iSeq (r.E C (.Call (.Name x p) es [] pos))
    | true, [a, b] => if x == ("range" : Str) then (if isStar a || isStar b then iBad else iRng2D (rdA (r.E C) [a, b]))
      else if x == ("zip" : Str) then (if isStar a || isStar b || !isTupE tg then iBad else iZipD (rdA (r.E C) [a, b]))
      else iSeq (r.E C (.Call (.Name x p) es [] pos))
    | _, _ => iSeq (r.E C (.Call (.Name x p) es [] pos))
  | e => iSeq (r.E C e)
def rdIfs (T : Expr → DT) : List Expr → DT
  | [] => tYesD
  | [c] => T c
  | _ => cBadT
def rdLc (r : Rd) (C : Cfg) (elt : Expr) (gs : List Comprehension) (scope : Scope) : DE := match gs, C.exv with
  | [⟨tg, iter, ifs, a⟩], none => match decide (a = 0) && (blkB C.sc scope && ((rdG (C.blk scope) 5 tg).1.all (fun i => ((ownOf C.N scope.names).map (·.2)).contains i) && !isSet iter)) with
    | true => cLc (rdI r C tg iter) (rdG (C.blk scope) 5 tg).2 (rdIfs (r.T (C.blk scope)) ifs) (r.E (C.blk scope) elt) ((ownOf C.N scope.names).map (·.2))
    | false => cBad
  | [⟨tg, iter, ifs, a⟩, ⟨tg1, iter1, ifs1, a1⟩], none => match decide (a = 0) && (decide (a1 = 0) && (blkB C.sc scope && ((rdG (C.blk scope) 5 tg).1.all (fun i => ((ownOf C.N scope.names).map (·.2)).contains i) && ((rdG (C.blk scope) 5 tg1).1.all (fun i => ((ownOf C.N scope.names).map (·.2)).contains i) && (!isSet iter && !isSet iter1))))) with
    | true => cLc2 (rdI r C tg iter) (rdG (C.blk scope) 5 tg).2 (rdIfs (r.T (C.blk scope)) ifs) (rdI r (C.blk scope) tg1 iter1) (rdG (C.blk scope) 5 tg1).2 (rdIfs (r.T (C.blk scope)) ifs1) (r.E (C.blk scope) elt) ((ownOf C.N scope.names).map (·.2)) (rdG (C.blk scope) 5 tg1).1
    | false => cBad
  | _, _ => cBad
def rdE (r : Rd) (C : Cfg) : Expr → DE
  | .Constant c _ _ => match c with
    | .int i => cD (.int i)
    | .bool b => cD (.bl b)
    | .none => cD .non
    | .str s => cD (.str s)
    | _ => cBad
  | .Name x _ => rdName C x
  | .BinOp a op b _ => match opD op with
    | some f => cBin f (r.E C a) (r.E C b)
    | none => cBad
  | .UnaryOp .Not a _ => cNotV (r.E C a)
  | .UnaryOp .USub a _ => cNeg (r.E C a)
  | .BoolOp op vs _ => rdBV (r.E C) op vs
  | .IfExp t a b _ => cIfE (r.T C t) (r.E C a) (r.E C b)
  | .Compare a [op] [b] _ => if isSet b then cBad else cBin (cmpO C op (cmpX op b)) (r.E C a) (r.E C b)
  | .Compare a [op, op'] [b, c] _ => if isSet c then cBad else cChain (cmpD op) (cmpD op') (r.E C a) (r.E C b) (r.E C c)
  | .Tuple es _ _ => cTup (rdA (r.E C) es)
  | .List es _ => cLst (rdA (r.E C) es)
  | .Subscript a b _ => match b with
    | .Slice lo hi st _ => match st with
      | none => cSl (r.E C a) (rdPart (r.E C) lo) (rdPart (r.E C) hi)
      | st => match lo, hi, isM1 st with
        | none, none, true => cRev (r.E C a)
        | _, _, _ => cBad
    | b => if isSlice b then cBad else cBin doIx (r.E C a) (r.E C b)
  | .Attribute o f _ => match isCall0 o, C.g.fld.lookup f with
    | false, some ix => cFld (r.E C o) ix
    | false, none => match C.g.prop.lookup f, C.exv with
      | some tb, none => cProp (r.E C o) (methTb C.lv tb)
      | _, _ => cBad
    | _, _ => cBad
  | .Dict [] [] _ => cDict0
  | .Dict [some a] [b] _ => cDict1 (r.E C a) (r.E C b)
  | .Call f es kws pos => rdCall2 (r.E C) C f es kws pos
  | .ListComp elt gs scope _ => rdLc r C elt gs scope
  | _ => cBad
def rdT (r : Rd) (C : Cfg) : Expr → DT
  | .UnaryOp .Not a _ => cNot (r.T C a)
  | .BoolOp op vs _ => rdB (r.T C) op vs
  | .Compare a [op] [b] _ => if isSet b then cBadT else cTst (cBin (cmpO C op (cmpX op b)) (r.E C a) (r.E C b))
  | .Compare a [op, op'] [b, c] _ => if isSet c then cBadT else cTst (cChain (cmpD op) (cmpD op') (r.E C a) (r.E C b) (r.E C c))
  | .Compare _ _ _ _ => cBadT
  | .IfExp _ _ _ _ => cBadT
  | e => cTru (r.E C e)
def rd : Nat → Rd
  | 0 => ⟨fun _ _ => cBad, fun _ _ => cBadT⟩
  | n + 1 => ⟨fun C e => rdE (rd n) C e, fun C e => rdT (rd n) C e⟩

/-! ### statements -/
def docS : Expr → Bool
  | .Constant (.str _) _ _ => true
  | _ => false
/-- a, b = x, y and a, b, c = x, y, z of plain local names -/
def sPar2 (i j : Nat) (t : DA) : DS := fun D e h => t e h (fun ds h1 => ∃ u v, ds = [u, v] ∧ D.nx ((e.set i (some u)).set j (some v)) h1) fun x h1 => D.ex x e h1
def sPar3 (i j l : Nat) (t : DA) : DS := fun D e h => t e h (fun ds h1 => ∃ u v w, ds = [u, v, w] ∧ D.nx (((e.set i (some u)).set j (some v)).set l (some w)) h1) fun x h1 => D.ex x e h1
def plainVs (sc : Scope) (vs : List Expr) : Bool := noStar vs && (decide (sc.kind = .function) && (!(vs.all (foldedForSure 8)) && !(vs.all (constantsAlone 8))))
def rdPar (r : Rd) (C : Cfg) (t v : Expr) : DS := match t, v, C.exv with
  | .Tuple [.Name x px, .Name y py] _ _, .Tuple [a, b] _ _, none => match ixOf C.N x, ixOf C.N y, (decide (C.kind x = some .local) && (decide (C.kind y = some .local) && (decide (py.line = px.line) && !(x == y)))) && plainVs C.sc [a, b] with
    | some i, some j, true => sPar2 i j (rdA (r.E C) [a, b])
    | _, _, _ => sBad
  | .Tuple [.Name x px, .Name y py, .Name z pz] _ _, .Tuple [a, b, c] _ _, none => match ixOf C.N x, ixOf C.N y, ixOf C.N z, (decide (C.kind x = some .local) && (decide (C.kind y = some .local) && (decide (C.kind z = some .local) && (decide (py.line = px.line) && (decide (pz.line = px.line) && (!(x == y) && (!(x == z) && !(y == z)))))))) && plainVs C.sc [a, b, c] with
    | some i, some j, some l, true => sPar3 i j l (rdA (r.E C) [a, b, c])
    | _, _, _, _ => sBad
  | _, _, _ => sBad
def rdAsg (r : Rd) (C : Cfg) (t v : Expr) : DS := match t with
  | .Name x p => match C.exv, isComp v, v with
    | _, false, _ => sAsg (r.E C v) (rdG C 1 (.Name x p)).2
    | none, true, .ListComp _ _ _ _ => match ixOf C.N x, C.kind x == some .local with
      | some i, true => sAsg (r.E C v) (gN i)
      | _, _ => sBad
    | _, _, _ => sBad
  | .Tuple _ _ _ => if isTupE v then rdPar r C t v else sAsg (r.E C v) (rdG C 5 t).2
  | .Attribute o f _ => match C.g.fld.lookup f, isCall0 o with
    | some ix, false => sFld (r.E C o) (r.E C v) ix
    | _, _ => sBad
  | .Subscript o i _ => if isSlice i then sBad else sSub (r.E C o) (r.E C i) (r.E C v)
  | _ => sBad
def rdRaise (r : Rd) (C : Cfg) (e : Expr) : DS := match e, C.exv with
  | .Call (.Name x _) es [] _, none => match C.isG x, C.g.exc.lookup x, noStar es with
    | true, some c, true => sRaise c (rdA (r.E C) es)
    | _, _, _ => sBad
  | _, _ => sBad
def rdAug (r : Rd) (C : Cfg) (t : Expr) (op : Operator) (v : Expr) : DS := match t with
  | .Attribute o f _ => match C.g.fld.lookup f, op with
    | some ix, .Add => sAugF (fun i j => i + j) (r.E C o) (r.E C v) ix
    | some ix, .Sub => sAugF (fun i j => i - j) (r.E C o) (r.E C v) ix
    | _, _ => sBad
  | .Name x _ => match ixOf C.N x, C.kind x == some .local, op with
    | some i, true, .Add => sAugN (fun i j => i + j) i (r.E C v)
    | some i, true, .Sub => sAugN (fun i j => i - j) i (r.E C v)
    | _, _, _ => sBad
  | _ => sBad
abbrev SsR := Cfg → List Stmt → DS
/-- an except clause -/
def rdCl (SS : SsR) (C : Cfg) : ExceptHandler → Option DCl
  | .ExceptHandler (some (.Name x _)) none (b :: bs) _ => match C.isG x, C.g.exk.lookup x with
    | true, some k => some (k, none, fun a dx => SS { C with exv := some (a, dx) } (b :: bs))
    | _, _ => none
  | .ExceptHandler (some (.Name x _)) (some n) (b :: bs) _ => match C.isG x, C.g.exk.lookup x, ixOf C.N n, C.kind n == some .local with
    | true, some k, some i, true => some (k, some i, fun a dx => SS { C with exv := some (a, dx) } (b :: bs))
    | _, _, _, _ => none
  | _ => none
def rdCls (SS : SsR) (C : Cfg) : List ExceptHandler → Option (List DCl)
  | [] => some []
  | h :: hs => match rdCl SS C h, rdCls SS C hs with
    | some q, some qs => some (q :: qs)
    | _, _ => none
def rdS (r : Rd) (SS : SsR) (C : Cfg) : Stmt → DS
  | .Expr v _ => match docS v with
    | true => sNext
    | false => match isComp v with
      | false => sDrop (r.E C v)
      | true => sBad
  | .Return v _ => match v with
    | some v => sRet (r.E C v)
    | none => sRetN
  | .If c x y _ => sIf (r.T C c) (SS C x) (SS C y)
  | .Assign [t] v _ => rdAsg r C t v
  | .AugAssign t op v _ => rdAug r C t op v
  | .Delete [.Subscript o i _] _ => sDelL (r.E C o) (r.E C i)
  | .While c b [] _ => sWhile (r.T C c) (SS C b)
  | .For t i b [] _ => match C.exv, isSet i with
    | none, false => sFor (rdI r C t i) (rdG C 5 t).2 (SS C b)
    | _, _ => sBad
  | .Raise (some e) none _ => rdRaise r C e
  | .Try b hs [] [] _ => match C.exv, rdCls SS C hs with
    | none, some (q :: qs) => sTry (SS C b) (q :: qs)
    | _, _ => sBad
  | .Pass _ => sNext
  | .Break _ => sBrk
  | .Continue _ => sCnt
  | _ => sBad
def stLn : Stmt → Nat
  | .For _ _ _ _ p => p.line
  | .If _ _ _ p => p.line
  | .Return _ p => p.line
  | .Assign _ _ p => p.line
  | .Expr _ p => p.line
  | _ => 0
def lkS (C : Cfg) (s : Stmt) (t : DS) : DS := match C.g.lk.contains (stLn s) with
  | true => sLk t
  | false => t
def rdSs (S : Cfg → Stmt → DS) (C : Cfg) : List Stmt → DS
  | [] => sNext
  | s :: r => match r with
    | [] => lkS C s (S C s)
    | _ :: _ => sSeq (lkS C s (S C s)) (rdSs S C r)
def rdSt (m : Nat) : Nat → SsR
  | 0 => fun _ _ => sBad
  | n + 1 => rdSs (rdS (rd m) (rdSt m n))
end DW

/-! DW, part 11: the readings are true (expressions). -/
namespace DW
open PySem L2 PySem.Spec PyProof.Rows

/-! ### what the tables say, up to the level j -/
/-- a callable of the module, positional -/
def CallG (G : Pg) (l : Nat) (x : Str) (s : DSp) : Prop := ∃ u, G.mg x = some u ∧ PySem.W.keepIn G.K u = true ∧ ∀ (X : Cx) (W : WX), Same5 G X → L2N.Takes X W → Room (l + 1) X.A → CallP G X W u s
def CallKG (G : Pg) (l : Nat) (x : Str) (ks : List Str) (s : DSp2) : Prop := ∃ u, G.mg x = some u ∧ PySem.W.keepIn G.K u = true ∧ ∀ (X : Cx) (W : WX), Same5 G X → L2N.Takes X W → Room (l + 1) X.A → CallKP G X W u ks s
def MethG (G : Pg) (l : Nat) (m : Str) (c : Nat) (s : DSp) : Prop := ∃ f, MethOk G m c f ∧ ∀ (X : Cx) (W : WX), Same5 G X → L2N.Takes X W → Room (l + 1) X.A → CallP G X W (.ref f) s
def PropG (G : Pg) (l : Nat) (m : Str) (c : Nat) (s : DSp) : Prop := ∃ (k : Nat) (f p : Addr) (fd : FuncData) (ps : List Str), Cls G.K (G.ca c) ∧ PropOf G.K (G.ca c) m p f ∧ FnOk G.P G.w G.K G.mg G.base (L2N.CX G.P G.w) k f fd ps (LSp G s) ∧ Binds G.K fd ps [] ∧ k ≤ l
/-- a class as a value: own (of the module), or built-in -/
def ClsN (G : Pg) (x : Str) (u : Value) : Prop := G.mg x = some u ∨ (G.mg x = none ∧ bootBuiltins x = some u ∧ x ≠ "__name__")
/-- .. a def, called while an exception is handled -/
def HotG (G : Pg) (l : Nat) (x : Str) (s : DSp) : Prop := ∃ u, G.mg x = some u ∧ PySem.W.keepIn G.K u = true ∧ ∀ (X : Cx) (W : WX), Same5 G X → L2N.Takes X W → L2H.HotC X → L2H.RoomH (l + 1) X.A → CallP G X W u s
structure GOk (G : Pg) (g : Gt) (j : Nat) : Prop where
  free : ∀ x, x ∈ g.free → G.mg x = none
  val : ∀ q ∈ g.val, ∃ v u, G.mg q.1 = some u ∧ L2.RelV v u ∧ ∀ H, Rep G.K H q.2 v
  call : ∀ q ∈ g.call, q.2.1 < j → CallG G q.2.1 q.1 q.2.2
  callK : ∀ q ∈ g.callK, q.2.1 < j → CallKG G q.2.1 q.1.1 q.1.2.2 q.2.2
  kit : ∀ q ∈ g.kit, ∃ (u : Value) (cv : V), ClsN G q.1 u ∧ L2.RelV cv u ∧ ClsV cv u ∧ KitOk G q.2 u ∧ ∀ c b, q.2 (.own c) = some b → InsOk G.K (G.ca c)
  exk : ∀ q ∈ g.exk, ∃ (u : Value) (cv : V), ClsN G q.1 u ∧ L2.RelV cv u ∧ ClsV cv u ∧ ∀ m b, q.2 m = some b → PySem.W.exmOne G.K (.ref (G.ca m)) u = some b ∧ PySem.W.kitOne G.K (.ref (G.ca m)) u = some b ∧ ExcC G.K (G.ca m)
  exc : ∀ q ∈ g.exc, G.mg q.1 = some (.ref (G.ca q.2)) ∧ RaiseOk G q.2
  fld : ∀ q ∈ g.fld, FldOk G q.1 q.2
  meth : ∀ q ∈ g.meth, ∀ z ∈ q.2, z.2.1 < j → MethG G z.2.1 q.1 z.1 z.2.2
  prop : ∀ q ∈ g.prop, ∀ z ∈ q.2, z.2.1 < j → PropG G z.2.1 q.1 z.1 z.2.2
  sm : ∀ c, (G.fn c).length < 1000
  hot : ∀ q ∈ g.hot, q.2.1 < j → HotG G q.2.1 q.1 q.2.2
theorem look_mem {κ α : Type} [BEq κ] [LawfulBEq κ] {k : κ} {a : α} : ∀ {l : List (κ × α)}, l.lookup k = some a → (k, a) ∈ l
  | [], h => by cases h
  | (b, u) :: r, h => by
    simp only [List.lookup] at h
    split at h
    · rename_i e
      cases h
      rw [beq_iff_eq.mp e]
      exact List.mem_cons_self
    · exact List.mem_cons_of_mem _ (look_mem h)
theorem ixOf_ok {N : List Str} {x : Str} {i : Nat} (h : ixOf N x = some i) : N[i]? = some x := by
  have m := look_mem h
  obtain ⟨k, hk, e⟩ := List.mem_iff_getElem.mp m
  simp at hk e
  obtain ⟨e1, e2⟩ := e
  subst e2
  exact List.getElem?_eq_some_iff.mpr ⟨hk, e1⟩
/-! ### what a context must be -/
structure EOk (G : Pg) (C : Cfg) (X : Cx) (W : WX) : Prop where
  S : Same5 G X
  g : GOk G C.g C.lv
  N : X.N = C.N
  nd : C.N.Nodup
  sc : X.env.scope = C.sc
  tk : L2N.Takes X W
  room : C.exv = none → Room C.lv X.A
  un : X.A.units + 65 < cLine
  calm : C.exv = none → X.calm = true
  fnT : ∀ x, C.own x = true → X.fn x = true
  ex : ∀ a x, C.exv = some (a, x) → x.fs = none → ExcC G.K (G.ca x.c) → CallR X (.builtin "isinstance") (rIsE X.K (G.ca x.c) a)
  hot : ∀ p, C.exv = some p → L2H.HotC X ∧ L2H.RoomH C.lv X.A
section
variable {G : Pg} {C : Cfg} {X : Cx} {W : WX}
theorem EOk.gl (o : EOk G C X W) {x : Str} (h : C.isG x = true) : Gl X x ∧ (x == ("__debug__" : Str)) = false := by
  unfold Cfg.isG at h
  split at h
  · rename_i e
    refine ⟨?_, by simpa using h⟩
    show X.env.scope.names.lookup x = _
    rw [o.sc]; exact e
  · cases h
theorem EOk.free (o : EOk G C X W) {x : Str} (h : C.g.free.contains x = true) : X.mg x = none := by
  rw [o.S.mg]
  exact o.g.free x (by simpa using h)
theorem name_ok (o : EOk G C X W) {x : Str} {pos : Pos} : PE X (.Name x pos) (LE G W (rdName C x)) := by
  unfold rdName
  split
  · split
    · rename_i d e1 e2
      obtain ⟨hg, hd⟩ := o.gl e1
      obtain ⟨v, u, h1, h2, h3⟩ := o.g.val _ (look_mem e2)
      exact se_val (pe_glob hg (by rw [o.S.mg]; exact h1) h2 hd) h3
    · exact se_bad
  · exact se_bad
  · rename_i k n1 n2 hk
    split
    · rename_i i e1 e2
      rw [Bool.or_eq_false_iff] at e2
      refine se_var (by rw [o.N]; exact ixOf_ok e1) ?_ e2.1 e2.2
      unfold Vis
      rw [o.sc]
      have hk' : C.sc.names.lookup x = some k := hk
      rw [hk']
      cases k with
      | globalImplicit => exact absurd rfl n1
      | globalExplicit => exact absurd rfl n2
      | _ => simp
    · exact se_bad
  · exact se_bad
theorem args_ok {E : Expr → DE} (h : ∀ e, PE X e (LE G W (E e))) : ∀ es : List Expr, PA X es (LA G W (rdA E es))
  | [] => sa_nil
  | e :: es => by
    unfold rdA
    split
    · exact sa_bad
    · rename_i hs
      exact sa_cons (star_cons hs) (h e) (args_ok h es)
theorem kws_ok {E : Expr → DE} (h : ∀ e, PE X e (LE G W (E e))) : ∀ es : List Keyword, PK X es (LA G W (rdK E es))
  | [] => sk_nil
  | ⟨n, e, p⟩ :: es => sk_cons (h e) (kws_ok h es)
theorem boolV_ok {E : Expr → DE} {op : BoolOp} {pos : Pos} (h : ∀ e, PE X e (LE G W (E e))) : ∀ es : List Expr, PE X (.BoolOp op es pos) (LE G W (rdBV E op es))
  | [] => se_bad
  | [a] => pe_one (h a)
  | a :: b :: r => by
    have ih := boolV_ok (op := op) (pos := pos) h (b :: r)
    cases op with
    | And => exact se_and (h a) ih
    | Or => exact se_or (h a) ih
theorem bool_ok {T : Expr → DT} {op : BoolOp} {pos : Pos} (h : ∀ e, PT X e (LT G W (T e))) : ∀ es : List Expr, PW X (.BoolOp op es pos) (LT G W (rdB T op es))
  | [] => sw_bad
  | [a] => by
    cases op with
    | And => exact pw_and1 (h a)
    | Or => exact pw_or1 (h a)
  | a :: b :: r => by
    have ih := bool_ok (op := op) (pos := pos) h (b :: r)
    cases op with
    | And => exact pw_imp (pw_and (h a) ih) lt_and
    | Or => exact pw_imp (pw_or (h a) ih) lt_or
/-! operators -/
theorem op_ok {op : Operator} {f : DO} (e : opD op = some f) : ∃ r, OpR X (binaryOp op) r ∧ ∀ (hK : X.K = G.K), OpD G f r := by
  cases op <;> simp only [opD] at e <;> first | cases e | skip
  · exact ⟨_, op_addA, fun hK => by rw [hK]; exact od_add⟩
  · exact ⟨_, op_sub, fun hK => od_sub⟩
  · exact ⟨_, op_mulA, fun hK => od_mul⟩
  · exact ⟨_, op_mod, fun hK => od_mod⟩
  · exact ⟨_, op_pow, fun hK => od_pow⟩
  · exact ⟨_, op_fdivW, fun hK => od_div⟩
theorem cmp_ok (op : CmpOp) (hu : X.A.units + 65 < cLine) : ∃ r, OpR X (compareOp op) r ∧ ∀ (hK : X.K = G.K), OpD G (cmpD op) r := by
  cases op
  · exact ⟨_, op_eqA (by omega), fun hK => by rw [hK]; exact od_eq⟩
  · exact ⟨_, op_neA (by omega), fun hK => by rw [hK]; exact od_ne⟩
  · exact ⟨_, op_lt.or (op_ltIB (by omega)), fun hK => by rw [hK]; exact od_lt⟩
  · exact ⟨_, op_le, fun hK => od_le⟩
  · exact ⟨_, op_gt, fun hK => od_gt⟩
  · exact ⟨_, op_ge, fun hK => od_ge⟩
  · exact ⟨_, op_isA, fun hK => od_is⟩
  · exact ⟨_, op_isNotA, fun hK => od_isNot⟩
  · exact ⟨_, op_inA hu, fun hK => by rw [hK]; exact od_in⟩
  · exact ⟨_, op_notInA hu, fun hK => by rw [hK]; exact od_notIn⟩
/-! built-ins -/
theorem blt_ok {x : Str} {b : DB} {e : Expr} {es : List Expr} {t : DA} {p pos : Pos} (hK : X.K = G.K) (hc : X.calm = true) (hb : bDB x = some b) (hg : Gl X x) (hm : X.mg x = none) (hdb : (x == ("__debug__" : Str)) = false) (hns : noStar (e :: es) = true)
    (ha : PA X (e :: es) (LA G W t)) : PE X (.Call (.Name x p) (e :: es) [] pos) (LE G W (cB b t)) := by
  obtain ⟨h1, h2⟩ := noStar_cons hns
  have s1 := star_cons (es := es) (env := X.env) h1
  have s2 := star_any (pos := pos) (env := X.env) h2
  unfold bDB at hb
  split at hb
  · rename_i e; have e' := beq_iff_eq.mp e; subst e'; cases hb
    exact se_Ty call_int1 ob_int hg hm boot_int (by decide) hdb s1 s2 ha
  split at hb
  · rename_i e; have e' := beq_iff_eq.mp e; subst e'; cases hb
    exact se_B cr_lenA (by rw [hK]; exact ob_len) hg hm boot_len (by decide) hdb s1 s2 ha
  split at hb
  · rename_i e; have e' := beq_iff_eq.mp e; subst e'; cases hb
    exact se_Ty (cr_listA hc) (by rw [hK]; exact ob_list) hg hm boot_list (by decide) hdb s1 s2 ha
  split at hb
  · rename_i e; have e' := beq_iff_eq.mp e; subst e'; cases hb
    exact se_Ty call_tuple_of (by rw [hK]; exact ob_tuple) hg hm boot_tuple (by decide) hdb s1 s2 ha
  split at hb
  · rename_i e; have e' := beq_iff_eq.mp e; subst e'; cases hb
    exact se_B ((cr_maxT hc).or ((cr_max hc).or (call_max2 hc))) (by rw [hK]; exact ob_maxA) hg hm boot_max (by decide) hdb s1 s2 ha
  split at hb
  · rename_i e; have e' := beq_iff_eq.mp e; subst e'; cases hb
    exact se_B ((cr_min hc).or (call_min2 hc)) (by rw [hK]; exact ob_min) hg hm boot_min (by decide) hdb s1 s2 ha
  split at hb
  · rename_i e; have e' := beq_iff_eq.mp e; subst e'; cases hb
    exact se_B (cr_sum hc) (by rw [hK]; exact ob_sum) hg hm boot_sum (by decide) hdb s1 s2 ha
  split at hb
  · rename_i e; have e' := beq_iff_eq.mp e; subst e'; cases hb
    exact se_B (cr_all hc) (by rw [hK]; exact ob_all) hg hm boot_all (by decide) hdb s1 s2 ha
  split at hb
  · rename_i e; have e' := beq_iff_eq.mp e; subst e'; cases hb
    exact se_B (cr_any hc) (by rw [hK]; exact ob_any) hg hm boot_any (by decide) hdb s1 s2 ha
  split at hb
  · rename_i e; have e' := beq_iff_eq.mp e; subst e'; cases hb
    exact se_B (cr_sortedA hc) (by rw [hK]; exact ob_sortedA) hg hm boot_sorted (by decide) hdb s1 s2 ha
  split at hb
  · rename_i e; have e' := beq_iff_eq.mp e; subst e'; cases hb
    exact se_Ty call_dictA ob_dictA hg hm boot_dict (by decide) hdb s1 s2 ha
  · cases hb
theorem cmpX_ok (op : CmpOp) (b : Expr) (hu : X.A.units + 65 < cLine) : ∃ rr, OpR X (compareOp op) rr ∧ (X.K = G.K → OpD G (cmpX op b) rr) := by
  unfold cmpX
  split
  · exact ⟨_, op_eq_dictA (by omega), fun _ => od_eq0⟩
  · exact ⟨_, op_ne_dictA (by omega), fun _ => od_ne0⟩
  · exact cmp_ok _ hu
theorem lenSetA_ok {f a : Expr} {es : List Expr} {kws : List Keyword} (e : lenSetA f es kws = some a) : ∃ p p2 q, f = .Name "len" p ∧ es = [.Call (.Name "set" p2) [a] [] q] ∧ kws = [] := by
  unfold lenSetA at e
  split at e
  · split at e
    · rename_i h
      rw [Bool.and_eq_true] at h
      cases e
      rw [beq_iff_eq.mp h.1, beq_iff_eq.mp h.2]
      exact ⟨_, _, _, rfl, rfl, rfl⟩
    · cases e
  · cases e
theorem se_lenS {a : Expr} {de : DE} {p p2 q pos : Pos} (hK : X.K = G.K) (hc : X.calm = true) (hg : Gl X "len") (hm : X.mg "len" = none) (hg2 : Gl X "set") (hm2 : X.mg "set" = none) (ha : PE X a (LE G W de)) (na : starEach [a] X.env = (false, eval a X.env) :: starEach [] X.env) :
    PE X (.Call (.Name "len" p) [.Call (.Name "set" p2) [a] [] q] [] pos) (LE G W (cLenSet de)) := by
  refine pe_imp (pe_lenS hc hg hm hg2 hm2 ha na) ?_
  rintro σ H Q ⟨en, h, P, R, re, rh, t, fin, x⟩
  refine LE.mk re rh t x fun d h1 v H1 t1 tl1 rh1 r1 re1 x1 => ?_
  obtain ⟨xs, ns, e1, e2, hl, q⟩ := t1
  obtain ⟨l, us, rfl, s, rs⟩ := lstOf_ok rh1 r1 e1
  rw [intsD_eq e2] at rs
  rw [rs.ints_] at s
  exact ⟨l, ns, rfl, by rw [hK]; exact s, hl, fin _ h1 _ H1 q tl1 rh1 rep_int⟩
/-! isinstance -/
theorem cls_pe (o : EOk G C X W) {x : Str} {pos : Pos} {u : Value} {cv : V} (h : C.isG x = true) (c : ClsN G x u) (r : L2.RelV cv u) : PE X (.Name x pos) (tC cv) := by
  obtain ⟨hg, hd⟩ := o.gl h
  rcases c with c | ⟨c1, c2, c3⟩
  · exact pe_glob hg (by rw [o.S.mg]; exact c) r hd
  · exact pe_bltn hg (by rw [o.S.mg]; exact c1) c2 r c3 hd
theorem clsV_only {cv : V} {u : Value} (h : ClsV cv u) : ∀ z, L2.RelV cv z → z = u := fun z r => h.eq r
theorem se_isiX0 {ae ce : Expr} {da : DE} {p pos : Pos} {a : Addr} {cv : V} (hce : PE X ce (tC cv)) (ha : PE X ae (LE G W da))
    (hg : Gl X "isinstance") (hm : X.mg "isinstance" = none) (hs1 : starEach [ae, ce] X.env = (false, eval ae X.env) :: starEach [ce] X.env) (hs2 : starEach [ce] X.env = (false, eval ce X.env) :: starEach [] X.env) (hpl : (backTo pos (starEach [ce] X.env)).any (·.1) = false) :
    PE X (.Call (.Name "isinstance" p) [ae, ce] [] pos) (LE G W (cIsiX da a none)) := by
  refine pe_imp (pe_callB (r := fun _ _ _ => False) (fun _ _ _ _ _ _ _ _ _ z => z.elim) hg hm PyProof.Rows.boot_isinstance (pa_cons ha (pa_cons hce pa_nil hs2) hs1) (by decide) (by decide) hs1 hpl) ?_
  rintro σ H Q ⟨en, h, P, R, re, rh, t, fin, x⟩
  refine LE.mk re rh t x fun d h1 v H1 t1 tl1 rh1 r1 re1 x1 => ?_
  obtain ⟨e1, b, e2, q⟩ := t1
  cases e2
theorem isi_ok (o : EOk G C X W) {E : Expr → DE} (h : ∀ e, PE X e (LE G W (E e))) {a c : Expr} {p pos : Pos} : PE X (.Call (.Name "isinstance" p) [a, c] [] pos) (LE G W (rdIsi E C a c)) := by
  unfold rdIsi
  split
  · rename_i x px hs
    split
    · rename_i g1 g2 g3
      have nc : isStar (.Name x px) = false := rfl
      have s1 := star_cons (es := [.Name x px]) (env := X.env) hs
      have s2 := star_cons (es := []) (env := X.env) nc
      have s3 : (backTo pos (starEach [.Name x px] X.env)).any (·.1) = false := star_any rfl
      split
      · rename_i ad dx hex
        split
        · rename_i k hk
          obtain ⟨u, cv, c1, c2, c3, c4⟩ := o.g.exk _ (look_mem hk)
          cases hko' : exO k dx with
          | none => exact se_isiX0 (cls_pe o g1 c1 c2) (h a) (o.gl g2).1 (o.free g3) s1 s2 s3
          | some b =>
            have hfs : dx.fs = none ∧ k dx.c = some b := by
              unfold exO at hko'
              split at hko'
              · rename_i z; exact ⟨z, hko'⟩
              · cases hko'
            obtain ⟨hfs, hko⟩ := hfs
            obtain ⟨k1, k2, k3⟩ := c4 _ _ hko
            exact se_isiX (cv := cv) (u := u) (o.ex _ _ hex hfs k3) (fun b' e => by cases e; rw [o.S.K]; exact k2) (clsV_only c3) (cls_pe o g1 c1 c2) (h a) (o.gl g2).1 (o.free g3) s1 s2 s3
        · exact se_bad
      · split
        · rename_i k hk
          obtain ⟨u, cv, c1, c2, c3, c4, c5⟩ := o.g.kit _ (look_mem hk)
          exact se_isi o.S.K c5 c4 c3 (cls_pe o g1 c1 c2) (h a) (o.gl g2).1 (o.free g3) s1 s2 s3
        · exact se_bad
    · exact se_bad
  · exact se_bad
/-! ### own specials -/
/-- what a D operation says of values -/
def rOf (G : Pg) (f : DO) : R2 := fun x y H Q => ∃ h dx dy P, RH G H h ∧ Rep G.K H dx x ∧ Rep G.K H dy y ∧ f dx dy h P ∧ Fin2 G P H Q
theorem od_of {f : DO} : OpD G f (rOf G f) := fun H h x y v u P Q rh rx ry p fi => ⟨h, x, y, P, rh, rx, ry, p, fi⟩
def rBOf (G : Pg) (f : DB) : List V → Hp → VK → Prop := fun vs H Q => ∃ h ds P, RH G H h ∧ Reps G.K H ds vs ∧ f ds h P ∧ Fin2 G P H Q
theorem ob_of {f : DB} : OpB G f (rBOf G f) := fun H h ds vs P Q rh r q fi => ⟨h, ds, P, rh, r, q, fi⟩
abbrev W0 : WX := fun _ _ _ _ => False
theorem lx0 {σ : L2.St} {H : Hp} : LX G W0 σ H noXK := fun _ _ _ _ _ z => z.elim
/-- inside a built-in -/
abbrev cxIn (X : Cx) : Cx := { X with A := X.A.in1 }
theorem inv_in {pins : List (Addr × Obj)} {σ : L2.St} {H : Hp} {s : Shared} (I : Inv X pins σ H s) : Inv (cxIn X) pins σ H s :=
  ⟨⟨I.ok.mod, I.ok.kind, I.ok.glob, I.ok.blt, I.ok.above, I.ok.inj, I.ok.has, I.ok.cab, I.ok.hd, I.ok.frames, I.ok.stk, I.ok.exf, I.ok.bs, I.ok.bsz, I.ok.noex, I.ok.exfs, I.ok.funs, I.ok.frf⟩, I.os, I.bare, I.base, I.loc, I.cell, I.free, I.freeC, I.pin, I.hok, I.len⟩
theorem inv_out {pins : List (Addr × Obj)} {σ : L2.St} {H : Hp} {s : Shared} (I : Inv (cxIn X) pins σ H s) : Inv X pins σ H s :=
  ⟨⟨I.ok.mod, I.ok.kind, I.ok.glob, I.ok.blt, I.ok.above, I.ok.inj, I.ok.has, I.ok.cab, I.ok.hd, I.ok.frames, I.ok.stk, I.ok.exf, I.ok.bs, I.ok.bsz, I.ok.noex, I.ok.exfs, I.ok.funs, I.ok.frf⟩, I.os, I.bare, I.base, I.loc, I.cell, I.free, I.freeC, I.pin, I.hok, I.len⟩
/-- a special's callee, at this level -/
def SpcG (G : Pg) (X : Cx) (m : Str) (q : Nat × DSp) : Prop := ∃ f, MethOk G m q.1 f ∧ CallP G X W0 (.ref f) q.2
theorem ins_at {pins : List (Addr × Obj)} {σ : L2.St} {H : Hp} {s : Shared} {h : DH} {p : Addr} {c : Nat} {fs : List D} (I : Inv X pins σ H s) (rh : RH G H h) (e : h p = some (.ins c fs)) : ∃ (dx : Addr) (od : Obj), PySem.W.InstAt s.heap p (PySem.W.instObj (G.ca c) dx) (G.ca c) (some od) := by
  obtain ⟨dx, ws, e1, _⟩ := rh _ _ e
  obtain ⟨m, J, _⟩ := ins_get I.hok e1
  obtain ⟨od, J, _⟩ := J.look
  exact ⟨dx, od, J⟩
theorem or_inO {g : Bool → Bool} {op : CmpOp} {f : DO} {r : R2} {tb : List (Nat × DSp)} (hop : op = .In ∧ g = id ∨ op = .NotIn ∧ g = not) (hK : X.K = G.K) (hr : OpR X (compareOp op) r) (od : OpD G f r) (ht : ∀ q ∈ tb, SpcG G X ("__contains__" : Str) q) : OpR X (compareOp op) (rOf G (oIn tb g f)) := by
  intro pins s σ H x y v u Q I rx ry ⟨h, dx, dy, P, rh, r1, r2, q, fi⟩
  rcases q with q | ⟨q, hq, p, fs, e1, e2, q3⟩
  · exact hr pins s σ H x y v u Q I rx ry (od H h dx dy x y P Q rh r1 r2 q fi)
  · subst e1
    obtain ⟨f, M, hc⟩ := ht q hq
    have mt := M.mt
    rw [← hK] at mt
    have ey := r2.ref_
    subst ey
    cases (show u = Value.ref p from ry)
    obtain ⟨dx', od', J⟩ := ins_at I rh e2
    obtain ⟨m, hF⟩ := I.fr
    have run := hc pins s σ H [.ref p, dx] [.ref p, x] [.ref p, v] h _ _ (fun w H' => ∃ b, w = .bl b ∧ Q (.bl (g b)) H') I (.cons rfl (.cons rx .nil)) (reps_cons rep_ref (reps_cons r1 reps_nil)) rh q3 (fun d' h' v' H' hp tl rh' rep => by
      obtain ⟨b, eb, pb⟩ := hp
      subst eb
      exact ⟨b, rep.bl_, fi _ h' _ H' pb tl rh' rep_bl⟩) lx0
    rcases hop with ⟨rfl, rfl⟩ | ⟨rfl, rfl⟩
    · refine PySem.W.in_K hF I.ok.mod.kin J mt.at_ mt.fn (wpAny_mono run (fun w s' z => ?_) fun _ _ z => z)
      obtain ⟨v', H', I', rv, b, eb, qb⟩ := z
      subst eb
      cases (show w = Value.bool b from rv)
      exact wpAny_truthy_bool ⟨.bl b, H', I', rfl, qb⟩
    · refine PySem.W.notIn_K hF I.ok.mod.kin J mt.at_ mt.fn (wpAny_mono run (fun w s' z => ?_) fun _ _ z => z)
      obtain ⟨v', H', I', rv, b, eb, qb⟩ := z
      subst eb
      cases (show w = Value.bool b from rv)
      exact wpAny_truthy_bool ⟨.bl (!b), H', I', rfl, qb⟩
theorem cr_lenO {r : List V → Hp → VK → Prop} {tb : List (Nat × DSp)} (hK : X.K = G.K) (hr : CallR X (.builtin "len") r) (ob : OpB G bLen r) (ht : ∀ q ∈ tb, SpcG G (cxIn X) ("__len__" : Str) q) : CallR X (.builtin "len") (rBOf G (bLenO tb)) := by
  intro pins s σ H xs us Q I r1 ⟨h, ds, P, rh, r2, q, fi⟩
  rcases q with q | ⟨q, hq, p, fs, e1, e2, q3⟩
  · exact hr pins s σ H xs us Q I r1 (ob H h ds xs P Q rh r2 q fi)
  · subst e1
    obtain ⟨f, M, hc⟩ := ht q hq
    have mt := M.mt
    rw [← hK] at mt
    obtain ⟨v, rfl, rv⟩ := r2.one
    have ey := rv.ref_
    subst ey
    rw [Vals.ref1 r1]
    obtain ⟨dx', od', J⟩ := ins_at I rh e2
    obtain ⟨m, hF⟩ := I.fr
    have run := hc pins s σ H [.ref p] [.ref p] [.ref p] h _ _ (fun w H' => ∃ n, w = .int n ∧ (0 ≤ n ∧ n < 2 ^ 63) ∧ Q (.int n) H') (inv_in I) (.cons rfl .nil) (reps_cons rep_ref reps_nil) rh q3 (fun d' h' v' H' hp tl rh' rep => by
      obtain ⟨n, eb, nb, pb⟩ := hp
      subst eb
      exact ⟨n, rep.int_, nb, fi _ h' _ H' pb tl rh' rep_int⟩) lx0
    refine PySem.W.len_K hF I.ok.mod.kin J mt.at_ mt.fn (wpAny_mono run (fun w s' z => ?_) fun _ _ z => z)
    obtain ⟨v', H', I', rv, n, eb, nb, qb⟩ := z
    subst eb
    obtain ⟨t, e⟩ := (show ∃ t, w = Value.int n t from rv)
    subst e
    exact ⟨nb, .int n, H', (inv_out I').tok _, ⟨_, rfl⟩, qb⟩
theorem or_eqO {f : DO} {r : R2} {tb : List (Nat × DSp)} (hu : X.A.units < cLine) (hK : X.K = G.K) (hr : OpR X (compareOp .Eq) r) (od : OpD G f r) (ht : ∀ q ∈ tb, SpcG G X ("__eq__" : Str) q) : OpR X (compareOp .Eq) (rOf G (oEq tb f)) := by
  intro pins s σ H x y v u Q I rx ry ⟨h, dx, dy, P, rh, r1, r2, q, fi⟩
  rcases q with q | ⟨q, hq, p, fs, e1, e2, oky, q3⟩
  · exact hr pins s σ H x y v u Q I rx ry (od H h dx dy x y P Q rh r1 r2 q fi)
  · subst e1
    obtain ⟨f, M, hc⟩ := ht q hq
    have mt := M.mt
    rw [← hK] at mt
    have ey := r1.ref_
    subst ey
    cases (show v = Value.ref p from rx)
    obtain ⟨dx', od', J⟩ := ins_at I rh e2
    obtain ⟨m, hF⟩ := I.fr
    have run := hc pins s σ H [.ref p, dy] [.ref p, y] [.ref p, u] h _ _ (fun w H' => ∃ b, w = .bl b ∧ Q (.bl b) H') I (.cons rfl (.cons ry .nil)) (reps_cons rep_ref (reps_cons r2 reps_nil)) rh q3 (fun d' h' v' H' hp tl rh' rep => by
      obtain ⟨b, eb, pb⟩ := hp
      subst eb
      exact ⟨b, rep.bl_, fi _ h' _ H' pb tl rh' rep_bl⟩) lx0
    have tail : ∀ tbv, PySem.W.Looks (model X.prog X.w) s.heap (typeOf u) tbv → PySem.W.notFirst X.K (G.ca q.1) tbv = true → wpAny (model X.prog X.w) X.A (compareOp .Eq (.ref p) u) (EP X pins σ Q) X.xe s := fun tbv hb hn => by
      show wpAny (model X.prog X.w) X.A (richCompare .Eq (.ref p) u) (EP X pins σ Q) X.xe s
      refine PySem.W.cmp_K (op := .Eq) hu hF I.ok.mod.kin J hb hn mt.at_ mt.fn (wpAny_mono run (fun w s' z => ?_) fun _ _ z => z)
      obtain ⟨v', H', I', rv, b, eb, qb⟩ := z
      subst eb
      cases (show w = Value.bool b from rv)
      exact ⟨.bl b, H', I', rfl, qb⟩
    cases dy with
    | int i =>
      have e := r2.int_
      subst e
      obtain ⟨t, e⟩ := (show ∃ t, u = Value.int i t from ry)
      subst e
      exact tail (.type "int") (.of_pure rfl) rfl
    | tup ds =>
      obtain ⟨a, vs, rfl, hs, _⟩ := r2.tup_
      cases (show u = Value.ref a from ry)
      have hs' : SqT X.K H a vs := by rw [hK]; exact hs
      obtain ⟨its, rv, hT, _⟩ := I.tuple hs'
      obtain ⟨o, ho, hc', _⟩ := hT
      refine tail (.type "tuple") ((PySem.W.Looks.ld (part := none) ho).andThen ?_) rfl
      rw [hc']
      exact .now
    | ref p' =>
      have e := r2.ref_
      subst e
      cases (show u = Value.ref p' from ry)
      have oky' : (match h p' with
        | some (.ins c' _) => c' = q.1
        | _ => False) := oky
      split at oky'
      · rename_i c' fs' e3
        subst oky'
        obtain ⟨dx2, od2, J2⟩ := ins_at I rh e3
        exact tail _ J2.type (by unfold PySem.W.notFirst; simp)
      · exact oky'.elim
    | _ => exact oky.elim
theorem or_neO {f : DO} {r : R2} {tb : List (Nat × DSp)} (hu : X.A.units + 1 < cLine) (hK : X.K = G.K) (hr : OpR X (compareOp .NotEq) r) (od : OpD G f r) (ht : ∀ q ∈ tb, SpcG G (cxIn X) ("__eq__" : Str) q) : OpR X (compareOp .NotEq) (rOf G (oNe tb f)) := by
  intro pins s σ H x y v u Q I rx ry ⟨h, dx, dy, P, rh, r1, r2, q, fi⟩
  rcases q with q | ⟨q, hq, p, fs, p', fs', e1, e2, e3, e4, q3⟩
  · exact hr pins s σ H x y v u Q I rx ry (od H h dx dy x y P Q rh r1 r2 q fi)
  · subst e1
    subst e3
    obtain ⟨f, M, hc⟩ := ht q hq
    have mt := M.mt
    obtain ⟨n1, n2⟩ := M.ne rfl
    rw [← hK] at mt n1 n2
    have ey := r1.ref_
    subst ey
    cases (show v = Value.ref p from rx)
    have ey := r2.ref_
    subst ey
    cases (show u = Value.ref p' from ry)
    obtain ⟨dx', od', J⟩ := ins_at I rh e2
    obtain ⟨dx2, od2, J2⟩ := ins_at I rh e4
    obtain ⟨m, hF⟩ := I.fr
    have run := hc pins s σ H [.ref p, .ref p'] [.ref p, .ref p'] [.ref p, .ref p'] h _ _ (fun w H' => ∃ b, w = .bl b ∧ Q (.bl (!b)) H') (inv_in I) (.cons rfl (.cons rfl .nil)) (reps_cons rep_ref (reps_cons rep_ref reps_nil)) rh q3 (fun d' h' v' H' hp tl rh' rep => by
      obtain ⟨b, eb, pb⟩ := hp
      subst eb
      exact ⟨b, rep.bl_, fi _ h' _ H' pb tl rh' rep_bl⟩) lx0
    refine ne_K hu hF I.ok.mod.kin J J2.type n2 n1 mt.at_ mt.fn (wpAny_mono run (fun w s' z => ?_) fun _ _ z => z)
    obtain ⟨v', H', I', rv, b, eb, qb⟩ := z
    subst eb
    cases (show w = Value.bool b from rv)
    exact ⟨b, rfl, .bl (!b), H', inv_out I', rfl, qb⟩
end
end DW

/-! DW, part 12: the readings are true (calls, targets, comprehensions, all expressions). -/
namespace DW
open PySem L2 PySem.Spec PyProof.Rows
section
variable {G : Pg} {C : Cfg} {X : Cx} {W : WX}
theorem EOk.mono {j k : Nat} {A : Around} (r : Room k A) (h : j ≤ k) : Room j A := r.mono h
theorem methTb_mem {lv : Nat} {tb : List (Nat × Nat × DSp)} {q : Nat × DSp} (h : q ∈ methTb lv tb) : ∃ l, (q.1, l, q.2) ∈ tb ∧ l < lv := by
  unfold methTb at h
  obtain ⟨z, hz, rfl⟩ := List.mem_map.mp h
  obtain ⟨h1, h2⟩ := List.mem_filter.mp hz
  exact ⟨z.2.1, h1, Nat.blt_eq.mp h2 |> fun x => x⟩
theorem kws_all {pos : Pos} {env : Env} : ∀ {kws : List Keyword}, kwAll kws = true → (backToKw pos (keywordEach kws env)).all (·.1.isSome) = true ∧ (backToKw pos (keywordEach kws env)).filterMap (·.1) = ksOf kws ∧ (backToKw pos (keywordEach kws env)).any (·.1.isNone) = false
  | [], _ => ⟨rfl, rfl, rfl⟩
  | ⟨n, e, p⟩ :: r, h => by
    have h2 : (n.isSome && kwAll r) = true := h
    rw [Bool.and_eq_true] at h2
    obtain ⟨i1, i2, i3⟩ := kws_all (pos := pos) (env := env) h2.2
    cases n with
    | none => exact absurd h2.1 (by decide)
    | some x =>
      refine ⟨?_, ?_, ?_⟩
      · show (true && (backToKw pos (keywordEach r env)).all (·.1.isSome)) = true
        rw [i1]; rfl
      · show x :: (backToKw pos (keywordEach r env)).filterMap (·.1) = x :: ksOf r
        rw [i2]
      · show (false || (backToKw pos (keywordEach r env)).any (·.1.isNone)) = false
        rw [i3]; rfl
theorem dm_ok {m : Str} {T : String} {f : DM} (hK : X.K = G.K) (hu : X.A.units + 1 < cLine) (e : mDM m = some (T, f)) : ∃ id r, PlainAttrs T ∧ Slot T m id ∧ typeOf (.builtin id) = pure (.type "method_descriptor") ∧ MtR X id r ∧ OpM G f r := by
  unfold mDM at e
  split at e
  · rename_i hm
    have hm' := beq_iff_eq.mp hm
    subst hm'
    cases e
    exact ⟨_, _, PySem.F.plainAttrs_list, PySem.F.slot_list_append, PySem.F.type_list_append, mt_append, om_append⟩
  split at e
  · rename_i hm
    have hm' := beq_iff_eq.mp hm
    subst hm'
    cases e
    exact ⟨_, _, PySem.F.plainAttrs_dict, PySem.F.slot_dict_get, PySem.F.type_dict_get, mt_get hu, om_get⟩
  split at e
  · rename_i hm
    have hm' := beq_iff_eq.mp hm
    subst hm'
    cases e
    exact ⟨_, _, PySem.F.plainAttrs_list, PySem.F.slot_list_extend, PySem.F.type_list_extend, mt_extend, om_extend⟩
  split at e
  · rename_i hm
    have hm' := beq_iff_eq.mp hm
    subst hm'
    cases e
    exact ⟨_, _, PySem.F.plainAttrs_list, PySem.F.slot_list_pop, PySem.F.type_list_pop, mt_popLA, om_popL⟩
  split at e
  · rename_i hm
    have hm' := beq_iff_eq.mp hm
    subst hm'
    cases e
    exact ⟨_, _, PySem.F.plainAttrs_list, PySem.F.slot_list_index, PySem.F.type_list_index, mt_index, by rw [hK]; exact om_indexI⟩
  · cases e
theorem meth_ok {m : Str} {T : String} {f : DM} {o : Expr} {es : List Expr} {ap pos : Pos} {to : DE} {t : DA} (hK : X.K = G.K) (hu : X.A.units + 1 < cLine) (e : mDM m = some (T, f)) (h0 : isCall0 o = false) (hl : (ap.endLine == pos.line) = true) (hn : es.length < 30) (hs : noStar es = true)
    (ho : PE X o (LE G W to)) (ha : PA X es (LA G W t)) (ht : es = [] → t = cNil) : PE X (.Call (.Attribute o m ap) es [] pos) (LE G W (cM T f to t)) := by
  obtain ⟨id, r, m1, m2, m3, m4, m5⟩ := dm_ok (X := X) (G := G) hK hu e
  cases es with
  | nil =>
    rw [ht rfl]
    exact se_m0 hK m5 m1 m2 m3 m4 ho (ab_plain h0) hl
  | cons e es =>
    obtain ⟨h1, h2⟩ := noStar_cons hs
    refine se_m hK m5 m1 m2 m3 m4 ho ha (ab_plain h0) ?_ hl (star_cons h1) (star_any h2)
    rw [star_all hs]
    simp only [keywordEach, backToKw, List.map_nil, List.all_nil, Bool.true_and, Bool.and_true]
    have : (e :: es).length + ([] : List Keyword).length + (if ([] : List Keyword).isEmpty then 0 else 1) < 30 := by simpa using hn
    exact decide_eq_true this
/-- a call of a method, as it runs -/
theorem meth_ev {o : Expr} {m : Str} {es : List Expr} {ap pos : Pos} {env : Env} (h0 : isCall0 o = false) (hl : (ap.endLine == pos.line) = true) (hs : noStar es = true) (hn : es.length < 30) : eval (.Call (.Attribute o m ap) es [] pos) env = (do
      let recv ← eval o env
      standAt ap.atName
      let (fn, own) ← holding [recv] (getMethod recv m (do return (← importBound o env).getD true))
      callWith pos fn own (backTo pos (starEach es env)) (backToKw pos (keywordEach [] env))) := by
  show (do
    let ov ← attributeBase o m env (eval o env)
    standAt ap.atName
    methodCall o m ap pos env ov (es.length + 0) (backTo pos (starEach es env)) (backToKw pos (keywordEach [] env))) = _
  rw [ab_plain h0]
  have few : methodCallForm (es.length + 0) (backTo pos (starEach es env)) (backToKw pos (keywordEach [] env)) = true := by
    unfold methodCallForm
    rw [star_all hs]
    show (true && true && decide (es.length + 0 + 0 < 30)) = true
    rw [decide_eq_true (by omega)]; rfl
  unfold methodCall calleeOf methodCallPos
  rw [few]
  simp only [if_true, Bool.not_true, Bool.false_or, hl, pure_bind]
theorem call_ok (o : EOk G C X W) {E : Expr → DE} (h : ∀ e, PE X e (LE G W (E e))) {f : Expr} {es : List Expr} {kws : List Keyword} {pos : Pos} : PE X (.Call f es kws pos) (LE G W (rdCall E C f es kws pos)) := by
  unfold rdCall
  split
  · rename_i x px
    split
    · exact se_bad
    · rename_i hgx
      obtain ⟨hg, hd⟩ := o.gl hgx
      split
      · rename_i pv l s he hl
        split
        · rename_i b1 b2
          obtain ⟨u, c1, c2, c3⟩ := o.g.hot _ (look_mem hl) (Nat.blt_eq.mp b1)
          have lv : l + 1 ≤ C.lv := Nat.blt_eq.mp b1
          obtain ⟨ht1, ht2⟩ := o.hot _ he
          have cp := c3 X W o.S o.tk ht1 (ht2.mono lv)
          cases es with
          | nil => exact se_call0 hg (by rw [o.S.mg]; exact c1) (by rw [o.S.K]; exact c2) cp hd
          | cons e es =>
            obtain ⟨h1, h2⟩ := noStar_cons b2
            exact se_call hg (by rw [o.S.mg]; exact c1) (by rw [o.S.K]; exact c2) cp (args_ok h _) hd (star_cons h1) (star_any h2)
        · exact se_bad
      split
      · rename_i l s hl he
        split
        · rename_i b1 b2
          obtain ⟨u, c1, c2, c3⟩ := o.g.call _ (look_mem hl) (Nat.blt_eq.mp b1)
          have lv : l + 1 ≤ C.lv := Nat.blt_eq.mp b1
          have cp := c3 X W o.S o.tk ((o.room he).mono lv)
          cases es with
          | nil => exact se_call0 hg (by rw [o.S.mg]; exact c1) (by rw [o.S.K]; exact c2) cp hd
          | cons e es =>
            obtain ⟨h1, h2⟩ := noStar_cons b2
            exact se_call hg (by rw [o.S.mg]; exact c1) (by rw [o.S.K]; exact c2) cp (args_ok h _) hd (star_cons h1) (star_any h2)
        · exact se_bad
      · split
        · rename_i l s he hl
          split
          · rename_i b1 b2
            obtain ⟨u, c1, c2, c3⟩ := o.g.callK _ (look_mem hl) (Nat.blt_eq.mp b1)
            have lv : l + 1 ≤ C.lv := Nat.blt_eq.mp b1
            have cp := c3 X W o.S o.tk ((o.room he).mono lv)
            cases es with
            | nil => exact se_callK0 hg (by rw [o.S.mg]; exact c1) (by rw [o.S.K]; exact c2) cp sk_nil hd rfl rfl rfl
            | cons e es =>
              obtain ⟨h1, h2⟩ := noStar_cons b2
              refine se_callK hg (by rw [o.S.mg]; exact c1) (by rw [o.S.K]; exact c2) cp (args_ok h _) sk_nil hd (star_cons h1) rfl rfl ?_
              rw [star_any b2]; rfl
          · exact se_bad
        · split
          · rename_i hf hi hno
            have hx := beq_iff_eq.mp hi
            subst hx
            exact isi_ok o h
          · rename_i e r hf hi hno
            split
            · rename_i b hb he hs
              exact blt_ok o.S.K (o.calm he) hb hg (o.free hf) hd hs (args_ok h _)
            · exact se_bad
          · exact se_bad
  · rename_i x px k ks
    split
    · rename_i l s hgx he hl
      obtain ⟨hg, hd⟩ := o.gl hgx
      split
      · rename_i b1 b2 b3
        obtain ⟨u, c1, c2, c3⟩ := o.g.callK _ (look_mem hl) (Nat.blt_eq.mp b1)
        have lv : l + 1 ≤ C.lv := Nat.blt_eq.mp b1
        have cp := c3 X W o.S o.tk ((o.room he).mono lv)
        obtain ⟨k1, k2, k3⟩ := kws_all (pos := pos) (env := X.env) b3
        cases es with
        | nil =>
          refine se_callK0 hg (by rw [o.S.mg]; exact c1) (by rw [o.S.K]; exact c2) cp (kws_ok h _) hd k1 k2 ?_
          rw [k3]; rfl
        | cons e es =>
          obtain ⟨h1, h2⟩ := noStar_cons b2
          refine se_callK hg (by rw [o.S.mg]; exact c1) (by rw [o.S.K]; exact c2) cp (args_ok h _) (kws_ok h _) hd (star_cons h1) k1 k2 ?_
          rw [star_any b2, k3]; rfl
      · exact se_bad
    · exact se_bad
  · rename_i ob m ap
    split
    · rename_i tb hs he hm
      split
      · rename_i b2 b3 b4
        refine pe_some (f := fun q : Nat × DSp => cMeth1 (E ob) q.1 q.2 (rdA E es)) fun q hq => ?_
        obtain ⟨l, hl, lt⟩ := methTb_mem hq
        obtain ⟨fa, M, c3⟩ := o.g.meth _ (look_mem hm) _ hl lt
        have cp := c3 X W o.S o.tk ((o.room he).mono lt)
        have ev := meth_ev (m := m) (env := X.env) b2 b3 hs (Nat.blt_eq.mp b4)
        cases es with
        | nil => exact se_meth0 o.S.K M cp (h ob) ev
        | cons e es =>
          obtain ⟨h1, h2⟩ := noStar_cons hs
          exact se_meth1 o.S.K M cp (h ob) (args_ok h _) (star_cons h1) (star_any h2) ev
      · exact se_bad
    · rename_i he hm
      split
      · rename_i T f b1 b2 b3 b4
        exact meth_ok o.S.K (by have := o.un; omega) b1 b2 b3 (Nat.blt_eq.mp b4) he (h ob) (args_ok h es) (fun e => by rw [e]; rfl)
      · exact se_bad
    · exact se_bad
  · exact se_bad

/-! ### targets -/
theorem tgt_ok (o : EOk G C X W) (n : Nat) : (∀ e, PG X e (LG G (rdG C n e).1 (rdG C n e).2)) ∧ ∀ es, noStar es = true → PGs X es (LGs G (rdG.go C n es).1 (rdG.go C n es).2) := by
  have many : ∀ n, (∀ e, PG X e (LG G (rdG C n e).1 (rdG C n e).2)) → ∀ es, noStar es = true → PGs X es (LGs G (rdG.go C n es).1 (rdG.go C n es).2) := by
    intro n h es
    induction es with
    | nil => intro _; unfold rdG.go; exact sgs_nil
    | cons e es ih =>
      intro hs
      obtain ⟨h1, h2⟩ := noStar_cons hs
      unfold rdG.go
      exact sgs_cons (asg_cons h1) (h e) (ih h2)
  have one : ∀ n e, PG X e (LG G (rdG C n e).1 (rdG C n e).2) := by
    intro n
    induction n with
    | zero => intro e; unfold rdG; exact sg_bad
    | succ n ih =>
      intro e
      unfold rdG
      split
      · rename_i x p
        split
        · rename_i i e1 e2
          unfold Cfg.asg at e2
          rw [Bool.or_eq_true, Bool.and_eq_true] at e2
          rcases e2 with e2 | ⟨e2, e3⟩
          · have e2' : C.sc.names.lookup x = some .local := beq_iff_eq.mp e2
            rw [← o.sc] at e2'
            exact sg_name (by rw [o.N]; exact o.nd) (by rw [o.N]; exact ixOf_ok e1) (.inl e2') (.inr e2')
          · have e2' : C.sc.names.lookup x = some .cell := beq_iff_eq.mp e2
            rw [← o.sc] at e2'
            exact sg_name (by rw [o.N]; exact o.nd) (by rw [o.N]; exact ixOf_ok e1) (.inr e2') (.inl (o.fnT x e3))
        · exact sg_bad
      · rename_i es k p
        split
        · rename_i hs he
          exact sg_tup o.S.K (o.calm he) (many n ih es hs) asg_len (asg_star hs)
        · exact sg_bad
      · exact sg_bad
  exact ⟨one n, many n (one n)⟩

/-! ### comprehensions -/
theorem ixOf_none {N : List Str} {x : Str} (h : ixOf N x = none) : x ∉ N := by
  intro m
  obtain ⟨k, hk, e⟩ := List.mem_iff_getElem.mp m
  have hz : (x, k) ∈ N.zip (List.range N.length) := by
    refine List.mem_iff_getElem.mpr ⟨k, by simpa using hk, ?_⟩
    simp [e]
  have key : ∀ {l : List (Str × Nat)}, (x, k) ∈ l → l.lookup x ≠ none := by
    intro l
    induction l with
    | nil => intro m; cases m
    | cons q r ih =>
      intro m
      simp only [List.lookup]
      split
      · intro z; cases z
      · rename_i hb
        rcases List.mem_cons.mp m with e | m
        · rw [← e] at hb
          simp at hb
        · exact ih m
  exact key hz h
theorem blk_ok (hN : X.N = C.N) (hsc : X.env.scope = C.sc) {scope : Scope} (h : blkB C.sc scope = true) : BlkOk X.N X.env.scope scope (ownOf C.N scope.names) := by
  unfold blkB at h
  rw [Bool.and_eq_true, Bool.and_eq_true] at h
  obtain ⟨h1, h2, h3⟩ := h
  refine ⟨of_decide_eq_true h1, fun y hy => of_decide_eq_true (List.all_eq_true.mp h2 y hy), fun p hp => ?_, fun y hy e => ?_, fun y hy e => ?_⟩
  · unfold ownOf at hp
    obtain ⟨q, _, e⟩ := List.mem_filterMap.mp hp
    split at e
    · obtain ⟨i, e1, rfl⟩ := Option.map_eq_some_iff.mp e
      rw [hN]
      exact ixOf_ok e1
    · cases e
  · have := List.all_eq_true.mp h3 y hy
    rw [hsc]
    rw [decide_eq_true e] at this
    have this' : (nkB (C.sc.names.lookup y.1) .cell || nkB (C.sc.names.lookup y.1) .free) = true := this
    rw [Bool.or_eq_true] at this'
    exact this'.imp of_decide_eq_true of_decide_eq_true
  · cases hx : ixOf C.N y.1 with
    | none => exact .inr (by rw [hN]; exact ixOf_none hx)
    | some i =>
      refine .inl (List.mem_map.mpr ⟨(y.1, i), List.mem_filterMap.mpr ⟨y, hy, ?_⟩, rfl⟩)
      have hk : isOwnK y.2 = true := by rcases e with e | e <;> rw [e] <;> rfl
      rw [if_pos hk, hx]; rfl
theorem rel_eq {scope : Scope} {env : Env} : relabel scope env = relS scope env.scope := rfl
theorem EOk.blk (o : EOk G C X W) (he : C.exv = none) (scope : Scope) (s : Shared) (H : Hp) (A : Addr) (cl : List (Str × Addr)) (fp : List Addr) : EOk G (C.blk scope) (X.blk s H scope (compEnvC scope cl A X.env) fp) (fun _ _ _ _ => False) where
  S := ⟨o.S.K, o.S.P, o.S.w, o.S.mg, o.S.base⟩
  g := o.g
  N := o.N
  nd := o.nd
  sc := by
    show relabel scope X.env = relS scope C.sc
    rw [rel_eq, o.sc]
  tk := takesN
  room := o.room
  un := o.un
  calm := o.calm
  fnT := fun x h => h
  ex := fun a x e => by
    have e' : C.exv = some (a, x) := e
    rw [he] at e'
    cases e'
  hot := fun p e => by
    have e' : C.exv = some p := e
    rw [he] at e'
    cases e'
/-- what is true of a pair of readings -/
structure RdOk (r : Rd) : Prop where
  E : ∀ {G : Pg} {C : Cfg} {X : Cx} {W : WX}, EOk G C X W → ∀ e, PE X e (LE G W (r.E C e))
  T : ∀ {G : Pg} {C : Cfg} {X : Cx} {W : WX}, EOk G C X W → ∀ e, PT X e (LT G W (r.T C e))
theorem iter_ok {r : Rd} (ro : RdOk r) (o : EOk G C X W) (tg iter : Expr) : PI X tg iter (LI G W (rdI r C tg iter)) := by
  have pl : ∀ e, PI X tg e (LI G W (iSeq (r.E C e))) := fun e => si_seq o.S.K (ro.E o e)
  have as : ∀ es, PA X es (LA G W (rdA (r.E C) es)) := args_ok (ro.E o)
  unfold rdI
  split
  · rename_i x p es pos
    split
    · rename_i a hh
      rw [Bool.and_eq_true] at hh
      obtain ⟨hg, hd⟩ := o.gl hh.1
      have hm := o.free hh.2
      split
      · rename_i hx; have hx' := beq_iff_eq.mp hx; subst hx'
        split
        · exact si_bad
        · rename_i hs
          exact si_rng1 hg hm (star_cons (by simpa using hs)) (as _)
      split
      · rename_i hx; have hx' := beq_iff_eq.mp hx; subst hx'
        split
        · exact si_bad
        · rename_i hs
          simp only [Bool.or_eq_true, not_or, Bool.not_eq_true, Bool.not_eq_false'] at hs
          cases tg <;> first | (exfalso; exact Bool.false_ne_true hs.2) | skip
          exact si_enum o.S.K hg hm (star_cons hs.1) (as _)
      split
      · rename_i hx; have hx' := beq_iff_eq.mp hx; subst hx'
        split
        · exact si_bad
        · rename_i hs
          exact si_rev o.S.K hg hm (star_cons (by simpa using hs)) (ro.E o a)
      · exact pl _
    · rename_i a b hh
      rw [Bool.and_eq_true] at hh
      obtain ⟨hg, hd⟩ := o.gl hh.1
      have hm := o.free hh.2
      split
      · rename_i hx; have hx' := beq_iff_eq.mp hx; subst hx'
        split
        · exact si_bad
        · rename_i hs
          simp only [Bool.or_eq_true, not_or, Bool.not_eq_true] at hs
          refine si_rng2 hg hm ?_ (star_cons hs.2) (as _)
          rw [star_cons hs.1, star_cons hs.2]; rfl
      split
      · rename_i hx; have hx' := beq_iff_eq.mp hx; subst hx'
        split
        · exact si_bad
        · rename_i hs
          simp only [Bool.or_eq_true, not_or, Bool.not_eq_true, Bool.not_eq_false'] at hs
          cases tg <;> first | (exfalso; exact Bool.false_ne_true hs.2) | skip
          refine si_zip o.S.K hg hm (star_cons hs.1.1) (star_any ?_) (as _)
          show (!isStar b && true) = true
          rw [hs.1.2]; rfl
      · exact pl _
    · exact pl _
  · exact pl _
theorem lt_yes : ∀ σ H Q, LT G W tYesD σ H Q → tYes σ H Q := by
  rintro σ H Q ⟨e, h, P, R, re, rh, t, fin, x⟩
  exact fin true h H t (TupLe.refl H) rh
theorem ifs_ok {T : Expr → DT} (h : ∀ e, PT X e (LT G W (T e))) : ∀ ifs : List Expr, PTs X ifs (LT G W (rdIfs T ifs))
  | [] => ⟨fun pins s σ H Q I l => pts_nil.run pins s σ H Q I (lt_yes σ H Q l)⟩
  | [c] => pts_one (h c)
  | a :: b :: r => ⟨fun _ _ _ _ _ _ ⟨_, _, _, _, _, _, z, _⟩ => z.elim⟩
/-- what a list comprehension's reading says -/
theorem lc_parts {r : Rd} (ro : RdOk r) (o : EOk G C X W) {elt : Expr} {gs : List Comprehension} {scope : Scope} : rdLc r C elt gs scope = cBad ∨ (∃ tg iter ifs, gs = [⟨tg, iter, ifs, 0⟩] ∧ C.exv = none ∧ BlkOk X.N X.env.scope scope (ownOf C.N scope.names) ∧ (∀ i ∈ (rdG (C.blk scope) 5 tg).1, i ∈ (ownOf C.N scope.names).map (·.2)) ∧ isSet iter = false ∧
    rdLc r C elt gs scope = cLc (rdI r C tg iter) (rdG (C.blk scope) 5 tg).2 (rdIfs (r.T (C.blk scope)) ifs) (r.E (C.blk scope) elt) ((ownOf C.N scope.names).map (·.2))) ∨
    ∃ tg iter ifs tg1 iter1 ifs1, gs = [⟨tg, iter, ifs, 0⟩, ⟨tg1, iter1, ifs1, 0⟩] ∧ C.exv = none ∧ BlkOk X.N X.env.scope scope (ownOf C.N scope.names) ∧ (∀ i ∈ (rdG (C.blk scope) 5 tg).1, i ∈ (ownOf C.N scope.names).map (·.2)) ∧ (∀ i ∈ (rdG (C.blk scope) 5 tg1).1, i ∈ (ownOf C.N scope.names).map (·.2)) ∧ isSet iter = false ∧ isSet iter1 = false ∧
    rdLc r C elt gs scope = cLc2 (rdI r C tg iter) (rdG (C.blk scope) 5 tg).2 (rdIfs (r.T (C.blk scope)) ifs) (rdI r (C.blk scope) tg1 iter1) (rdG (C.blk scope) 5 tg1).2 (rdIfs (r.T (C.blk scope)) ifs1) (r.E (C.blk scope) elt) ((ownOf C.N scope.names).map (·.2)) (rdG (C.blk scope) 5 tg1).1 := by
  unfold rdLc
  split
  · rename_i tg iter ifs a he
    split
    · rename_i hh
      rw [Bool.and_eq_true, Bool.and_eq_true, Bool.and_eq_true] at hh
      obtain ⟨h0, h1, h2, h3⟩ := hh
      have h0' := of_decide_eq_true h0
      subst h0'
      exact .inr (.inl ⟨tg, iter, ifs, rfl, he, blk_ok o.N o.sc h1, fun i hi => by simpa using List.all_eq_true.mp h2 i hi, by simpa using h3, rfl⟩)
    · exact .inl rfl
  · rename_i tg iter ifs a tg1 iter1 ifs1 a1 he
    split
    · rename_i hh
      rw [Bool.and_eq_true, Bool.and_eq_true, Bool.and_eq_true, Bool.and_eq_true, Bool.and_eq_true, Bool.and_eq_true] at hh
      obtain ⟨h0, h0b, h1, h2, h2b, h3, h3b⟩ := hh
      have h0' := of_decide_eq_true h0
      have h0b' := of_decide_eq_true h0b
      subst h0' h0b'
      exact .inr (.inr ⟨tg, iter, ifs, tg1, iter1, ifs1, rfl, he, blk_ok o.N o.sc h1, fun i hi => by simpa using List.all_eq_true.mp h2 i hi, fun i hi => by simpa using List.all_eq_true.mp h2b i hi, by simpa using h3, by simpa using h3b, rfl⟩)
    · exact .inl rfl
  · exact .inl rfl
theorem lc_ok {r : Rd} (ro : RdOk r) (o : EOk G C X W) {elt : Expr} {gs : List Comprehension} {scope : Scope} {pos : Pos} : PE X (.ListComp elt gs scope pos) (LE G W (rdLc r C elt gs scope)) := by
  rcases lc_parts (elt := elt) (gs := gs) (scope := scope) ro o with e | ⟨tg, iter, ifs, rfl, he, hb, hS, hi, e⟩ | ⟨tg, iter, ifs, tg1, iter1, ifs1, rfl, he, hb, hS, hS1, hi, hi1, e⟩
  · rw [e]; exact se_bad
  · rw [e]
    exact se_lc (o.calm he) (by rw [o.N]; exact o.nd) hS (iter_ok ro o tg iter) hb (fun s H A cl fp => (tgt_ok (o.blk he scope s H A cl fp) 5).1 tg) (fun s H A cl fp => ifs_ok (ro.T (o.blk he scope s H A cl fp)) ifs)
      (fun s H A cl fp => ro.E (o.blk he scope s H A cl fp) elt) fun x => set_plain hi
  · rw [e]
    exact se_lc2 (o.calm he) (by rw [o.N]; exact o.nd) hS (fun _ z => z) hS1 (iter_ok ro o tg iter) hb (fun s H A cl fp => (tgt_ok (o.blk he scope s H A cl fp) 5).1 tg) (fun s H A cl fp => ifs_ok (ro.T (o.blk he scope s H A cl fp)) ifs)
      (fun s H A cl fp => iter_ok ro (o.blk he scope s H A cl fp) tg1 iter1) (fun s H A cl fp => (tgt_ok (o.blk he scope s H A cl fp) 5).1 tg1) (fun s H A cl fp => ifs_ok (ro.T (o.blk he scope s H A cl fp)) ifs1)
      (fun s H A cl fp => ro.E (o.blk he scope s H A cl fp) elt) (fun x => set_plain hi) fun env x => set_plain hi1
/-! ### all expressions -/
theorem part_ok {E : Expr → DE} (h : ∀ e, PE X e (LE G W (E e))) (lo : Option Expr) : (lo = none ∧ rdPart E lo = cNoPart) ∨ ∃ e d, lo = some e ∧ rdPart E lo = cPart d ∧ PE X e (LE G W d) := by
  cases lo with
  | none => exact .inl ⟨rfl, rfl⟩
  | some e => exact .inr ⟨e, E e, rfl, rfl, h e⟩
theorem spc_ok (o : EOk G C X W) {m : Str} {tb : List (Nat × Nat × DSp)} (e : C.g.meth.lookup m = some tb) (he : C.exv = none) : ∀ q ∈ methTb C.lv tb, SpcG G X m q := fun q hq => by
  obtain ⟨l, hl, lt⟩ := methTb_mem hq
  obtain ⟨f, M, c⟩ := o.g.meth _ (look_mem e) _ hl lt
  exact ⟨f, M, c X W0 o.S takesN ((o.room he).mono lt)⟩
theorem spc_in (o : EOk G C X W) {m : Str} {tb : List (Nat × Nat × DSp)} (e : C.g.meth.lookup m = some tb) (he : C.exv = none) : ∀ q ∈ methTb (C.lv - 1) tb, SpcG G (cxIn X) m q := fun q hq => by
  obtain ⟨l, hl, lt⟩ := methTb_mem hq
  have lt' : l < C.lv - 1 := lt
  obtain ⟨f, M, c⟩ := o.g.meth _ (look_mem e) _ hl (show l < C.lv by omega)
  refine ⟨f, M, c (cxIn X) W0 ⟨o.S.K, o.S.P, o.S.w, o.S.mg, o.S.base⟩ takesN ?_⟩
  exact Room.in1 (k := l + 1) ((o.room he).mono (by omega))
theorem cmpO_ok (o : EOk G C X W) (op : CmpOp) (b : Expr) : ∃ rr, OpR X (compareOp op) rr ∧ OpD G (cmpO C op (cmpX op b)) rr := by
  obtain ⟨rr, h1, h2⟩ := cmpX_ok (G := G) (X := X) op b o.un
  have h2' := h2 o.S.K
  have hu := o.un
  unfold cmpO
  split
  · rename_i he
    split
    · rename_i tb e
      exact ⟨_, or_eqO (by omega) o.S.K h1 h2' (spc_ok o e he), od_of⟩
    · exact ⟨rr, h1, h2'⟩
  · rename_i he
    split
    · rename_i tb e
      exact ⟨_, or_neO (by omega) o.S.K h1 h2' (spc_in o e he), od_of⟩
    · exact ⟨rr, h1, h2'⟩
  · rename_i he
    split
    · rename_i tb e
      exact ⟨_, or_inO (.inl ⟨rfl, rfl⟩) o.S.K h1 h2' (spc_ok o e he), od_of⟩
    · exact ⟨rr, h1, h2'⟩
  · rename_i he
    split
    · rename_i tb e
      exact ⟨_, or_inO (.inr ⟨rfl, rfl⟩) o.S.K h1 h2' (spc_ok o e he), od_of⟩
    · exact ⟨rr, h1, h2'⟩
  · exact ⟨rr, h1, h2'⟩
theorem call2_ok (o : EOk G C X W) {E : Expr → DE} (h : ∀ e, PE X e (LE G W (E e))) {f : Expr} {es : List Expr} {kws : List Keyword} {pos : Pos} : PE X (.Call f es kws pos) (LE G W (rdCall2 E C f es kws pos)) := by
  unfold rdCall2
  split
  · rename_i a ea
    obtain ⟨p, p2, q, rfl, rfl, rfl⟩ := lenSetA_ok ea
    split
    · rename_i hb he
      simp only [Bool.and_eq_true, Bool.not_eq_true'] at hb
      obtain ⟨b1, b2, b3, b4, b5⟩ := hb
      exact se_lenS o.S.K (o.calm he) (o.gl b1).1 (o.free b2) (o.gl b3).1 (o.free b4) (h a) (star_cons b5)
    · exact se_bad
  · split
    · rename_i a tb e
      have e2 : ∃ p, f = .Name "len" p ∧ es = [a] ∧ kws = [] ∧ C.g.meth.lookup ("__len__" : Str) = some tb ∧ C.exv = none := by
        unfold ownLen at e
        split at e
        · rename_i x px a'
          split at e
          · rename_i tb' hx hm he
            cases e
            rw [beq_iff_eq.mp hx]
            exact ⟨_, rfl, rfl, rfl, hm, he⟩
          · cases e
        · cases e
      obtain ⟨p, rfl, rfl, rfl, hm, he⟩ := e2
      split
      · rename_i hb
        simp only [Bool.and_eq_true, Bool.not_eq_true'] at hb
        obtain ⟨b1, b2, b3⟩ := hb
        exact se_B (cr_lenO o.S.K cr_lenA (by rw [o.S.K]; exact ob_len) (spc_in o hm he)) ob_of (o.gl b1).1 (o.free b2) boot_len (by decide) (o.gl b1).2 (star_cons b3) rfl (args_ok h _)
      · exact se_bad
    · exact call_ok o h
theorem rdE_ok {r : Rd} (ro : RdOk r) (o : EOk G C X W) (e : Expr) : PE X e (LE G W (rdE r C e)) := by
  have hE := ro.E o
  have hT := ro.T o
  have hu : X.A.units + 1 < cLine := by have := o.un; omega
  unfold rdE
  split
  · split
    · exact se_val pe_int fun _ => rep_int
    · exact se_val pe_bl fun _ => rep_bl
    · exact se_val pe_non fun _ => rep_non
    · exact se_val pe_str fun _ => rep_str
    · exact se_bad
  · exact name_ok o
  · split
    · rename_i f e1
      obtain ⟨rr, h1, h2⟩ := op_ok (G := G) (X := X) e1
      exact se_bin h1 (h2 o.S.K) (hE _) (hE _)
    · exact se_bad
  · exact se_not (hE _)
  · exact se_neg (hE _)
  · exact boolV_ok hE _
  · exact se_ifE (hT _) (hE _) (hE _)
  · split
    · exact se_bad
    · rename_i hs
      obtain ⟨rr, h1, h2⟩ := cmpO_ok o _ _
      exact se_cmp h1 h2 (behind_no (by simpa using hs)) (hE _) (hE _)
  · split
    · exact se_bad
    · rename_i hs
      obtain ⟨rr, h1, h2⟩ := cmp_ok (G := G) (X := X) _ o.un
      obtain ⟨rr', h1', h2'⟩ := cmp_ok (G := G) (X := X) _ o.un
      exact se_chain h1 h1' (h2 o.S.K) (h2' o.S.K) (last_no (by simpa using hs)) (hE _) (hE _) (hE _)
  · exact se_tup (args_ok hE _)
  · exact se_lst (args_ok hE _)
  · split
    · split
      · exact se_slice o.S.K (hE _) (part_ok hE _) (part_ok hE _)
      · split
        · rename_i st hst lo hi hm
          unfold isM1 at hm
          split at hm
          · exact se_rev o.S.K (hE _)
          · cases hm
        · exact se_bad
    · split
      · exact se_bad
      · rename_i hs
        exact se_ix o.S.K hu (ix_plain (by simpa using hs)) (hE _) (hE _)
  · split
    · rename_i ix h0 hf
      exact se_fld o.S.K (o.g.fld _ (look_mem hf)) (ab_plain h0) (hE _)
    · rename_i h0 hf
      split
      · rename_i tb hp he
        refine pe_some (f := fun q : Nat × DSp => cProp1 (r.E C _) q.1 q.2) fun q hq => ?_
        obtain ⟨l, hl, lt⟩ := methTb_mem hq
        obtain ⟨k, f, p, fd, ps, c1, c2, c3, c4, c5⟩ := o.g.prop _ (look_mem hp) _ hl lt
        exact se_prop1 o.S c1 c2 c3 c4 ((o.room he).mono (Nat.succ_le_of_lt (Nat.lt_of_le_of_lt c5 lt))) (ab_plain h0) (hE _)
      · exact se_bad
    · exact se_bad
  · exact se_dict0
  · exact se_dict1 (hE _) (hE _)
  · exact call2_ok o hE
  · exact lc_ok ro o
  · exact se_bad
theorem rdT_ok {r : Rd} (ro : RdOk r) (o : EOk G C X W) (e : Expr) : PT X e (LT G W (rdT r C e)) := by
  have hE := ro.E o
  have hT := ro.T o
  unfold rdT
  split
  · exact st_not (hT _)
  · exact (bool_ok hT _).pt
  · split
    · exact st_bad
    · rename_i hs
      obtain ⟨rr, h1, h2⟩ := cmpO_ok o _ _
      exact st_cmp h1 h2 (behind_no (by simpa using hs)) (hE _) (hE _)
  · split
    · exact st_bad
    · rename_i hs
      obtain ⟨rr, h1, h2⟩ := cmp_ok (G := G) (X := X) _ o.un
      obtain ⟨rr', h1', h2'⟩ := cmp_ok (G := G) (X := X) _ o.un
      exact st_chain h1 h1' (h2 o.S.K) (h2' o.S.K) (last_no (by simpa using hs)) (hE _) (hE _) (hE _)
  · exact st_bad
  · exact st_bad
  · rename_i n1 n2 n3 n4 n5 n6
    refine st_tru o.S.K (hE _) fun w => true_plain ?_
    cases e <;> first | rfl | exact absurd rfl (n6 _ _ _ _) | exact absurd rfl (n5 _ _ _ _) | exact absurd rfl (n2 _ _ _) | skip
    case UnaryOp op a p => cases op <;> first | rfl | exact absurd rfl (n1 _ _)
theorem rd_ok : ∀ n, RdOk (rd n)
  | 0 => ⟨fun _ _ => se_bad, fun _ _ => st_bad⟩
  | n + 1 => ⟨fun o e => rdE_ok (rd_ok n) o e, fun o e => rdT_ok (rd_ok n) o e⟩
end
end DW

/-! DW, part 13: the readings are true (statements), defs keep their promises. -/
namespace DW
open PySem L2 PySem.Spec PyProof.Rows
structure SOk (G : Pg) (C : Cfg) (X : Cx) (W : WX) : Prop where
  e : EOk G C X W
  st : X.stack = X.env :: X.outer
  fr : X.env.frame = some X.env.locals
  ps : PassesOwn (model X.prog X.w) X.A X.env X.xe
def SsOk (SS : SsR) : Prop := ∀ {G : Pg} {C : Cfg} {X : Cx} {W : WX}, SOk G C X W → ∀ ss, PSs X ss (LS G W (SS C ss))
theorem sole {t v : Expr} {l : Nat} {env : Env} {b : Bool} (h : swapsWith v (some t) l env = pure b) : swapsWithSole [t] v l env = pure b := by
  show swapsWith v (some t) l env = pure b
  exact h
section
variable {G : Pg} {C : Cfg} {X : Cx} {W : WX}
theorem rdE_lc {n : Nat} {elt : Expr} {gs : List Comprehension} {scope : Scope} {p : Pos} : (rd (n + 1)).E C (.ListComp elt gs scope p) = rdLc (rd n) C elt gs scope := rfl
theorem ss_par2 {i j : Nat} {x y : Str} {a b : Expr} {t : DA} {px py pt pos : Pos} {kt k2 pt2} (hc : X.calm = true) (hN : X.N.Nodup) (hi : X.N[i]? = some x) (hj : X.N[j]? = some y) (hij : i ≠ j)
    (hx : X.env.scope.names.lookup x = some .local) (hy : X.env.scope.names.lookup y = some .local) (ha : PA X [a, b] (LA G W t))
    (hw : swappedStores [.Tuple [.Name x px, .Name y py] kt pt] (.Tuple [a, b] k2 pt2) X.env = pure (some [x, y])) :
    PS X (.Assign [.Tuple [.Name x px, .Name y py] kt pt] (.Tuple [a, b] k2 pt2) pos) (LS G W (sPar2 i j t)) := ps_imp (ps_par hc hN hi hj hij hx hy ha hw) (by
  rintro D σ H ⟨e, h, D', re, rh, z, l⟩
  refine LA.mk re rh z (l.x re) fun ds h1 vs H1 t1 tl1 rh1 r1 re1 x1 => ?_
  obtain ⟨u, v, rfl, q⟩ := t1
  obtain ⟨v1, r, rfl, p1, r⟩ := r1.cons_
  obtain ⟨v2, r', rfl, p2, r⟩ := r.cons_
  rw [r.nil_]
  exact ⟨v1, v2, rfl, l.nx _ h1 _ H1 q tl1 rh1 ((re1.set p1).set p2)⟩)
theorem ss_par3 {i j k : Nat} {x y z : Str} {a b c : Expr} {t : DA} {px py pz pt pos : Pos} {kt k2 pt2} (hc : X.calm = true) (hN : X.N.Nodup) (hi : X.N[i]? = some x) (hj : X.N[j]? = some y) (hk : X.N[k]? = some z) (hij : i ≠ j) (hik : i ≠ k) (hjk : j ≠ k)
    (hx : X.env.scope.names.lookup x = some .local) (hy : X.env.scope.names.lookup y = some .local) (hz : X.env.scope.names.lookup z = some .local) (ha : PA X [a, b, c] (LA G W t))
    (hw : swappedStores [.Tuple [.Name x px, .Name y py, .Name z pz] kt pt] (.Tuple [a, b, c] k2 pt2) X.env = pure (some [x, y, z])) :
    PS X (.Assign [.Tuple [.Name x px, .Name y py, .Name z pz] kt pt] (.Tuple [a, b, c] k2 pt2) pos) (LS G W (sPar3 i j k t)) := ps_imp (ps_par3 hc hN hi hj hk hij hik hjk hx hy hz ha hw) (by
  rintro D σ H ⟨e, h, D', re, rh, z, l⟩
  refine LA.mk re rh z (l.x re) fun ds h1 vs H1 t1 tl1 rh1 r1 re1 x1 => ?_
  obtain ⟨u, v, w, rfl, q⟩ := t1
  obtain ⟨v1, r, rfl, p1, r⟩ := r1.cons_
  obtain ⟨v2, r', rfl, p2, r⟩ := r.cons_
  obtain ⟨v3, r'', rfl, p3, r⟩ := r.cons_
  rw [r.nil_]
  exact ⟨v1, v2, v3, rfl, l.nx _ h1 _ H1 q tl1 rh1 (((re1.set p1).set p2).set p3)⟩)
theorem noStarred {vs : List Expr} (h : noStar vs = true) : (vs.any fun | .Starred .. => true | _ => false) = false := by
  rw [List.any_eq_false]
  intro e he
  have := List.all_eq_true.mp h e he
  cases e <;> first | (exact Bool.noConfusion this) | simp
theorem par_ok (n : Nat) (so : SOk G C X W) {t v : Expr} {pos : Pos} : PS X (.Assign [t] v pos) (LS G W (rdPar (rd n) C t v)) := by
  have o := so.e
  have hE := (rd_ok n).E o
  have kd : ∀ x, X.env.kindOf x = C.kind x := fun x => by show X.env.scope.names.lookup x = _; rw [o.sc]; rfl
  unfold rdPar
  split
  · rename_i x px y py k1 pt a b k2 pt2 he
    split
    · rename_i i j h1 h2 h3
      simp only [Bool.and_eq_true, decide_eq_true_eq, Bool.not_eq_true', plainVs] at h3
      obtain ⟨⟨e1, e2, e3, e4⟩, e5, e0, e6, e7⟩ := h3
      have hx : X.env.scope.names.lookup x = some .local := by rw [o.sc]; exact e1
      have hy : X.env.scope.names.lookup y = some .local := by rw [o.sc]; exact e2
      have nxy : x ≠ y := fun z => by rw [z] at e4; simp at e4
      have i1 : X.N[i]? = some x := by rw [o.N]; exact ixOf_ok h1
      have i2 : X.N[j]? = some y := by rw [o.N]; exact ixOf_ok h2
      refine ss_par2 (o.calm he) (by rw [o.N]; exact o.nd) i1 i2 (fun z => by rw [z, i2] at i1; exact nxy (Option.some.inj i1).symm) hx hy (args_ok hE _) ?_
      have k1 : X.env.kindOf x = some .local := hx
      have k2 : X.env.kindOf y = some .local := hy
      have bk : X.env.blockKind = .function := by
        unfold Env.blockKind
        rw [o.sc, e0]
        rfl
      have ns := noStarred e5
      unfold swappedStores
      have nyx : (y == x) = false := by rw [beq_eq_false_iff_ne]; exact fun z => nxy z.symm
      obtain ⟨sa, sb⟩ := noStar_cons e5
      obtain ⟨sb, _⟩ := noStar_cons sb
      simp [bk, k1, k2, e3, e6, e7, nxy, nyx, Expr.pos, List.eraseDups, List.eraseDupsBy, List.eraseDupsBy.loop]
      intro q
      exfalso
      rcases q with q | q
      · cases a <;> first | exact Bool.noConfusion q | exact Bool.noConfusion sa
      · cases b <;> first | exact Bool.noConfusion q | exact Bool.noConfusion sb
    · exact ss_bad
  · rename_i x px y py z pz k1 pt a b c k2 pt2 he
    split
    · rename_i i j k h1 h2 h3 h4
      simp only [Bool.and_eq_true, decide_eq_true_eq, Bool.not_eq_true', plainVs] at h4
      obtain ⟨⟨e1, e2, e3, e4, e5, e6, e7, e8⟩, e9, e0, e10, e11⟩ := h4
      have hx : X.env.scope.names.lookup x = some .local := by rw [o.sc]; exact e1
      have hy : X.env.scope.names.lookup y = some .local := by rw [o.sc]; exact e2
      have hz : X.env.scope.names.lookup z = some .local := by rw [o.sc]; exact e3
      have nxy : x ≠ y := fun z => by rw [z] at e6; simp at e6
      have nxz : x ≠ z := fun z => by rw [z] at e7; simp at e7
      have nyz : y ≠ z := fun z => by rw [z] at e8; simp at e8
      have i1 : X.N[i]? = some x := by rw [o.N]; exact ixOf_ok h1
      have i2 : X.N[j]? = some y := by rw [o.N]; exact ixOf_ok h2
      have i3 : X.N[k]? = some z := by rw [o.N]; exact ixOf_ok h3
      refine ss_par3 (o.calm he) (by rw [o.N]; exact o.nd) i1 i2 i3 (fun z => by rw [z, i2] at i1; exact nxy (Option.some.inj i1).symm) (fun z => by rw [z, i3] at i1; exact nxz (Option.some.inj i1).symm) (fun z => by rw [z, i3] at i2; exact nyz (Option.some.inj i2).symm) hx hy hz (args_ok hE _) ?_
      have k1 : X.env.kindOf x = some .local := hx
      have k2 : X.env.kindOf y = some .local := hy
      have k3 : X.env.kindOf z = some .local := hz
      have bk : X.env.blockKind = .function := by
        unfold Env.blockKind
        rw [o.sc, e0]
        rfl
      have ns := noStarred e9
      unfold swappedStores
      have nyx : (y == x) = false := by rw [beq_eq_false_iff_ne]; exact fun z => nxy z.symm
      have nzx : (z == x) = false := by rw [beq_eq_false_iff_ne]; exact fun q => nxz q.symm
      have nzy : (z == y) = false := by rw [beq_eq_false_iff_ne]; exact fun q => nyz q.symm
      obtain ⟨sa, sb⟩ := noStar_cons e9
      obtain ⟨sb, sc⟩ := noStar_cons sb
      obtain ⟨sc, _⟩ := noStar_cons sc
      simp [bk, k1, k2, k3, e4, e5, e10, e11, nxy, nyx, nzx, nzy, Expr.pos, List.eraseDups, List.eraseDupsBy, List.eraseDupsBy.loop]
      intro q
      exfalso
      rcases q with q | q | q
      · cases a <;> first | exact Bool.noConfusion q | exact Bool.noConfusion sa
      · cases b <;> first | exact Bool.noConfusion q | exact Bool.noConfusion sb
      · cases c <;> first | exact Bool.noConfusion q | exact Bool.noConfusion sc
    · exact ss_bad
  · exact ss_bad
theorem asg_ok (n : Nat) (so : SOk G C X W) {t v : Expr} {pos : Pos} : PS X (.Assign [t] v pos) (LS G W (rdAsg (rd n) C t v)) := by
  have o := so.e
  have hE := (rd_ok n).E o
  have hu : X.A.units + 1 < cLine := by have := o.un; omega
  unfold rdAsg
  split
  · rename_i x p
    have h1 : ∀ v, swappedStores [.Name x p] v X.env = pure none := fun v => stores_t (fun _ _ _ z => nomatch z) (fun _ _ z => nomatch z)
    split
    · rename_i hc
      exact ss_asg rfl (sole (swaps_no hc)) (h1 _) (hE _) ((tgt_ok o 1).1 _)
    · rename_i elt gs scope lpos he hc
      split
      · rename_i i hi1 hl0
        have hl : X.env.scope.names.lookup x = some .local := by rw [o.sc]; exact beq_iff_eq.mp hl0
        have hi1' : X.N[i]? = some x := by rw [o.N]; exact ixOf_ok hi1
        have hnd : X.N.Nodup := by rw [o.N]; exact o.nd
        have sw : ∃ b : Bool, swapsWith (.ListComp elt gs scope lpos) (some (.Name x p)) pos.line X.env = pure b := ⟨_, rfl⟩
        obtain ⟨b, e1⟩ := sw
        cases b with
        | false => exact ss_asg rfl (sole e1) (h1 _) (hE _) (sg_name hnd hi1' (.inl hl) (.inr hl))
        | true =>
          cases n with
          | zero => exact ⟨fun _ _ _ _ _ _ ⟨_, _, _, _, _, z, _⟩ => z.elim⟩
          | succ n =>
            rw [rdE_lc]
            rcases lc_parts (elt := elt) (gs := gs) (scope := scope) (rd_ok n) o with e | ⟨tg, iter, ifs, rfl, he, hb, hS, hi, e⟩ | ⟨tg, iter, ifs, tg1, iter1, ifs1, rfl, he, hb, hS, hS1, hi, hi1, e⟩
            · rw [e]; exact ⟨fun _ _ _ _ _ _ ⟨_, _, _, _, _, z, _⟩ => z.elim⟩
            · rw [e]
              exact ss_lc (o.calm he) hnd hi1' hl e1 hS (iter_ok (rd_ok n) o tg iter) hb (fun s H A cl fp => (tgt_ok (o.blk he scope s H A cl fp) 5).1 tg)
                (fun s H A cl fp => ifs_ok ((rd_ok n).T (o.blk he scope s H A cl fp)) ifs) (fun s H A cl fp => (rd_ok n).E (o.blk he scope s H A cl fp) elt) fun x => set_plain hi
            · rw [e]
              exact ss_lc2 (o.calm he) hnd hi1' hl e1 hS (fun _ z => z) hS1 (iter_ok (rd_ok n) o tg iter) hb (fun s H A cl fp => (tgt_ok (o.blk he scope s H A cl fp) 5).1 tg) (fun s H A cl fp => ifs_ok ((rd_ok n).T (o.blk he scope s H A cl fp)) ifs)
                (fun s H A cl fp => iter_ok (rd_ok n) (o.blk he scope s H A cl fp) tg1 iter1) (fun s H A cl fp => (tgt_ok (o.blk he scope s H A cl fp) 5).1 tg1) (fun s H A cl fp => ifs_ok ((rd_ok n).T (o.blk he scope s H A cl fp)) ifs1)
                (fun s H A cl fp => (rd_ok n).E (o.blk he scope s H A cl fp) elt) (fun x => set_plain hi) fun env x => set_plain hi1
      · exact ss_bad
    · exact ss_bad
  · rename_i es k p
    split
    · exact par_ok n so
    · rename_i hv
      exact ss_asg rfl (sole (swaps_notName fun _ _ z => nomatch z)) (stores_v (by simpa using hv)) (hE v) ((tgt_ok o 5).1 _)
  · rename_i ob f p
    split
    · rename_i ix hf h0
      exact ss_fld o.S.K (o.g.fld _ (look_mem hf)) o.g.sm (swaps_notName fun _ _ z => nomatch z) (hE _) (hE _)
    · exact ss_bad
  · rename_i ob i p
    split
    · exact ss_bad
    · rename_i hs
      exact ss_sub hu (sole (swaps_notName fun _ _ z => nomatch z)) (stores_t (fun _ _ _ z => nomatch z) (fun _ _ z => nomatch z)) (fun a b c => pg_sub a b c (asg_sub (by simpa using hs))) (hE _) (hE _) (hE _)
  · exact ss_bad
theorem SOk.tr (so : SOk G C X W) {W' : WX} {pn : List (Addr × Obj)} {xe : Value → Shared → Prop} (he : C.exv = none) (tk : L2N.Takes (X.tr pn xe) W') (ps : PassesOwn (model X.prog X.w) X.A X.env xe) : SOk G C (X.tr pn xe) W' :=
  ⟨⟨⟨so.e.S.K, so.e.S.P, so.e.S.w, so.e.S.mg, so.e.S.base⟩, so.e.g, so.e.N, so.e.nd, so.e.sc, tk, so.e.room, so.e.un, so.e.calm, so.e.fnT, fun a x e => (by rw [he] at e; cases e), fun p e => (by rw [he] at e; cases e)⟩, so.st, so.fr, ps⟩
theorem SOk.suite (so : SOk G C X W) (he : C.exv = none) {a : Addr} {oe : Obj} {pn : List (Addr × Obj)} {xx : DX} {d : Option Addr} (hz : L2N.Zn (.ref (G.ca xx.c)) d oe) (hd : xx.fs = none → d = none) (hf : ∃ vs, oe.data = .fields vs) :
    SOk G { C with exv := some (a, xx) } (X.suite a ((a, oe) :: pn)) (fun _ _ _ _ => False) :=
  ⟨⟨⟨so.e.S.K, so.e.S.P, so.e.S.w, so.e.S.mg, so.e.S.base⟩, so.e.g, so.e.N, so.e.nd, so.e.sc, takesN, (fun e => nomatch e), so.e.un, (fun e => nomatch e), so.e.fnT, fun a' x' e hn hc => by
      have e' : (a, xx) = (a', x') := Option.some.inj e
      cases e'
      have hz' : L2N.Zn (.ref (G.ca xx.c)) none oe := by rw [← hd hn]; exact hz
      exact call_isE (X := X) (pn := pn) (by rw [so.e.S.K]; exact hc) hz'.zc hf, fun p e => by
      obtain ⟨vs, e1⟩ := hf
      exact ⟨⟨(a, oe), ⟨rfl, vs, e1, hz.2.2 vs e1⟩, List.mem_cons_self⟩, ⟨(so.e.room he).dp, (so.e.room he).un⟩⟩⟩, so.st, so.fr, PassesOwn.never⟩
theorem cl_ok {SS : SsR} (sso : SsOk SS) (so : SOk G C X W) (he : C.exv = none) {hd : ExceptHandler} {q : DCl} (h : rdCl SS C hd = some q) : ClD G X hd q := by
  have o := so.e
  have nm : ∀ {x : Str} {u : Value}, C.isG x = true → ClsN G x u → Names X x u := fun {x u} hg c => by
    obtain ⟨h1, h2⟩ := o.gl hg
    exact ⟨h1, h2, by rw [o.S.mg]; exact c⟩
  unfold rdCl at h
  split at h
  · split at h
    · rename_i x np b bs pos _ _ k hg hk
      cases h
      obtain ⟨u, cv, c1, c2, c3, c4⟩ := o.g.exk _ (look_mem hk)
      exact ⟨x, u, b, bs, np, pos, none, rfl, nm hg c1, fun m b hb => (c4 m b hb).1, trivial, fun a oe xx d pn hz hn hf => sso (so.suite he hz hn hf) _⟩
    · cases h
  · split at h
    · rename_i x np n b bs pos _ _ _ _ k i hg hk hi hl
      cases h
      obtain ⟨u, cv, c1, c2, c3, c4⟩ := o.g.exk _ (look_mem hk)
      refine ⟨x, u, b, bs, np, pos, some n, rfl, nm hg c1, fun m b hb => (c4 m b hb).1, ⟨by rw [o.N]; exact ixOf_ok hi, ?_⟩, fun a oe xx d pn hz hn hf => sso (so.suite he hz hn hf) _⟩
      show X.env.scope.names.lookup n = some .local
      rw [o.sc]; exact beq_iff_eq.mp hl
    · cases h
  · cases h
theorem cls_ok {SS : SsR} (sso : SsOk SS) (so : SOk G C X W) (he : C.exv = none) : ∀ {hs : List ExceptHandler} {qs : List DCl}, rdCls SS C hs = some qs → Paired (ClD G X) hs qs
  | [], qs, h => by cases h; exact .nil
  | hd :: hs, qs, h => by
    unfold rdCls at h
    split at h
    · rename_i q qs h1 h2
      cases h
      exact .cons (cl_ok sso so he h1) (cls_ok sso so he h2)
    · cases h
theorem rdS_ok (n : Nat) {SS : SsR} (sso : SsOk SS) (so : SOk G C X W) (s : Stmt) : PS X s (LS G W (rdS (rd n) SS C s)) := by
  have o := so.e
  have hE := (rd_ok n).E o
  have hT := (rd_ok n).T o
  unfold rdS
  split
  · split
    · rename_i hdoc
      unfold docS at hdoc
      split at hdoc
      · exact ss_doc
      · cases hdoc
    · split
      · rename_i hc
        exact ss_drop (swaps_no hc) (hE _)
      · exact ss_bad
  · split
    · exact ss_ret (hE _)
    · exact ss_retN
  · exact ss_if (hT _) (sso so _) (sso so _)
  · exact asg_ok n so
  · unfold rdAug
    split
    · split
      · rename_i ix hf
        exact ss_augF in_add (fun i j H Q q => ⟨i, j, rfl, rfl, q⟩) o.S.K (o.g.fld _ (look_mem hf)) o.g.sm (hE _) (hE _)
      · rename_i ix hf
        exact ss_augF in_sub (fun i j H Q q => ⟨i, j, rfl, rfl, q⟩) o.S.K (o.g.fld _ (look_mem hf)) o.g.sm (hE _) (hE _)
      · exact ss_bad
    · split
      · rename_i i hi1 hl0
        exact ss_augN ip_add (by rw [o.N]; exact o.nd) (by rw [o.N]; exact ixOf_ok hi1) (by rw [o.sc]; exact beq_iff_eq.mp hl0) (hE _)
      · rename_i i hi1 hl0
        exact ss_augN ip_sub (by rw [o.N]; exact o.nd) (by rw [o.N]; exact ixOf_ok hi1) (by rw [o.sc]; exact beq_iff_eq.mp hl0) (hE _)
      · exact ss_bad
    · exact ss_bad
  · exact ss_delL (hE _) (hE _)
  · exact ss_while so.ps (hT _) (sso so _)
  · split
    · rename_i he hi
      exact ss_for so.ps (o.calm he) (iter_ok (rd_ok n) o _ _) ((tgt_ok o 5).1 _) (sso so _) fun x => set_plain hi
    · exact ss_bad
  · unfold rdRaise
    split
    · rename_i x p es pos he
      split
      · rename_i c hg hx hs
        obtain ⟨h1, h2⟩ := o.gl hg
        obtain ⟨c1, c2⟩ := o.g.exc _ (look_mem hx)
        cases es with
        | nil => exact ss_raise0 (o.calm he) o.tk o.S.K c2 (by rw [o.S.mg]; exact c1) h1 h2
        | cons e es =>
          obtain ⟨k1, k2⟩ := noStar_cons hs
          exact ss_raise (o.calm he) o.tk o.S.K c2 (by rw [o.S.mg]; exact c1) h1 (args_ok hE _) h2 (star_cons k1) (star_any k2)
      · exact ss_bad
    · exact ss_bad
  · split
    · rename_i b hs pos _ _ q qs he hq
      cases hs with
      | nil => cases hq
      | cons h hs => exact ss_try o.S.K so.st so.fr (by rw [o.N]; exact o.nd) o.tk (fun W pn xe tk ps => sso (so.tr he tk ps) _) (cls_ok sso so he hq)
    · exact ss_bad
  · exact ss_pass
  · exact ss_brk
  · exact ss_cnt
  · exact ss_bad
end
theorem lk_ok {G : Pg} {C : Cfg} {X : Cx} {W : WX} {s : Stmt} {t : DS} (h : PS X s (LS G W t)) : PS X s (LS G W (lkS C s t)) := by
  unfold lkS
  split
  · exact ss_lk h
  · exact h
theorem rdSs_ok {S : Cfg → Stmt → DS} (h : ∀ {G : Pg} {C : Cfg} {X : Cx} {W : WX}, SOk G C X W → ∀ s, PS X s (LS G W (S C s))) : SsOk (rdSs S) := by
  intro G C X W so ss
  induction ss with
  | nil => exact sss_nil
  | cons s r ih =>
    cases r with
    | nil => exact sss_one (lk_ok (h so s))
    | cons b r =>
      show PSs X _ (LS G W (sSeq (lkS C s (S C s)) (rdSs S C (b :: r))))
      exact sss_cons (lk_ok (h so s)) ih
theorem rdSt_ok (m : Nat) : ∀ n, SsOk (rdSt m n)
  | 0 => fun _ _ => sss_bad
  | n + 1 => rdSs_ok fun so s => rdS_ok m (rdSt_ok m n) so s

/-! ### a def's promise -/
def Fgt (P : KD) : KD := fun d h' => ∃ h'', Sub h'' h' ∧ P d h''
def FgtX (R : KX) : KX := fun x h' => ∃ h'', Sub h'' h' ∧ R x h''
/-- a def with n parameters, m names, this body: what is needed at its call -/
def mkFn (n m : Nat) (body : DS) : DSp := fun ds h P R => ds.length = n ∧ body { nx := fun _ h' => Fgt P .non h', rt := Fgt P, ex := fun x _ h' => FgtX R x h' } (ds.map some ++ List.replicate (m - n) none) h
theorem start_re {K : PySem.W.Frag} {H : Hp} {N : List Str} {ds : List D} {vs : List V} (r : Reps K H ds vs) : RE K H (ds.map some ++ List.replicate (N.length - ds.length) none) (L2.start N vs) := by
  have hl := r.length
  refine ⟨by unfold L2.start; simp [hl], fun i d e => ?_⟩
  by_cases hi : i < ds.length
  · rw [List.getElem?_append_left (by simpa using hi), List.getElem?_map] at e
    cases z : ds[i]? with
    | none => rw [z] at e; cases e
    | some d' =>
      rw [z] at e
      cases e
      obtain ⟨v, h1, h2⟩ := r.get z
      refine ⟨v, ?_, h2⟩
      unfold L2.start
      rw [List.getElem?_append_left (by simp [hl]; exact hi), List.getElem?_map, h1]
      rfl
  · rw [List.getElem?_append_right (by simpa using hi), List.getElem?_replicate] at e
    split at e <;> cases e
theorem mkFn_len {G : Pg} {n m : Nat} {b : DS} {ps : List Str} (hn : ps.length = n) : ∀ vs H Q E, LSp G (mkFn n m b) vs H Q E → vs.length = ps.length := fun vs H Q E ⟨ds, h, P, R, rs, rh, s, _⟩ => by
  rw [rs.length, s.1, hn]
/-- THE RULE for a def (with or without defaults) -/
theorem fn_ok {G : Pg} {g : Gt} {l m n : Nat} {N ps : List Str} {x qual : Str} {params : Arguments} {body : List Stmt} {scope : Scope} {dvs : List V} {kws : List (Str × V)} {f : Addr} {fd : FuncData} {t : DS}
    (F : FunD G.K x qual params body scope dvs kws f fd) (S : FnScope N ps scope) (go : GOk G g l) (ht : rdSt m n ⟨g, l, N, scope, none, none⟩ body = t) : FnOk G.P G.w G.K G.mg G.base (L2N.CX G.P G.w) (l + 1) f fd ps (LSp G (mkFn ps.length N.length t)) := by
  refine F.ok S (mkFn_len rfl) fun cdv A outer s H vs Q E hr h => ?_
  obtain ⟨ds, dh, P, R, rs, rh, sp, fin, finx⟩ := h
  refine ⟨LS G (fun cls d _ H' => E cls d H') t, ?_, ?_⟩
  · rw [← ht]
    refine rdSt_ok m n ⟨⟨⟨rfl, rfl, rfl, rfl, rfl⟩, go, rfl, S.nd, rfl, L2N.takes_of rfl rfl rfl rfl, fun _ => hr, ?_, fun _ => rfl, (fun _ _ => rfl), (fun _ _ e => by cases e), (fun _ e => by cases e)⟩, rfl, rfl, passes_of rfl⟩ body
    have := hr.un
    show (A.deeper _).units + 65 < cLine
    omega
  · obtain ⟨hl, hb⟩ := sp
    have e1 : (mkFn ps.length N.length t) = mkFn ds.length N.length t := by rw [hl]
    refine ⟨_, dh, _, start_re rs, rh, (by rw [hl]; exact hb), ?_⟩
    refine ⟨fun e' h' σ' H' z tl rh' re' => ?_, fun d h' v H' z tl rh' r => ?_, fun _ _ _ _ z => z.elim, fun _ _ _ _ z => z.elim, fun xx e' h' cls dd σ' H' z tl rh' re' rx => ?_⟩
    · obtain ⟨h'', sb, p⟩ := z
      exact fin _ h'' _ H' p tl (rh'.sub sb) rep_non
    · obtain ⟨h'', sb, p⟩ := z
      exact fin d h'' v H' p tl (rh'.sub sb) r
    · obtain ⟨h'', sb, p⟩ := z
      exact finx xx h'' cls dd H' p tl (rh'.sub sb) rx
/-- THE RULE for a def that is called while an exception is handled -/
theorem fn_okH {G : Pg} {g : Gt} {l m n : Nat} {N ps : List Str} {x qual : Str} {params : Arguments} {body : List Stmt} {scope : Scope} {dvs : List V} {kws : List (Str × V)} {f : Addr} {fd : FuncData} {t : DS}
    (F : FunD G.K x qual params body scope dvs kws f fd) (S : FnScope N ps scope) (go : GOk G g l) (ht : rdSt m n ⟨g, l, N, scope, some (0, ⟨0, some []⟩), none⟩ body = t) : L2H.FnH G.P G.w G.K G.mg G.base (L2N.CX G.P G.w) (l + 1) f fd ps (LSp G (mkFn ps.length N.length t)) := by
  obtain ⟨oc, od, dV, kV, doc, pm, an, cdv, ct, osl, rfl, lk, hcd, _, _⟩ := F.ex
  refine L2H.fn_ofH lk hcd S (mkFn_len rfl) fun A outer s H vs Q E p hot hr h => ?_
  obtain ⟨ds, dh, P, R, rs, rh, sp, fin, finx⟩ := h
  refine ⟨LS G (fun cls d _ H' => E cls d H') t, ?_, ?_⟩
  · rw [← ht]
    refine rdSt_ok m n ⟨⟨⟨rfl, rfl, rfl, rfl, rfl⟩, go, rfl, S.nd, rfl, L2N.takes_of rfl rfl rfl rfl, (fun e => by cases e), ?_, (fun e => by cases e), (fun _ _ => rfl), (fun a x e hn => by cases e; cases hn), (fun _ _ => ⟨⟨p, ⟨hot.1, hot.2⟩, List.mem_singleton.mpr rfl⟩, hr⟩)⟩, rfl, rfl, passes_of rfl⟩ body
    have := hr.un
    show (A.deeper _).units + 65 < cLine
    omega
  · obtain ⟨hl, hb⟩ := sp
    refine ⟨_, dh, _, start_re rs, rh, (by rw [hl]; exact hb), ?_⟩
    refine ⟨fun e' h' σ' H' z tl rh' re' => ?_, fun d h' v H' z tl rh' r => ?_, fun _ _ _ _ z => z.elim, fun _ _ _ _ z => z.elim, fun xx e' h' cls dd σ' H' z tl rh' re' rx => ?_⟩
    · obtain ⟨h'', sb, p⟩ := z
      exact fin _ h'' _ H' p tl (rh'.sub sb) rep_non
    · obtain ⟨h'', sb, p⟩ := z
      exact fin d h'' v H' p tl (rh'.sub sb) r
    · obtain ⟨h'', sb, p⟩ := z
      exact finx xx h'' cls dd H' p tl (rh'.sub sb) rx
end DW

/-! DW, part 14: what the module is, checked of its top; the chain of the defs. -/
namespace DW
open PySem L2 PySem.Spec He
structure Mod where
  cls : List Str := []
  fn : List (List Str) := []
  free : List Str := []
  mints : List (Str × Int) := []
  mstrs : List (Str × Str) := []
  tups : List (Str × List Dv) := []
  kits : List (Str × Option String × List (Tag × Bool)) := []
  exks : List (Str × Option String × List (Nat × Bool)) := []
  excs : List (Str × Nat) := []
  flds : List (Str × List (Nat × Nat)) := []
  lks : List Nat := []
def Mod.cn (m : Mod) (c : Nat) : Str := m.cls.getD c ""
def Mod.fs (m : Mod) (c : Nat) : List Str := m.fn.getD c []
def Mod.pg (m : Mod) (P : Program) (w : World) (K : PySem.W.Frag) (mg : Str → Option Value) (base : Heap) : Pg := ⟨P, w, K, mg, base, fun c => ga K (m.cn c), m.fs⟩
def uOf (K : PySem.W.Frag) (x : Str) : Option String → Value
  | none => .ref (ga K x)
  | some T => .type T
def dvD : Dv → Option D
  | .non => some .non
  | .bl b => some (.bl b)
  | .int i => some (.int i)
  | .str s => some (.str s)
  | _ => none
def dvsD : List Dv → List D
  | [] => []
  | v :: vs => ((dvD v).getD .non) :: dvsD vs
def tabK (tb : List (Tag × Bool)) : Kit := fun t => tb.lookup t
def tabX (tb : List (Nat × Bool)) : Nat → Option Bool := fun t => tb.lookup t
/-- the tables of a module; the rest: its defs -/
def Mod.gt (m : Mod) (call : List (Str × Nat × DSp)) (callK : List ((Str × Nat × List Str) × Nat × DSp2)) (meth prop : List (Str × List (Nat × Nat × DSp))) : Gt where
  free := m.free
  val := (m.mints.map fun q => (q.1, .int q.2)) ++ ((m.mstrs.map fun q => (q.1, .str q.2)) ++ m.tups.map fun q => (q.1, .ktup (dvsD q.2)))
  call := call
  callK := callK
  kit := m.kits.map fun q => (q.1, tabK q.2.2)
  exk := m.exks.map fun q => (q.1, tabX q.2.2)
  exc := m.excs
  fld := m.flds
  meth := meth
  prop := prop
  lk := m.lks
/-! ### the checks -/
def eqV1 (a b : Option Bool) : Bool := decide (a = b)
def eqV2 (a b : Option Value) : Bool := decide (a = b)
def clsB (K : PySem.W.Frag) (C : Addr) : Bool := PySem.W.plainGet K C Str.empty && (PySem.W.hasDictIn K C && (PySem.W.plainOver K C && eqO (PySem.W.findIn K (.ref C) "__setattr__") (some (some (.builtin "object.__setattr__")))))
theorem clsB_ok {K : PySem.W.Frag} {C : Addr} (h : clsB K C = true) : Cls K C := by
  obtain ⟨c1, c⟩ := ba h
  obtain ⟨c2, c⟩ := ba c
  obtain ⟨c3, c4⟩ := ba c
  exact ⟨c1, c2, c3, eqO_ok c4⟩
def insB (K : PySem.W.Frag) (C : Addr) : Bool := clsB K C && (eqO (PySem.W.findIn K (.ref C) "__class__") (some (some (.builtin "object.__class__"))) && (eqO (PySem.W.specialIn K (.builtin "object.__class__") "__get__") (some (some (.builtin "getset_descriptor.__get__"))) &&
  (eqV1 (PySem.W.takesIn K (.builtin "object.__class__")) (some true) && eqV1 (PySem.W.mroIn K C (.type "object")) (some true))))
theorem insB_ok {K : PySem.W.Frag} {C : Addr} (h : insB K C = true) : InsOk K C := by
  obtain ⟨c1, c⟩ := ba h
  obtain ⟨c2, c⟩ := ba c
  obtain ⟨c3, c⟩ := ba c
  obtain ⟨c4, c5⟩ := ba c
  exact ⟨clsB_ok c1, eqO_ok c2, eqO_ok c3, of_decide_eq_true c4, of_decide_eq_true c5⟩
def excCB (K : PySem.W.Frag) (D : Addr) : Bool := eqO (PySem.W.findIn K (.ref D) "__getattribute__") (some (some (.builtin "BaseException.__getattribute__"))) && (eqO (PySem.W.findIn K (.ref D) "__getattr__") (some none) && (eqV1 (PySem.W.subIn K (.ref D) (.type "BaseException")) (some true) &&
  (PySem.W.hasDictIn K D && (eqO (PySem.W.findIn K (.ref D) "__class__") (some (some (.builtin "object.__class__"))) && (eqO (PySem.W.specialIn K (.builtin "object.__class__") "__get__") (some (some (.builtin "getset_descriptor.__get__"))) &&
  (eqV1 (PySem.W.takesIn K (.builtin "object.__class__")) (some true) && eqV1 (PySem.W.mroIn K D (.type "object")) (some true)))))))
theorem excCB_ok {K : PySem.W.Frag} {D : Addr} (h : excCB K D = true) : ExcC K D := by
  obtain ⟨c1, c⟩ := ba h
  obtain ⟨c2, c⟩ := ba c
  obtain ⟨c3, c⟩ := ba c
  obtain ⟨c4, c⟩ := ba c
  obtain ⟨c5, c⟩ := ba c
  obtain ⟨c6, c⟩ := ba c
  obtain ⟨c7, c8⟩ := ba c
  exact ⟨eqO_ok c1, eqO_ok c2, of_decide_eq_true c3, c4, eqO_ok c5, eqO_ok c6, of_decide_eq_true c7, of_decide_eq_true c8⟩
def nameB (K : PySem.W.Frag) (x : Str) : Option String → Bool
  | none => eqO (PySem.W.nsIn K mainGlobals x) (some (some (.ref (ga K x))))
  | some T => eqO (PySem.W.nsIn K mainGlobals x) (some none) && (eqV2 (bootBuiltins x) (some (.type T)) && !(x == ("__name__" : Str)))
def tagV (m : Mod) (K : PySem.W.Frag) : Tag → Value
  | .ty n => .type n
  | .own c => .ref (ga K (m.cn c))
def kitB (m : Mod) (K : PySem.W.Frag) (q : Str × Option String × List (Tag × Bool)) : Bool := nameB K q.1 q.2.1 && q.2.2.all fun z => eqV1 (PySem.W.kitOne K (tagV m K z.1) (uOf K q.1 q.2.1)) (some z.2) && (match z.1 with
  | .own c => insB K (ga K (m.cn c))
  | _ => true)
def exkB (m : Mod) (K : PySem.W.Frag) (q : Str × Option String × List (Nat × Bool)) : Bool := nameB K q.1 q.2.1 && q.2.2.all fun z => eqV1 (PySem.W.exmOne K (.ref (ga K (m.cn z.1))) (uOf K q.1 q.2.1)) (some z.2) && (eqV1 (PySem.W.kitOne K (.ref (ga K (m.cn z.1))) (uOf K q.1 q.2.1)) (some z.2) && excCB K (ga K (m.cn z.1)))
def excB (m : Mod) (K : PySem.W.Frag) (q : Str × Nat) : Bool := decide (q.1 = m.cn q.2) && (nameB K q.1 none && (PySem.W.excIn K (ga K q.1) veBase "ValueError.__new__" && (PySem.W.keepIn K (.ref (ga K q.1)) && (eqV1 (PySem.W.subIn K (.ref (ga K q.1)) (.type "BaseException")) (some true) && eqV2 (PySem.W.typeIn K (.ref (ga K q.1))) (some (.type "type"))))))
def fldB (m : Mod) (K : PySem.W.Frag) (q : Str × List (Nat × Nat)) : Bool := q.2.all fun z => clsB K (ga K (m.cn z.1)) && (eqO (PySem.W.findIn K (.ref (ga K (m.cn z.1))) q.1) (some none) && decide ((m.fs z.1)[z.2]? = some q.1))
def intB (K : PySem.W.Frag) (q : Str × Int) : Bool := (Fa.int q.1 q.2).ok K
def strB (K : PySem.W.Frag) (q : Str × Str) : Bool := (Fa.str q.1 q.2).ok K
def tupsB (K : PySem.W.Frag) (q : Str × List Dv) : Bool := nameB K q.1 none && (tupB K q.1 q.2 && q.2.all fun v => (dvD v).isSome)
def Mod.ok (m : Mod) (K : PySem.W.Frag) : Bool := (m.free.all fun x => eqO (PySem.W.nsIn K mainGlobals x) (some none)) && (m.mints.all (intB K) && (m.mstrs.all (strB K) && (m.tups.all (tupsB K) && (m.kits.all (kitB m K) && (m.exks.all (exkB m K) && (m.excs.all (excB m K) && m.flds.all (fldB m K)))))))
/-- what holds of the names alone -/
def Mod.self (m : Mod) : Bool := m.fn.all fun l => decide l.Nodup && Nat.blt l.length 1000
theorem Mod.self_nd {m : Mod} (h : m.self = true) (c : Nat) : (m.fs c).Nodup ∧ (m.fs c).length < 1000 := by
  unfold Mod.fs
  rw [List.getD_eq_getElem?_getD]
  cases e : m.fn[c]? with
  | none => exact ⟨List.nodup_nil, by decide⟩
  | some l =>
    obtain ⟨h1, h2⟩ := ba (List.all_eq_true.mp h l (List.mem_of_getElem? e))
    exact ⟨of_decide_eq_true h1, Nat.blt_eq.mp h2⟩
/-- the tables' part that rests on no def -/
structure GSt (G : Pg) (g : Gt) : Prop where
  free : ∀ x, x ∈ g.free → G.mg x = none
  val : ∀ q ∈ g.val, ∃ v u, G.mg q.1 = some u ∧ L2.RelV v u ∧ ∀ H, Rep G.K H q.2 v
  kit : ∀ q ∈ g.kit, ∃ (u : Value) (cv : V), ClsN G q.1 u ∧ L2.RelV cv u ∧ ClsV cv u ∧ KitOk G q.2 u ∧ ∀ c b, q.2 (.own c) = some b → InsOk G.K (G.ca c)
  exk : ∀ q ∈ g.exk, ∃ (u : Value) (cv : V), ClsN G q.1 u ∧ L2.RelV cv u ∧ ClsV cv u ∧ ∀ m b, q.2 m = some b → PySem.W.exmOne G.K (.ref (G.ca m)) u = some b ∧ PySem.W.kitOne G.K (.ref (G.ca m)) u = some b ∧ ExcC G.K (G.ca m)
  exc : ∀ q ∈ g.exc, G.mg q.1 = some (.ref (G.ca q.2)) ∧ RaiseOk G q.2
  fld : ∀ q ∈ g.fld, FldOk G q.1 q.2
  sm : ∀ c, (G.fn c).length < 1000
structure FSt (G : Pg) (g : Gt) (j : Nat) : Prop where
  call : ∀ q ∈ g.call, q.2.1 < j → CallG G q.2.1 q.1 q.2.2
  callK : ∀ q ∈ g.callK, q.2.1 < j → CallKG G q.2.1 q.1.1 q.1.2.2 q.2.2
  meth : ∀ q ∈ g.meth, ∀ z ∈ q.2, z.2.1 < j → MethG G z.2.1 q.1 z.1 z.2.2
  prop : ∀ q ∈ g.prop, ∀ z ∈ q.2, z.2.1 < j → PropG G z.2.1 q.1 z.1 z.2.2
  hot : ∀ q ∈ g.hot, q.2.1 < j → HotG G q.2.1 q.1 q.2.2
theorem GOk.of {G : Pg} {g : Gt} {j : Nat} (s : GSt G g) (f : FSt G g j) : GOk G g j := ⟨s.free, s.val, f.call, f.callK, s.kit, s.exk, s.exc, s.fld, f.meth, f.prop, s.sm, f.hot⟩
section
variable {m : Mod} {P : Program} {w : World} {K : PySem.W.Frag} {mg : Str → Option Value} {base h : Heap}
theorem name_cls (X : K.In h) (G : h.Ns mainGlobals mg) {x : Str} {o : Option String} (c : nameB K x o = true) : ∃ cv : V, ClsN (m.pg P w K mg base) x (uOf K x o) ∧ L2.RelV cv (uOf K x o) ∧ ClsV cv (uOf K x o) := by
  cases o with
  | none => exact ⟨.ref (ga K x), .inl (PySem.W.mg_of X G (eqO_ok c)), rfl, .own _⟩
  | some T =>
    obtain ⟨c1, c⟩ := ba c
    obtain ⟨c2, c3⟩ := ba c
    refine ⟨.ty T, .inr ⟨PySem.W.mg_none_of X G (eqO_ok c1), of_decide_eq_true c2, fun z => ?_⟩, rfl, .ty T⟩
    rw [z] at c3
    simp at c3
theorem rel_rep {H : Hp} : ∀ {vs : List Dv}, (vs.all fun v => (dvD v).isSome) = true → Reps K H (dvsD vs) (vs.map (Dv.v K))
  | [], _ => reps_nil
  | v :: vs, h => by
    obtain ⟨h1, h2⟩ := ba (show ((dvD v).isSome && vs.all fun v => (dvD v).isSome) = true from h)
    refine reps_cons ?_ (rel_rep h2)
    cases v <;> first | (exfalso; exact Bool.false_ne_true h1) | skip
    · exact rep_non
    · exact rep_bl
    · exact rep_int
    · exact rep_str
theorem Mod.stat (X : K.In h) (G : h.Ns mainGlobals mg) (hs : m.self = true) (c : m.ok K = true) (call : List (Str × Nat × DSp)) (callK : List ((Str × Nat × List Str) × Nat × DSp2)) (meth prop : List (Str × List (Nat × Nat × DSp))) :
    GSt (m.pg P w K mg base) (m.gt call callK meth prop) := by
  obtain ⟨c1, c⟩ := ba c
  obtain ⟨c2, c⟩ := ba c
  obtain ⟨c3, c⟩ := ba c
  obtain ⟨c4, c⟩ := ba c
  obtain ⟨c5, c⟩ := ba c
  obtain ⟨c6, c⟩ := ba c
  obtain ⟨c7, c8⟩ := ba c
  refine ⟨fun x hx => PySem.W.mg_none_of X G (eqO_ok (List.all_eq_true.mp c1 x hx)), fun q hq => ?_, fun q hq => ?_, fun q hq => ?_, fun q hq => ?_, fun q hq => ?_, fun c => (m.self_nd hs c).2⟩
  · rcases List.mem_append.mp hq with hq | hq
    · obtain ⟨z, hz, rfl⟩ := List.mem_map.mp hq
      obtain ⟨t, e⟩ := int_ok X G (List.all_eq_true.mp c2 z hz)
      exact ⟨.int z.2, _, e, ⟨t, rfl⟩, fun H => rep_int⟩
    · rcases List.mem_append.mp hq with hq | hq
      · obtain ⟨z, hz, rfl⟩ := List.mem_map.mp hq
        obtain ⟨t, e⟩ := str_ok X G (List.all_eq_true.mp c3 z hz)
        exact ⟨.str z.2, _, e, ⟨t, rfl⟩, fun H => rep_str⟩
      · obtain ⟨z, hz, rfl⟩ := List.mem_map.mp hq
        obtain ⟨h1, h2⟩ := ba (List.all_eq_true.mp c4 z hz)
        obtain ⟨h2, h3⟩ := ba h2
        refine ⟨.ref (ga K z.1), _, PySem.W.mg_of X G (eqO_ok h1), rfl, fun H => ?_⟩
        have t := tupB_ok h2 (fun _ => none)
        rcases t with (t | ⟨_, t⟩) | t
        · cases t
        · cases t
        · exact rep_ktup t (rel_rep h3)
  · obtain ⟨z, hz, rfl⟩ := List.mem_map.mp hq
    obtain ⟨h1, h2⟩ := ba (List.all_eq_true.mp c5 z hz)
    obtain ⟨cv, k1, k2, k3⟩ := name_cls (m := m) (P := P) (w := w) (base := base) X G h1
    refine ⟨_, cv, k1, k2, k3, fun t b e => ?_, fun c b e => ?_⟩
    · obtain ⟨y1, y2⟩ := ba (List.all_eq_true.mp h2 _ (look_mem e))
      have := of_decide_eq_true y1
      cases t <;> exact this
    · obtain ⟨y1, y2⟩ := ba (List.all_eq_true.mp h2 _ (look_mem e))
      exact insB_ok y2
  · obtain ⟨z, hz, rfl⟩ := List.mem_map.mp hq
    obtain ⟨h1, h2⟩ := ba (List.all_eq_true.mp c6 z hz)
    obtain ⟨cv, k1, k2, k3⟩ := name_cls (m := m) (P := P) (w := w) (base := base) X G h1
    refine ⟨_, cv, k1, k2, k3, fun c b e => ?_⟩
    obtain ⟨y1, y2⟩ := ba (List.all_eq_true.mp h2 _ (look_mem e))
    obtain ⟨y2, y3⟩ := ba y2
    exact ⟨of_decide_eq_true y1, of_decide_eq_true y2, excCB_ok y3⟩
  · obtain ⟨y0, y⟩ := ba (List.all_eq_true.mp c7 q hq)
    obtain ⟨y1, y⟩ := ba y
    obtain ⟨y2, y⟩ := ba y
    obtain ⟨y3, y⟩ := ba y
    obtain ⟨y4, y5⟩ := ba y
    have e := of_decide_eq_true y0
    have ec : (m.pg P w K mg base).ca q.2 = ga K q.1 := by show ga K (m.cn q.2) = _; rw [← e]
    refine ⟨by rw [ec]; exact PySem.W.mg_of X G (eqO_ok y1), ?_⟩
    refine ⟨⟨_, _, _, _, PySem.F.excBase_ValueError, by rw [ec]; exact y2⟩, by rw [ec]; exact y3, by rw [ec]; exact of_decide_eq_true y4, by rw [ec]; exact of_decide_eq_true y5⟩
  · intro c i e
    obtain ⟨y1, y⟩ := ba (List.all_eq_true.mp (List.all_eq_true.mp c8 q hq) _ (look_mem e))
    obtain ⟨y2, y3⟩ := ba y
    exact ⟨clsB_ok y1, eqO_ok y2, of_decide_eq_true y3, (m.self_nd hs c).1⟩
end
/-! ### the chain -/
section
variable {G : Pg} {l j k : Nat} {x : Str} {f : Addr} {fd : FuncData} {ps : List Str} {s : DSp} {c : Nat}
theorem callG_fn (hm : G.mg x = some (.ref f)) (hk : PySem.W.keepIn G.K (.ref f) = true) (hb : Binds G.K fd ps []) (F : FnOk G.P G.w G.K G.mg G.base (L2N.CX G.P G.w) (l + 1) f fd ps (LSp G s)) : CallG G l x s :=
  ⟨.ref f, hm, hk, fun X W S tk hr => call_fnP S tk hr F hb⟩
theorem callG_mk (hm : G.mg x = some (.ref (G.ca c))) (M : Mk G.K (G.ca c) f) (hb : Binds G.K fd ps []) (F : FnOk G.P G.w G.K G.mg G.base (L2N.CX G.P G.w) l f fd ps (LSp G s)) : CallG G l x (mkSp c s) :=
  ⟨.ref (G.ca c), hm, M.kp, fun X W S tk hr => call_mkP S tk M hr F hb⟩
theorem hotG_fn (hm : G.mg x = some (.ref f)) (hk : PySem.W.keepIn G.K (.ref f) = true) (hb : Binds G.K fd ps []) (F : L2H.FnH G.P G.w G.K G.mg G.base (L2N.CX G.P G.w) (l + 1) f fd ps (LSp G s)) : HotG G l x s :=
  ⟨.ref f, hm, hk, fun X W S tk hc hr => call_hotP S tk hr hc F hb⟩
theorem GSt.hot {g : Gt} (st : GSt G g) (hs : List (Str × Nat × DSp)) : GSt G { g with hot := hs } := ⟨st.free, st.val, st.kit, st.exk, st.exc, st.fld, st.sm⟩
theorem methG_of {m : Str} (M : MethOk G m c f) (hb : Binds G.K fd ps []) (F : FnOk G.P G.w G.K G.mg G.base (L2N.CX G.P G.w) (l + 1) f fd ps (LSp G s)) : MethG G l m c s := ⟨f, M, fun X W S tk hr => call_fnP S tk hr F hb⟩
end
end DW

/-! DW, part 15: the end: the law's promise at the script. -/
namespace DW
open PySem L2 PySem.Spec PyProof.Rows
theorem all_nil {α : Type} {P : α → Prop} : ∀ q ∈ ([] : List α), P q := fun _ h => nomatch h
theorem all_cons {α : Type} {P : α → Prop} {a : α} {l : List α} (h : P a) (t : ∀ q ∈ l, P q) : ∀ q ∈ a :: l, P q := fun q hq => (List.mem_cons.mp hq).elim (fun e => e ▸ h) (t q)
def h0 : DH := fun _ => none
theorem rh0 {G : Pg} {H : Hp} : RH G H h0 := fun _ _ e => nomatch e
/-- what a law's promise must say: at each script it answers True -/
def LawOk (n : Nat) (sp : DSp) : Prop := ∀ ns : List Int, ns.length ≤ n → sp [.rol (ns.map D.int)] h0 (fun d _ => d = .bl true) (fun _ _ => False)
theorem walk_end {l : PySem.W.OpenLaw} {n k : Nat} {q : Program} {loose : List Str} {XP : (Str → Option Value) → Heap → Prop} {YP : World → Heap → Prop} {d : DefRec} {sp : DSp} {x : Str} (pg : Program → World → PySem.W.Frag → (Str → Option Value) → Heap → Pg)
    (hpK : ∀ P w K mg base, (pg P w K mg base).K = K) (hpb : ∀ P w K mg b b', LSp (pg P w K mg b) sp = LSp (pg P w K mg b') sp)
    (hn : l.most = some n) (hn2 : n ≤ sizeLine) (hdf : d.params.defaults = []) (hr : Room k callerA) (hl : LawOk n sp)
    (F : ∀ (w : World) (mg : Str → Option Value) (fa : Addr) (h : Heap), YP w h → h.Ns mainGlobals mg → mg d.name = some (.ref fa) →
      ∃ (K : PySem.W.Frag) (fd : FuncData), K.In h ∧ (∀ (s : Shared) (u : Value), BindsTo s fd ⟨[u], []⟩ [(x, u)]) ∧ ∀ base : Heap, FnOk l.prog w K mg base (L2N.CX l.prog w) k fa fd [x] (LSp (pg l.prog w K mg base) sp)) :
    PySem.W.WalkO q loose XP YP l.row.toRowW d [] (fun f vs => PySem.call f vs) := by
  refine Att.attach_call hn hdf fun w s₀ s₁ mg mb fa o pm cd doc a vs ns G Y ho hd hcd hmg hobj hints hlen hg => ?_
  obtain ⟨K, fd, KX, hb, hF⟩ := F w mg fa _ Y G.T.g hmg
  refine law_call (sp := LSp (pg l.prog w K mg s₁.heap) sp) KX G.T.g G.T.b G.T.builtins G.T.nolimit hg hobj hints (Nat.le_trans hlen hn2) hr (fun base _ _ => by rw [hpb _ _ _ _ _ base]; exact hF base) hb (fun H hO hS => ?_) fun H e s' c => ?_
  · have hR : RoL K H a (ns.map V.int) := by
      rcases hS with (hS | hS) | hS
      · rcases hO a with e | ⟨_, _, e⟩
        · rw [e] at hS; cases hS
        · rw [e] at hS; cases hS
      · exact .inl hS
      · exact .inr hS
    refine ⟨[.rol (ns.map D.int)], h0, _, _, ?_, rh0, hl ns hlen, fun d h' v H' p tl rh r => ?_, fun _ _ _ _ _ z => z.elim⟩
    · rw [hpK]
      exact reps_cons (rep_rol hR (reps_ints ns)) reps_nil
    · subst p
      exact r.bl_
  · obtain ⟨_, _, _, _, _, _, _, _, _, _, _, _, z⟩ := c
    exact z
end DW

/-! DW, part 16: words for the plain part. -/
namespace DW
open PySem L2
theorem mul_l {i j : Int} (h : -(2 ^ 64) < i) (h' : i < 2 ^ 64) : MulOk i j := .inl (.inl ⟨h, h'⟩)
theorem mul_r {i j : Int} (h : -(2 ^ 64) < j) (h' : j < 2 ^ 64) : MulOk i j := .inl (.inr ⟨h, h'⟩)
theorem div_ok {i j : Int} (h : 0 < j) (h' : j.natAbs < 2 ^ 200) : CDivW i j := wide_div h h' (by decide) (by decide)
theorem div_small {i j : Int} (h : 0 < j) (h' : j < 2 ^ 64) : CDivW i j := div_ok h (by omega)
theorem p15 : (10 : Int) ^ (15 : Int).toNat = 1000000000000000 := by decide
theorem p12 : (10 : Int) ^ (12 : Int).toNat = 1000000000000 := by decide
theorem p9 : (10 : Int) ^ (9 : Int).toNat = 1000000000 := by decide
theorem cp15 : CPow 10 15 := by unfold CPow; decide
theorem cp12 : CPow 10 12 := by unfold CPow; decide
theorem cp9 : CPow 10 9 := by unfold CPow; decide
theorem le1000 {n : Nat} (h : n ≤ 1000) : n ≤ sizeLine := Nat.le_of_lt (small1000 h)
theorem fgt {P : KD} {d : D} {h : DH} (p : P d h) : Fgt P d h := ⟨h, Sub.refl h, p⟩
theorem fgtS {P : KD} {d : D} {h h' : DH} (s : Sub h h') (p : P d h) : Fgt P d h' := ⟨h, s, p⟩
theorem fgtX {R : KX} {x : DX} {h : DH} (p : R x h) : FgtX R x h := ⟨h, Sub.refl h, p⟩
theorem fgtXS {R : KX} {x : DX} {h h' : DH} (s : Sub h h') (p : R x h) : FgtX R x h' := ⟨h, s, p⟩
/-! ### where branches meet again: names for what is to come -/
def kIf (t u : DS) (E : DEnds) (e : DSt) : Bool → DH → Prop := fun b h => if b = true then t E e h else u E e h
def kAsg (g : DG) (E : DEnds) (e : DSt) : KD := fun d h => g d e h E.nx
def kNx (r : DS) (E : DEnds) : DSt → DH → Prop := fun e h => r E e h
def kRt (P : KD) : KD := P
def onB (d : D) (X Y : Prop) : Prop := match d with
  | .bl true => X
  | .bl false => Y
  | _ => False
def onT (d : D) (X : Bool → Prop) : Prop := match d with
  | .bl b => X b
  | _ => False
def kT (Q : Bool → DH → Prop) : KD := fun d h => onT d fun b => Q b h
def kTru (Q : Bool → DH → Prop) : KD := fun d h => tRu d h fun b => Q b h
def kAnd (U : DT) (e : DSt) (Q : Bool → DH → Prop) (R : KX) : Bool → DH → Prop := fun b h => if b = true then U e h Q R else Q false h
def kOr (U : DT) (e : DSt) (Q : Bool → DH → Prop) (R : KX) : Bool → DH → Prop := fun b h => if b = true then Q true h else U e h Q R
def kNot (Q : Bool → DH → Prop) : Bool → DH → Prop := fun b h => Q (!b) h
def kAndV (a : DE) (e : DSt) (P : KD) (R : KX) : KD := fun x h => onB x (a e h P R) (P (.bl false) h)
def kOrV (a : DE) (e : DSt) (P : KD) (R : KX) : KD := fun x h => onB x (P (.bl true) h) (a e h P R)
def kNotV (P : KD) : KD := fun x h => onT x fun b => P (.bl (!b)) h
def kCh (c : DE) (e : DSt) (g : DO) (y : D) (P : KD) (R : KX) : KD := fun z h => onB z (c e h (fun w h1 => g y w h1 P) R) (P (.bl false) h)
def kIfE (a b : DE) (e : DSt) (P : KD) (R : KX) : Bool → DH → Prop := fun c h => if c = true then a e h P R else b e h P R
def kCs (A : DA) (e : DSt) (Q : List D → DH → Prop) (R : KX) : KD := fun x h => A e h (fun xs h2 => Q (x :: xs) h2) R
/-- a new list -/
def kNew (xs : List D) (P : KD) (h : DH) : Prop := ∀ p, h p = none → P (.ref p) (up h p (.lst xs))
def kIsiX (ad : Addr) (o : Option Bool) (P : KD) : KD := fun x h => (match x with
  | .ref b => b = ad
  | _ => False) ∧ ∃ b, o = some b ∧ P (.bl b) h
def kIsi (k : Kit) (P : KD) : KD := fun x h => ∃ t b, tagOf h x = some t ∧ k t = some b ∧ P (.bl b) h
def kRng1 (PP : List D → (DH → Prop) → DH → Prop) : KD := fun d h => match d with
  | .int j => (-(2 ^ 62) ≤ j ∧ j < 2 ^ 62) ∧ PP (rangeD 0 j.toNat) (fun _ => True) h
  | _ => False
def kRng2 (PP : List D → (DH → Prop) → DH → Prop) (i : Int) : KD := fun d h => match d with
  | .int j => (-(2 ^ 62) ≤ i ∧ i < 2 ^ 62 ∧ -(2 ^ 62) ≤ j ∧ j < 2 ^ 62) ∧ PP (rangeD i (j - i).toNat) (fun _ => True) h
  | _ => False
section
variable {t u : DS} {E : DEnds} {e : DSt} {h : DH} {P : KD} {R : KX} {a b c : DE} {f g : DO} {i j : Int} {x y : D} {k : Bool} {X Y : Prop} {T U : DT} {Q : Bool → DH → Prop} {A : DA} {PA : List D → DH → Prop} {p q : Prop} [Decidable p]
theorem w_seq : sSeq t u E e h = t { E with nx := kNx u E } e h := propext Iff.rfl
theorem w_next : sNext E e h = E.nx e h := propext Iff.rfl
theorem w_brk : sBrk E e h = E.bk e h := propext Iff.rfl
theorem w_cnt : sCnt E e h = E.ct e h := propext Iff.rfl
theorem w_drop : sDrop a E e h = a e h (fun _ h1 => E.nx e h1) (fun x h1 => E.ex x e h1) := propext Iff.rfl
theorem w_ret : sRet a E e h = a e h (kRt E.rt) (fun x h1 => E.ex x e h1) := propext Iff.rfl
theorem w_retN : sRetN E e h = E.rt .non h := propext Iff.rfl
theorem w_if : sIf T t u E e h = T e h (kIf t u E e) (fun x h1 => E.ex x e h1) := propext Iff.rfl
theorem w_asg {g : DG} : sAsg a g E e h = a e h (kAsg g E e) (fun x h1 => E.ex x e h1) := propext Iff.rfl
theorem w_var {n : Nat} : cVar n e h P R = match lk e n with
  | some d => P d h
  | none => False := propext Iff.rfl
theorem w_D : cD x e h P R = P x h := propext Iff.rfl
theorem w_bin : cBin f a b e h P R = a e h (fun x h1 => b e h1 (fun y h2 => f x y h2 P) R) R := propext Iff.rfl
theorem onB_eq {d : D} {X Y : Prop} : onB d X Y = (match d with
  | .bl true => X
  | .bl false => Y
  | _ => False) := propext Iff.rfl
theorem w_chain : cChain f g a b c e h P R = a e h (fun x h1 => b e h1 (fun y h2 => f x y h2 (kCh c e g y P R)) R) R := propext Iff.rfl
theorem w_nil : cNil e h PA R = PA [] h := propext Iff.rfl
theorem w_cons : cCons a A e h PA R = a e h (fun x h1 => A e h1 (fun xs h2 => PA (x :: xs) h2) R) R := propext Iff.rfl
theorem w_tup : cTup A e h P R = A e h (fun xs h1 => xs.length ≤ sizeLine ∧ P (.tup xs) h1) R := propext Iff.rfl
theorem w_lst : cLst A e h P R = A e h (fun xs h1 => xs.length ≤ sizeLine ∧ kNew xs P h1) R := propext Iff.rfl
theorem w_tru : cTru a e h Q R = a e h (kTru Q) R := propext Iff.rfl
theorem w_tst : cTst a e h Q R = a e h (kT Q) R := propext Iff.rfl
theorem w_and : cAnd T U e h Q R = T e h (kAnd U e Q R) R := propext Iff.rfl
theorem w_or : cOr T U e h Q R = T e h (kOr U e Q R) R := propext Iff.rfl
theorem w_not : cNot T e h Q R = T e h (kNot Q) R := propext Iff.rfl
theorem w_andV : cAndV a b e h P R = a e h (kAndV b e P R) R := propext Iff.rfl
theorem w_orV : cOrV a b e h P R = a e h (kOrV b e P R) R := by
  unfold cOrV kOrV
  congr
  funext x h1
  cases x <;> first | rfl | skip
  rename_i k
  cases k <;> rfl
theorem w_notV : cNotV a e h P R = a e h (kNotV P) R := propext Iff.rfl
theorem w_ifE : cIfE T a b e h P R = T e h (kIfE a b e P R) R := propext Iff.rfl
theorem w_neg : cNeg a e h P R = a e h (fun x h1 => match x with
  | .int i => P (.int (-i)) h1
  | _ => False) R := propext Iff.rfl
theorem w_onB : onB (.bl k) X Y = if k = true then X else Y := by cases k <;> rfl
theorem w_onT {X : Bool → Prop} : onT (.bl k) X = X k := propext Iff.rfl
theorem w_call {s : DSp} : cCall s A e h P R = A e h (fun ds h1 => s ds h1 P R) R := propext Iff.rfl
theorem w_B {bb : DB} : cB bb A e h P R = A e h (fun ds h1 => bb ds h1 P) R := propext Iff.rfl
theorem w_raise {n : Nat} : sRaise n A E e h = A e h (fun ds h1 => ds.length ≤ sizeLine ∧ E.ex ⟨n, none⟩ e h1) (fun x h1 => E.ex x e h1) := propext Iff.rfl
theorem w_try {l : List DCl} : sTry t l E e h = t { E with ex := exCl E l } e h := propext Iff.rfl
theorem w_for {it : DI} {tg : DG} : sFor it tg t E e h = it e h (fun ds still h1 => forS still tg t ds E e h1) (fun x h1 => E.ex x e h1) := propext Iff.rfl
theorem w_gN {n : Nat} {e : DSt} {Q : DSt → DH → Prop} : gN n x e h Q = Q (e.set n (some x)) h := propext Iff.rfl
/-! operators at ints, truth values -/
theorem w_add : doAdd (.int i) (.int j) h P = P (.int (i + j)) h := propext Iff.rfl
theorem w_sub : doSub (.int i) (.int j) h P = P (.int (i - j)) h := propext Iff.rfl
theorem w_mul : doMul (.int i) (.int j) h P = (MulOk i j ∧ P (.int (i * j)) h) := propext Iff.rfl
theorem w_div : doDiv (.int i) (.int j) h P = (CDivW i j ∧ P (.int (i / j)) h) := propext Iff.rfl
theorem w_mod : doMod (.int i) (.int j) h P = (0 < j ∧ P (.int (i % j)) h) := propext Iff.rfl
theorem w_pow : doPow (.int i) (.int j) h P = (CPow i j ∧ P (.int (i ^ j.toNat)) h) := propext Iff.rfl
theorem w_lt : doLt (.int i) (.int j) h P = P (.bl (decide (i < j))) h := propext Iff.rfl
theorem w_ltIB {a b : Bool} : doLt (.tup [.int i, .bl a]) (.tup [.int j, .bl b]) h P = P (.bl (ltIB i a j b)) h := propext Iff.rfl
theorem w_le : doLe (.int i) (.int j) h P = P (.bl (decide (i ≤ j))) h := propext Iff.rfl
theorem w_gt : doGt (.int i) (.int j) h P = P (.bl (decide (j < i))) h := propext Iff.rfl
theorem w_ge : doGe (.int i) (.int j) h P = P (.bl (decide (j ≤ i))) h := propext Iff.rfl
theorem w_eqI : doEq (.int i) (.int j) h P = P (.bl (decide (i = j))) h := propext Iff.rfl
theorem w_neI : doNe (.int i) (.int j) h P = P (.bl (!decide (i = j))) h := propext Iff.rfl
theorem w_bInt : bInt [.int i] h P = P (.int i) h := propext Iff.rfl
theorem w_lenR {ds : List D} : bLen [.rol ds] h P = P (.int (ds.length : Nat)) h := propext ⟨fun ⟨_, e, q⟩ => by cases e; exact q, fun q => ⟨_, rfl, q⟩⟩
theorem w_lenT {ds : List D} : bLen [.tup ds] h P = P (.int (ds.length : Nat)) h := propext ⟨fun ⟨_, e, q⟩ => by cases e; exact q, fun q => ⟨_, rfl, q⟩⟩
theorem w_lenK {ds : List D} : bLen [.ktup ds] h P = P (.int (ds.length : Nat)) h := propext ⟨fun ⟨_, e, q⟩ => by cases e; exact q, fun q => ⟨_, rfl, q⟩⟩
theorem w_lenL {a : Addr} {ds : List D} (he : h a = some (.lst ds)) : bLen [.ref a] h P = P (.int (ds.length : Nat)) h := by
  have e : lenD h (.ref a) = some ds.length := by unfold lenD; simp only [he]
  exact propext ⟨fun ⟨_, e', q⟩ => by rw [e] at e'; cases e'; exact q, fun q => ⟨_, e, q⟩⟩
theorem w_ixR {ds : List D} : doIx (.rol ds) (.int i) h P = ∃ d, L2.atI ds i = some d ∧ P d h := propext Iff.rfl
theorem w_ixT {ds : List D} : doIx (.tup ds) (.int i) h P = ∃ d, L2.atI ds i = some d ∧ P d h := propext Iff.rfl
theorem w_ixK {ds : List D} : doIx (.ktup ds) (.int i) h P = ∃ d, L2.atI ds i = some d ∧ P d h := propext Iff.rfl
theorem w_ixL {a : Addr} {ds : List D} (he : h a = some (.lst ds)) : doIx (.ref a) (.int i) h P = ∃ d, L2.atI ds i = some d ∧ P d h := by
  have e1 : isDict h a = false := by unfold isDict; simp only [he]
  have e2 : lstOf h (.ref a) = some ds := by unfold lstOf; simp only [he]
  refine propext ⟨fun q => ?_, fun ⟨d, e, q⟩ => ?_⟩
  · unfold doIx at q
    simp only [e1] at q
    rw [if_neg Bool.false_ne_true] at q
    obtain ⟨ds', i', d, e3, e4, e5, q⟩ := q
    rw [e2] at e3
    cases e3
    cases e4
    exact ⟨d, e5, q⟩
  · unfold doIx
    simp only [e1]
    rw [if_neg Bool.false_ne_true]
    exact ⟨ds, i, d, e2, rfl, e, q⟩
theorem w_kIfT : kIf t u E e true h = t E e h := propext Iff.rfl
theorem w_kIfF : kIf t u E e false h = u E e h := propext Iff.rfl
theorem w_ixU {a : Addr} {ds : List D} : doIx (.ref a) (.int i) (up h a (.lst ds)) P = ∃ d, L2.atI ds i = some d ∧ P d (up h a (.lst ds)) := w_ixL up_same
theorem w_lenU {a : Addr} {ds : List D} : bLen [.ref a] (up h a (.lst ds)) P = P (.int (ds.length : Nat)) (up h a (.lst ds)) := w_lenL up_same
theorem w_isiX {ad : Addr} {o : Option Bool} : cIsiX a ad o e h P R = a e h (kIsiX ad o P) R := propext Iff.rfl
theorem w_kIsiX {ad : Addr} {o : Option Bool} : kIsiX ad o P (.ref ad) h = ∃ b, o = some b ∧ P (.bl b) h := propext ⟨fun q => q.2, fun q => ⟨rfl, q⟩⟩
theorem w_exO {k : Nat → Option Bool} {n : Nat} : exO k ⟨n, none⟩ = k n := by
  unfold exO
  exact Eq.trans (Eq.refl _) (Eq.refl _)
theorem w_isi {kt : Kit} : cIsi a kt e h P R = a e h (kIsi kt P) R := propext Iff.rfl
theorem w_isiI {kt : Kit} : kIsi kt P (.int i) h = ∃ b, kt (.ty "int") = some b ∧ P (.bl b) h := propext ⟨fun ⟨t, b, e, q⟩ => by cases e; exact ⟨b, q⟩, fun ⟨b, q⟩ => ⟨_, b, rfl, q⟩⟩
theorem w_isiB {kt : Kit} : kIsi kt P (.bl k) h = ∃ b, kt (.ty "bool") = some b ∧ P (.bl b) h := propext ⟨fun ⟨t, b, e, q⟩ => by cases e; exact ⟨b, q⟩, fun ⟨b, q⟩ => ⟨_, b, rfl, q⟩⟩
theorem w_isiT {kt : Kit} {ds : List D} : kIsi kt P (.tup ds) h = ∃ b, kt (.ty "tuple") = some b ∧ P (.bl b) h := propext ⟨fun ⟨t, b, e, q⟩ => by cases e; exact ⟨b, q⟩, fun ⟨b, q⟩ => ⟨_, b, rfl, q⟩⟩
theorem w_isiR {kt : Kit} {ds : List D} : kIsi kt P (.rol ds) h = ∃ b, kt (.ty "list") = some b ∧ P (.bl b) h := propext ⟨fun ⟨t, b, e, q⟩ => by cases e; exact ⟨b, q⟩, fun ⟨b, q⟩ => ⟨_, b, rfl, q⟩⟩
theorem w_isiN {kt : Kit} : kIsi kt P .non h = ∃ b, kt (.ty "NoneType") = some b ∧ P (.bl b) h := propext ⟨fun ⟨t, b, e, q⟩ => by cases e; exact ⟨b, q⟩, fun ⟨b, q⟩ => ⟨_, b, rfl, q⟩⟩
theorem w_isiS {kt : Kit} {z : Str} : kIsi kt P (.str z) h = ∃ b, kt (.ty "str") = some b ∧ P (.bl b) h := propext ⟨fun ⟨t, b, e, q⟩ => by cases e; exact ⟨b, q⟩, fun ⟨b, q⟩ => ⟨_, b, rfl, q⟩⟩
theorem w_isiL {kt : Kit} {ad : Addr} {ds : List D} (he : h ad = some (.lst ds)) : kIsi kt P (.ref ad) h = ∃ b, kt (.ty "list") = some b ∧ P (.bl b) h := by
  have e1 : tagOf h (.ref ad) = some (.ty "list") := by unfold tagOf; simp only [he]
  exact propext ⟨fun ⟨t, b, e, q⟩ => by rw [e1] at e; cases e; exact ⟨b, q⟩, fun ⟨b, q⟩ => ⟨_, b, e1, q⟩⟩
theorem w_rng1 {PP : List D → (DH → Prop) → DH → Prop} : iRng1D (cCons a cNil) e h PP R = a e h (kRng1 PP) R := by
  unfold iRng1D cCons cNil
  congr
  funext x h1
  cases x <;> rfl
theorem w_kRng1 {PP : List D → (DH → Prop) → DH → Prop} : kRng1 PP (.int j) h = ((-(2 ^ 62) ≤ j ∧ j < 2 ^ 62) ∧ PP (rangeD 0 j.toNat) (fun _ => True) h) := propext Iff.rfl
theorem w_seqI {PP : List D → (DH → Prop) → DH → Prop} : iSeq a e h PP R = a e h (fun x h1 => itD x h1 PP) R := propext Iff.rfl
theorem w_itT {PP : List D → (DH → Prop) → DH → Prop} {ds : List D} : itD (.tup ds) h PP = PP ds (fun _ => True) h := propext Iff.rfl
theorem w_itK {PP : List D → (DH → Prop) → DH → Prop} {ds : List D} : itD (.ktup ds) h PP = PP ds (fun _ => True) h := propext Iff.rfl
theorem w_itR {PP : List D → (DH → Prop) → DH → Prop} {ds : List D} : itD (.rol ds) h PP = PP ds (fun _ => True) h := propext Iff.rfl
theorem w_itL {PP : List D → (DH → Prop) → DH → Prop} {ad : Addr} {ds : List D} (he : h ad = some (.lst ds)) : itD (.ref ad) h PP = PP ds (fun h' => h' ad = some (.lst ds)) h := by
  unfold itD
  simp only [he]
theorem w_pow15 : doPow (.int 10) (.int 15) h P = P (.int 1000000000000000) h := propext ⟨fun q => (show P (.int ((10 : Int) ^ (15 : Int).toNat)) h from q.2), fun q => ⟨cp15, (show P (.int ((10 : Int) ^ (15 : Int).toNat)) h from q)⟩⟩
theorem w_pow12 : doPow (.int 10) (.int 12) h P = P (.int 1000000000000) h := propext ⟨fun q => (show P (.int ((10 : Int) ^ (12 : Int).toNat)) h from q.2), fun q => ⟨cp12, (show P (.int ((10 : Int) ^ (12 : Int).toNat)) h from q)⟩⟩
theorem w_pow9 : doPow (.int 10) (.int 9) h P = P (.int 1000000000) h := propext ⟨fun q => (show P (.int ((10 : Int) ^ (9 : Int).toNat)) h from q.2), fun q => ⟨cp9, (show P (.int ((10 : Int) ^ (9 : Int).toNat)) h from q)⟩⟩
theorem go_nx (q : t E e h) : kNx t E e h := q
theorem go_asg {g : DG} (q : g x e h E.nx) : kAsg g E e x h := q
theorem go_rt (q : P x h) : kRt P x h := q
theorem go_ifT (q : t E e h) : kIf t u E e true h := q
theorem go_ifF (q : u E e h) : kIf t u E e false h := q
/-! branches that meet -/
theorem m_kIf {x y : Bool} : (if p then kIf t u E e x h else kIf t u E e y h) = kIf t u E e (if p then x else y) h := by split <;> rfl
theorem m_kAnd {x y : Bool} : (if p then kAnd U e Q R x h else kAnd U e Q R y h) = kAnd U e Q R (if p then x else y) h := by split <;> rfl
theorem m_kOr {x y : Bool} : (if p then kOr U e Q R x h else kOr U e Q R y h) = kOr U e Q R (if p then x else y) h := by split <;> rfl
theorem m_kNot {x y : Bool} : (if p then kNot Q x h else kNot Q y h) = kNot Q (if p then x else y) h := by split <;> rfl
theorem m_kIfE {x y : Bool} : (if p then kIfE a b e P R x h else kIfE a b e P R y h) = kIfE a b e P R (if p then x else y) h := by split <;> rfl
theorem m_kAsg {g : DG} : (if p then kAsg g E e x h else kAsg g E e y h) = kAsg g E e (if p then x else y) h := by split <;> rfl
theorem m_kRt : (if p then kRt P x h else kRt P y h) = kRt P (if p then x else y) h := by split <;> rfl
theorem m_kT : (if p then kT Q x h else kT Q y h) = kT Q (if p then x else y) h := by split <;> rfl
theorem m_kTru : (if p then kTru Q x h else kTru Q y h) = kTru Q (if p then x else y) h := by split <;> rfl
theorem m_kAndV : (if p then kAndV a e P R x h else kAndV a e P R y h) = kAndV a e P R (if p then x else y) h := by split <;> rfl
theorem m_kOrV : (if p then kOrV a e P R x h else kOrV a e P R y h) = kOrV a e P R (if p then x else y) h := by split <;> rfl
theorem m_kNotV : (if p then kNotV P x h else kNotV P y h) = kNotV P (if p then x else y) h := by split <;> rfl
theorem m_kCh {z : D} : (if p then kCh c e g z P R x h else kCh c e g z P R y h) = kCh c e g z P R (if p then x else y) h := by split <;> rfl
theorem m_bl {a b : Bool} : (if p then D.bl a else D.bl b) = D.bl (if p then a else b) := by split <;> rfl
theorem m_int : (if p then D.int i else D.int j) = D.int (if p then i else j) := by split <;> rfl
theorem m_and {a : Bool} : (if p then a else false) = (decide p && a) := by split <;> simp_all
theorem m_or {a : Bool} : (if p then true else a) = (decide p || a) := by split <;> simp_all
theorem m_id {x : Bool} : (if p then x else x) = x := by split <;> rfl
theorem m_tf : (if p then true else false) = decide p := by split <;> simp_all
theorem m_ft : (if p then false else true) = !decide p := by split <;> simp_all
theorem m_or2 {a : Bool} : (if p then a else true) = (!decide p || a) := by split <;> simp_all
theorem m_and2 {a : Bool} : (if p then false else a) = (!decide p && a) := by split <;> simp_all
theorem dec_b {b : Bool} : decide (b = true) = b := by cases b <;> rfl
end
theorem for_ind {still : DH → Prop} {g : DG} {b : DS} {E : DEnds} (I : List D → DSt → DH → Prop) (step : ∀ d r e h (X : DSt → DH → Prop), I (d :: r) e h → (∀ e' h', I r e' h' → X e' h') → still h ∧ g d e h fun e1 h1 => b { E with nx := X, ct := X, bk := E.nx } e1 h1)
    (fin : ∀ e h, I [] e h → still h ∧ E.nx e h) : ∀ ds e h, I ds e h → forS still g b ds E e h
  | [], e, h, i => fin e h i
  | d :: r, e, h, i => step d r e h _ i fun e' h' i' => for_ind I step fin r e' h' i'
theorem rangeD_succ {lo : Int} {n : Nat} : rangeD lo (n + 1) = .int lo :: rangeD (lo + 1) n := by
  unfold rangeD
  rw [List.range_succ_eq_map, List.map_cons, List.map_map]
  congr 1
  · simp
  · refine List.map_congr_left fun x _ => ?_
    simp only [Function.comp]
    congr 1
    push_cast
    omega
theorem for_rngA {g : DG} {b : DS} {E : DEnds} {n : Nat} (I : Nat → DSt → DH → Prop) (step : ∀ k e h (X : DSt → DH → Prop), k < n → I k e h → (∀ e' h', I (k + 1) e' h' → X e' h') → g (.int (k : Nat)) e h fun e1 h1 => b { E with nx := X, ct := X, bk := E.nx } e1 h1)
    (fin : ∀ e h, I n e h → E.nx e h) : ∀ m k e h, m + k = n → I k e h → forS (fun _ => True) g b (rangeD (k : Nat) m) E e h
  | 0, k, e, h, hk, i => ⟨trivial, fin e h (by rw [show n = k by omega]; exact i)⟩
  | m + 1, k, e, h, hk, i => by
    rw [rangeD_succ]
    exact ⟨trivial, step k e h _ (by omega) i fun e' h' i' => for_rngA I step fin m (k + 1) e' h' (by omega) i'⟩
theorem for_rng {g : DG} {b : DS} {E : DEnds} {n : Nat} (I : Nat → DSt → DH → Prop) (step : ∀ k e h (X : DSt → DH → Prop), k < n → I k e h → (∀ e' h', I (k + 1) e' h' → X e' h') → g (.int (k : Nat)) e h fun e1 h1 => b { E with nx := X, ct := X, bk := E.nx } e1 h1)
    (fin : ∀ e h, I n e h → E.nx e h) (e : DSt) (h : DH) (i : I 0 e h) : forS (fun _ => True) g b (rangeD 0 n) E e h := for_rngA I step fin n 0 e h (by omega) i
theorem atI_of {α : Type} {xs : List α} {i : Int} {j : Nat} {x : α} (h : i = j) (e : xs[j]? = some x) : L2.atI xs i = some x := by
  subst h
  have l := (List.getElem?_eq_some_iff.mp e).1
  unfold L2.atI ixN
  rw [if_pos (Int.natCast_nonneg j), if_pos (by omega)]
  exact e
theorem atI_map {xs : List Int} {i : Int} {c : Int} (h : L2.atI xs i = some c) : L2.atI (xs.map D.int) i = some (.int c) := by
  unfold L2.atI at h ⊢
  rw [List.length_map]
  cases z : ixN xs.length i with
  | none => rw [z] at h; cases h
  | some j =>
    rw [z] at h
    show (xs.map D.int)[j]? = _
    rw [List.getElem?_map, show xs[j]? = some c from h]
    rfl
theorem atI_lt {α : Type} {xs : List α} {i : Int} (h0 : 0 ≤ i) (h1 : i < xs.length) : ∃ c, L2.atI xs i = some c ∧ xs[i.toNat]? = some c := by
  have e : ixN xs.length i = some i.toNat := by
    unfold ixN
    first
    | (simp [h0, h1]; done)
    | (simp only [h0, h1]; simp; omega)
    | (split <;> simp_all <;> omega)
  have l : i.toNat < xs.length := by omega
  refine ⟨xs[i.toNat], ?_, List.getElem?_eq_getElem l⟩
  unfold L2.atI
  rw [e]
  exact List.getElem?_eq_getElem l

theorem ex_some {α : Type} {x : α} {P : α → Prop} : (∃ d, some x = some d ∧ P d) = P x := propext ⟨fun ⟨_, e, q⟩ => by cases e; exact q, fun q => ⟨_, rfl, q⟩⟩
section
variable {α : Type} {a0 a1 a2 a3 a4 a5 a6 a7 a8 a9 : α} {l : List α}
theorem at0 : L2.atI (a0 :: l) 0 = some a0 := atI_of (j := 0) rfl rfl
theorem at1 : L2.atI (a0 :: a1 :: l) 1 = some a1 := atI_of (j := 1) rfl rfl
theorem at2 : L2.atI (a0 :: a1 :: a2 :: l) 2 = some a2 := atI_of (j := 2) rfl rfl
theorem at3 : L2.atI (a0 :: a1 :: a2 :: a3 :: l) 3 = some a3 := atI_of (j := 3) rfl rfl
theorem at4 : L2.atI (a0 :: a1 :: a2 :: a3 :: a4 :: l) 4 = some a4 := atI_of (j := 4) rfl rfl
theorem at5 : L2.atI (a0 :: a1 :: a2 :: a3 :: a4 :: a5 :: l) 5 = some a5 := atI_of (j := 5) rfl rfl
theorem at6 : L2.atI (a0 :: a1 :: a2 :: a3 :: a4 :: a5 :: a6 :: l) 6 = some a6 := atI_of (j := 6) rfl rfl
theorem at7 : L2.atI (a0 :: a1 :: a2 :: a3 :: a4 :: a5 :: a6 :: a7 :: l) 7 = some a7 := atI_of (j := 7) rfl rfl
theorem at8 : L2.atI (a0 :: a1 :: a2 :: a3 :: a4 :: a5 :: a6 :: a7 :: a8 :: l) 8 = some a8 := atI_of (j := 8) rfl rfl
theorem at9 : L2.atI (a0 :: a1 :: a2 :: a3 :: a4 :: a5 :: a6 :: a7 :: a8 :: a9 :: l) 9 = some a9 := atI_of (j := 9) rfl rfl
end
section
variable {t u : DS} {E : DEnds} {e : DSt} {h : DH} {P : KD} {R : KX} {a b c : DE} {f g : DO} {i j : Int} {x y : D} {k k' : Bool} {X Y : Prop} {T U : DT} {Q : Bool → DH → Prop} {A : DA} {PA : List D → DH → Prop} {s s' : Str} {ds : List D} {ad : Addr}
theorem eqD_b : eqD h (.bl k) (.bl k') = some (decide (k = k')) := by
  unfold eqD
  simp only [toPy]
  congr 1
theorem w_eqB : doEq (.bl k) (.bl k') h P = P (.bl (decide (k = k'))) h := by
  unfold doEq
  simp only [eqD_b, ex_some]
theorem w_neB : doNe (.bl k) (.bl k') h P = P (.bl (!decide (k = k'))) h := by
  unfold doNe
  simp only [eqD_b, ex_some]
theorem w_eqS : doEq (.str s) (.str s') h P = P (.bl (decide (s = s'))) h := propext Iff.rfl
theorem w_neS : doNe (.str s) (.str s') h P = P (.bl (!decide (s = s'))) h := propext Iff.rfl
theorem w_isN : doIs x .non h P = P (.bl x.isNon) h := by cases x <;> exact propext Iff.rfl
theorem w_isNotN : doIsNot x .non h P = P (.bl (!x.isNon)) h := by cases x <;> exact propext Iff.rfl
theorem w_isB : doIs (.bl k) (.bl k') h P = P (.bl (decide (k = k'))) h := propext Iff.rfl
theorem w_isNotB : doIsNot (.bl k) (.bl k') h P = P (.bl (!decide (k = k'))) h := propext Iff.rfl
theorem isNon_non : D.isNon .non = true := rfl
theorem isNon_int : D.isNon (.int i) = false := rfl
theorem isNon_bl : D.isNon (.bl k) = false := rfl
theorem isNon_str : D.isNon (.str s) = false := rfl
theorem isNon_tup : D.isNon (.tup ds) = false := rfl
theorem isNon_ref : D.isNon (.ref ad) = false := rfl
theorem w_max2 : bMax [.int i, .int j] h P = P (.int (max i j)) h := by
  have e : (if j > i then j else i) = max i j := by omega
  rw [← e]; exact propext Iff.rfl
theorem w_min2 : bMin [.int i, .int j] h P = P (.int (min i j)) h := by
  have e : (if j < i then j else i) = min i j := by omega
  rw [← e]; exact propext Iff.rfl
theorem w_gT {n : Nat} {g : DGs} {Q : DSt → DH → Prop} : gT n g (.tup ds) e h Q = (ds.length = n ∧ g ds e h Q) := propext Iff.rfl
theorem w_gK {n : Nat} {g : DGs} {Q : DSt → DH → Prop} : gT n g (.ktup ds) e h Q = (ds.length = n ∧ g ds e h Q) := propext Iff.rfl
theorem w_gsC {g : DG} {r : DGs} {Q : DSt → DH → Prop} : gsCons g r (x :: ds) e h Q = g x e h (fun e1 h1 => r ds e1 h1 Q) := propext Iff.rfl
theorem w_gsN {Q : DSt → DH → Prop} : gsNil [] e h Q = Q e h := propext ⟨fun q => q.2, fun q => ⟨rfl, q⟩⟩
theorem w_M {T : String} {m : DM} {o : DE} : cM T m o A e h P R = o e h (fun x h1 => tyD T h1 x ∧ A e h1 (fun ds h2 => m x ds h2 P) R) R := propext Iff.rfl
theorem w_tyU : tyD "list" (up h ad (.lst ds)) (.ref ad) = True := by
  unfold tyD
  simp only [up_same]
theorem w_tyL (he : h ad = some (.lst ds)) : tyD "list" h (.ref ad) = True := by
  unfold tyD
  simp only [he]
theorem w_appL (he : h ad = some (.lst ds)) : mAppend (.ref ad) [x] h P = (ds.length < sizeLine ∧ P .non (up h ad (.lst (ds ++ [x])))) := by
  unfold mAppend
  simp only [he]
theorem w_appU : mAppend (.ref ad) [x] (up h ad (.lst ds)) P = (ds.length < sizeLine ∧ P .non (up h ad (.lst (ds ++ [x])))) := by
  rw [w_appL up_same, up_up]
theorem w_fsC {still : DH → Prop} {g : DG} {r : List D} : forS still g t (x :: r) E e h = (still h ∧ g x e h fun e1 h1 => t { E with nx := forS still g t r E, ct := forS still g t r E, bk := E.nx } e1 h1) := propext Iff.rfl
theorem w_fsN {still : DH → Prop} {g : DG} : forS still g t [] E e h = (still h ∧ E.nx e h) := propext Iff.rfl
theorem w_tupL (he : h ad = some (.lst ds)) : bTuple [.ref ad] h P = P (.tup ds) h := by
  have e2 : seqOf h (.ref ad) = some ds := by simp only [seqOf, he]
  unfold bTuple
  simp only [e2, ex_some]
theorem w_tupU : bTuple [.ref ad] (up h ad (.lst ds)) P = P (.tup ds) (up h ad (.lst ds)) := w_tupL up_same
theorem w_tupT : bTuple [.tup ds] h P = P (.tup ds) h := by
  have e2 : seqOf h (.tup ds) = some ds := by simp only [seqOf]
  unfold bTuple
  simp only [e2, ex_some]
theorem w_listL (he : h ad = some (.lst ds)) : bList1 [.ref ad] h P = kNew ds P h := by
  have e2 : allOf h (.ref ad) = some ds := by simp only [allOf, he]
  unfold bList1 kNew
  simp only [e2, ex_some]
theorem w_listU : bList1 [.ref ad] (up h ad (.lst ds)) P = kNew ds P (up h ad (.lst ds)) := w_listL up_same
theorem w_listR : bList1 [.rol ds] h P = kNew ds P h := by
  have e2 : allOf h (.rol ds) = some ds := by simp only [allOf, seqOf]
  unfold bList1 kNew
  simp only [e2, ex_some]
theorem w_listT : bList1 [.tup ds] h P = kNew ds P h := by
  have e2 : allOf h (.tup ds) = some ds := by simp only [allOf, seqOf]
  unfold bList1 kNew
  simp only [e2, ex_some]
theorem w_itU {PP : List D → (DH → Prop) → DH → Prop} : itD (.ref ad) (up h ad (.lst ds)) PP = PP ds (fun h' => h' ad = some (.lst ds)) (up h ad (.lst ds)) := w_itL up_same
theorem w_isiU {kt : Kit} : kIsi kt P (.ref ad) (up h ad (.lst ds)) = ∃ b, kt (.ty "list") = some b ∧ P (.bl b) (up h ad (.lst ds)) := w_isiL up_same
theorem w_rng2 {PP : List D → (DH → Prop) → DH → Prop} : iRng2D (cCons a (cCons b cNil)) e h PP R = a e h (fun x h1 => b e h1 (fun y h2 => match x with
  | .int i => kRng2 PP i y h2
  | _ => False) R) R := by
  unfold iRng2D cCons cNil kRng2
  congr
  funext x h1
  congr
  funext y h2
  cases x <;> cases y <;> rfl
theorem w_kRng2 {PP : List D → (DH → Prop) → DH → Prop} : kRng2 PP i (.int j) h = ((-(2 ^ 62) ≤ i ∧ i < 2 ^ 62 ∧ -(2 ^ 62) ≤ j ∧ j < 2 ^ 62) ∧ PP (rangeD i (j - i).toNat) (fun _ => True) h) := propext Iff.rfl
end
end DW

/-! DW, part 17: words for the plain part: while, equality of data, slices, in. -/
namespace DW
open PySem L2
/-! ### a promise of nothing: for the last call of a def that calls itself -/
def bot : DSp := fun _ _ _ _ => False
theorem callG_bot {G : Pg} {l : Nat} {x : Str} {f : Addr} (hm : G.mg x = some (.ref f)) (hk : PySem.W.keepIn G.K (.ref f) = true) : CallG G l x bot :=
  ⟨.ref f, hm, hk, fun _ _ _ _ _ _ _ _ _ _ _ _ _ _ _ _ _ _ _ _ z _ _ => z.elim⟩
/-! ### keyword-only parameters, all written -/
def arD (ix : List Nat) (ds es : List D) : List D := ds ++ ix.map fun i => es.getD i .non
def arV (ix : List Nat) (us ws : List Value) : List Value := us ++ ix.map fun i => ws.getD i .none
def arL (ix : List Nat) (us ws : List V) : List V := us ++ ix.map fun i => ws.getD i .non
theorem vals_getD {vs : List V} {us : List Value} (r : Vals vs us) : ∀ i : Nat, L2.RelV (vs.getD i .non) (us.getD i .none) := by
  induction r with
  | nil => intro i; exact rfl
  | cons h _ ih =>
    intro i
    cases i with
    | zero => exact h
    | succ i => exact ih i
theorem reps_getD {K : PySem.W.Frag} {H : Hp} : ∀ {ds : List D} {vs : List V}, Reps K H ds vs → ∀ i : Nat, Rep K H (ds.getD i .non) (vs.getD i .non)
  | [], vs, r, i => by rw [r.nil_]; exact rep_non
  | d :: ds, vs, r, i => by
    obtain ⟨v, us, rfl, p, q⟩ := r.cons_
    cases i with
    | zero => exact p
    | succ i => exact reps_getD q i
theorem vals_ar {vs zs : List V} {us ws : List Value} (r : Vals vs us) (r2 : Vals zs ws) (ix : List Nat) : Vals (arL ix vs zs) (arV ix us ws) := by
  refine Vals.append r ?_
  induction ix with
  | nil => exact .nil
  | cons i ix ih => exact .cons (vals_getD r2 i) ih
theorem reps_ar {K : PySem.W.Frag} {H : Hp} {ds es : List D} {vs zs : List V} (r : Reps K H ds vs) (r2 : Reps K H es zs) (ix : List Nat) : Reps K H (arD ix ds es) (arL ix vs zs) := by
  refine Reps.append r ?_
  induction ix with
  | nil => exact reps_nil
  | cons i ix ih => exact reps_cons (reps_getD r2 i) ih
theorem bindD_of {G : Pg} {x qual : Str} {params : Arguments} {body : List Stmt} {scope : Scope} {kws : List (Str × V)} {f : Addr} {fd : FuncData} {ps ks : List Str} {n : Nat} (ix : List Nat) (F : FunD G.K x qual params body scope [] kws f fd)
    (h : ∀ (kV doc pm : Value) (an : Option Addr) (cdv ct : Value) (us ws : List Value), us.length = n → ws.length = ks.length → bindArgs (PySem.W.fnOf x qual params body scope .none kV doc pm an cdv ct) ⟨us, ks.zip ws⟩ = pure (ps.zip (arV ix us ws))) : BindD G fd ps n ks (arD ix) := by
  obtain ⟨oc, od, dV, kV, doc, pm, an, cdv, ct, osl, rfl, lk, hcd, hD, hK⟩ := F.ex
  rcases hD with ⟨_, rfl⟩ | ⟨e, _⟩
  · exact ⟨arV ix, fun s us ws X l1 l2 => BindsTo.of_eq (h kV doc pm an cdv ct us ws l1 l2), fun H ds es vs zs us ws l1 l2 r rz rs rt => ⟨_, vals_ar r rz ix, reps_ar rs rt ix⟩⟩
  · exact absurd rfl e
theorem callKG_mk {G : Pg} {l n c : Nat} {x : Str} {f : Addr} {fd : FuncData} {ps ks : List Str} {s : DSp} {ar : List D → List D → List D} (hm : G.mg x = some (.ref (G.ca c))) (M : Mk G.K (G.ca c) f) (hb : BindD G fd ps (n + 1) ks ar) (F : FnOk G.P G.w G.K G.mg G.base (L2N.CX G.P G.w) l f fd ps (LSp G s)) : CallKG G l x ks (mkSp2 c (arSp (n + 1) ks.length ar s)) :=
  ⟨.ref (G.ca c), hm, M.kp, fun X W S tk hr => call_mkKP S tk M hr F hb⟩
theorem callKG_fn {G : Pg} {l n : Nat} {x : Str} {f : Addr} {fd : FuncData} {ps ks : List Str} {s : DSp} {ar : List D → List D → List D} (hm : G.mg x = some (.ref f)) (hk : PySem.W.keepIn G.K (.ref f) = true) (hb : BindD G fd ps n ks ar) (F : FnOk G.P G.w G.K G.mg G.base (L2N.CX G.P G.w) (l + 1) f fd ps (LSp G s)) : CallKG G l x ks (arSp n ks.length ar s) :=
  ⟨.ref f, hm, hk, fun X W S tk hr => call_fnKP S tk hr F hb⟩
/-! ### new places -/
theorem up_none {h : DH} {p q : Addr} {u : MO} (e : up h p u q = none) : q ≠ p ∧ h q = none := by
  unfold up at e
  split at e
  · cases e
  · rename_i n; exact ⟨n, e⟩
theorem Sub.up {h h' : DH} {q : Addr} {u : MO} (s : Sub h h') : Sub (DW.up h q u) (DW.up h' q u) := fun a o e => by
  unfold DW.up at e ⊢
  split at e
  · rename_i z; rw [if_pos z]; exact e
  · rename_i z; rw [if_neg z]; exact s a o e
theorem ne_new {a p : Addr} {h : DH} {u : MO} (ha : h a = some u) (hp : h p = none) : a ≠ p := fun e => by rw [e, hp] at ha; cases ha
theorem up_at {a p : Addr} {h : DH} {u o : MO} (ha : h a = some u) (hp : h p = none) : DW.up h p o a = some u := by rw [up_ne (ne_new ha hp)]; exact ha
theorem sub_none {h H : DH} {p : Addr} (s : Sub h H) (e : H p = none) : h p = none := by
  cases z : h p with
  | none => rfl
  | some u => rw [s p u z] at e; cases e
section
variable {h H : DH} {xs ys : List D} {P : KD} {p a b : Addr} {u : MO}
theorem go_new (k : ∀ p H, h p = none → Sub h H → H p = some (.lst xs) → P (.ref p) H) : kNew xs P h := fun p hp => k p _ hp (Sub.new hp) up_same
theorem go_newE (k : ∀ p, h p = none → P (.ref p) (DW.up h p (.lst xs))) : kNew xs P h := k
theorem new_ret (ok : kNew xs P h) (S : Sub h H) : kNew xs (Fgt P) H := fun p hp => fgtS (Sub.up S) (ok p (sub_none S hp))
theorem new_k (ok : kNew xs P h) (S : Sub h H) : kNew xs (kRt (Fgt P)) H := new_ret ok S
/-- what a mutated place leaves -/
theorem Sub.set (s : Sub h H) (hp : h p = none) : Sub h (DW.up H p u) := Sub.over s hp
theorem w_catL (ha : h a = some (.lst xs)) (hb : h b = some (.lst ys)) : doAdd (.ref a) (.ref b) h P = (xs.length + ys.length ≤ sizeLine ∧ kNew (xs ++ ys) P h) := by
  unfold doAdd doCatL kNew
  simp only [ha, hb]
theorem w_catT : doAdd (.tup xs) (.tup ys) h P = (xs.length + ys.length ≤ sizeLine ∧ P (.tup (xs ++ ys)) h) := propext Iff.rfl
end
/-! ### while -/
def kWh (b : DS) (E : DEnds) (X : DSt → DH → Prop) (e : DSt) : Bool → DH → Prop := fun k h => if k = true then b { E with nx := X, ct := X, bk := E.nx } e h else E.nx e h
section
variable {c : DT} {b : DS} {E : DEnds} {X : DSt → DH → Prop} {e : DSt} {h : DH} {P : KD} {R : KX}
theorem w_while : sWhile c b E e h = ∃ n, whN c b n E e h := propext Iff.rfl
theorem w_kWhT : kWh b E X e true h = b { E with nx := X, ct := X, bk := E.nx } e h := propext Iff.rfl
theorem w_kWhF : kWh b E X e false h = E.nx e h := propext Iff.rfl
theorem m_kWh {p : Prop} [Decidable p] {x y : Bool} : (if p then kWh b E X e x h else kWh b E X e y h) = kWh b E X e (if p then x else y) h := by split <;> rfl
theorem while_ind (I : Nat → DSt → DH → Prop) (step : ∀ m e h (X : DSt → DH → Prop), I m e h → (∀ m' e' h', m' < m → I m' e' h' → X e' h') → c e h (kWh b E X e) (fun x h1 => E.ex x e h1)) (m : Nat) (e : DSt) (h : DH) (i : I m e h) : sWhile c b E e h := by
  have key : ∀ n m e h, m < n → I m e h → whN c b n E e h := by
    intro n
    induction n with
    | zero => intro m e h z; omega
    | succ n ih =>
      intro m e h l i
      exact step m e h (whN c b n E) i fun m' e' h' l' i' => ih m' e' h' (by omega) i'
  exact ⟨m + 1, key _ m e h (Nat.lt_succ_self m) i⟩
end
/-! ### data -/
structure Da {α : Type} (d : α → D) (p : α → PyData) (n : Nat) : Prop where
  py : ∀ (h : DH) (m : Nat) (a : α), n ≤ m → toPy h m (d a) = some (p a)
  eq : ∀ a b : α, PyData.eqv (p a) (p b) = true ↔ a = b
theorem da_int : Da D.int PyData.int 0 := ⟨fun h m a _ => by cases m <;> rfl, fun a b => by simp [PyData.eqv]⟩
theorem Da.pys {α : Type} {d : α → D} {p : α → PyData} {n : Nat} (D : Da d p n) {h : DH} {m : Nat} (l : n ≤ m) : ∀ xs : List α, toPys (toPy h m) (xs.map d) = some (xs.map p)
  | [] => rfl
  | x :: xs => by
    rw [List.map_cons, List.map_cons]
    show (match toPy h m (d x) with
      | some y => (toPys (toPy h m) (xs.map d)).map (y :: ·)
      | none => none) = _
    rw [D.py h m x l, D.pys l xs]
    rfl
theorem Da.eqs {α : Type} {d : α → DW.D} {p : α → PyData} {n : Nat} (D : Da d p n) : ∀ xs ys : List α, PyData.eqvAll (xs.map p) (ys.map p) = true ↔ xs = ys
  | [], [] => by simp [PyData.eqvAll]
  | [], y :: ys => by simp [PyData.eqvAll]
  | x :: xs, [] => by simp [PyData.eqvAll]
  | x :: xs, y :: ys => by
    rw [List.map_cons, List.map_cons, PyData.eqvAll, Bool.and_eq_true, D.eq, D.eqs xs ys]
    simp
theorem Da.pair {α β : Type} {d : α → D} {p : α → PyData} {n : Nat} {d' : β → D} {p' : β → PyData} {n' : Nat} (A : Da d p n) (B : Da d' p' n') : Da (fun x : α × β => D.tup [d x.1, d' x.2]) (fun x => PyData.tuple [p x.1, p' x.2]) (max n n' + 1) := by
  refine ⟨fun h m a l => ?_, fun a b => ?_⟩
  · cases m with
    | zero => omega
    | succ m => simp [toPy, toPys, A.py h m a.1 (by omega), B.py h m a.2 (by omega)]
  · simp only [PyData.eqv, PyData.eqvAll, Bool.and_true, Bool.and_eq_true, A.eq, B.eq, Prod.ext_iff]
theorem Da.tupL {α : Type} {d : α → D} {p : α → PyData} {n : Nat} (A : Da d p n) : Da (fun x : List α => D.tup (x.map d)) (fun x => PyData.tuple (x.map p)) (n + 1) := by
  refine ⟨fun h m a l => ?_, fun a b => ?_⟩
  · cases m with
    | zero => omega
    | succ m => simp [toPy, A.pys (show n ≤ m by omega)]
  · simp only [PyData.eqv, A.eqs]
theorem Da.rolL {α : Type} {d : α → D} {p : α → PyData} {n : Nat} (A : Da d p n) : Da (fun x : List α => D.rol (x.map d)) (fun x => PyData.list (x.map p)) (n + 1) := by
  refine ⟨fun h m a l => ?_, fun a b => ?_⟩
  · cases m with
    | zero => omega
    | succ m => simp [toPy, A.pys (show n ≤ m by omega)]
  · simp only [PyData.eqv, A.eqs]
/-- what a value of the heap reads as -/
def PyL (h : DH) (a : Addr) (q : PyData) : Prop := ∀ m, 19 ≤ m → toPy h m (.ref a) = some q
theorem Da.pyL {α : Type} {d : α → D} {p : α → PyData} {n : Nat} (A : Da d p n) (hn : n < 19) {h : DH} {a : Addr} {xs : List α} (e : h a = some (.lst (xs.map d))) {m : Nat} (hm : n < m) : toPy h m (.ref a) = some (.list (xs.map p)) := by
  cases m with
  | zero => omega
  | succ m => simp [toPy, e, A.pys (show n ≤ m by omega)]
section
variable {α : Type} {d : α → D} {p : α → PyData} {n : Nat} {h : DH} {P : KD} {xs ys : List α} {a b : Addr} {x : α}
theorem bool_dec {b : Bool} {q : Prop} [Decidable q] (e : b = true ↔ q) : b = decide q := by
  by_cases k : q
  · rw [decide_eq_true k]; exact e.mpr k
  · rw [decide_eq_false k]
    cases b
    · rfl
    · exact absurd (e.mp rfl) k
theorem doEq_of {x y : D} {p q : PyData} {v : Bool} (e1 : toPy h 20 x = some p) (e2 : toPy h 20 y = some q) (e3 : PyData.eqv p q = v) (s : ∀ i j, ¬ (x = .int i ∧ y = .int j)) (s2 : ∀ i j, ¬ (x = .str i ∧ y = .str j)) : doEq x y h P = P (.bl v) h := by
  have e : eqD h x y = some v := by unfold eqD; simp only [e1, e2, e3]
  unfold doEq
  split
  · exact absurd ⟨rfl, rfl⟩ (s _ _)
  · exact absurd ⟨rfl, rfl⟩ (s2 _ _)
  · simp only [e, ex_some]
theorem doNe_of {x y : D} {p q : PyData} {v : Bool} (e1 : toPy h 20 x = some p) (e2 : toPy h 20 y = some q) (e3 : PyData.eqv p q = v) (s : ∀ i j, ¬ (x = .int i ∧ y = .int j)) (s2 : ∀ i j, ¬ (x = .str i ∧ y = .str j)) : doNe x y h P = P (.bl (!v)) h := by
  have e : eqD h x y = some v := by unfold eqD; simp only [e1, e2, e3]
  unfold doNe
  split
  · exact absurd ⟨rfl, rfl⟩ (s _ _)
  · exact absurd ⟨rfl, rfl⟩ (s2 _ _)
  · simp only [e, ex_some]
theorem Da.eqLL [DecidableEq α] (A : Da d p n) (hn : n < 19) (ea : h a = some (.lst (xs.map d))) (eb : h b = some (.lst (ys.map d))) : doEq (.ref a) (.ref b) h P = P (.bl (decide (xs = ys))) h :=
  doEq_of (A.pyL hn ea (by omega)) (A.pyL hn eb (by omega)) (bool_dec (by rw [PyData.eqv]; exact A.eqs _ _)) (fun _ _ z => by cases z.1) (fun _ _ z => by cases z.1)
theorem Da.neLL [DecidableEq α] (A : Da d p n) (hn : n < 19) (ea : h a = some (.lst (xs.map d))) (eb : h b = some (.lst (ys.map d))) : doNe (.ref a) (.ref b) h P = P (.bl (!decide (xs = ys))) h :=
  doNe_of (A.pyL hn ea (by omega)) (A.pyL hn eb (by omega)) (bool_dec (by rw [PyData.eqv]; exact A.eqs _ _)) (fun _ _ z => by cases z.1) (fun _ _ z => by cases z.1)
/-- two tuples of two lists -/
theorem Da.ne2 [DecidableEq α] {a' b' : Addr} {xs' ys' : List α} (A : Da d p n) (hn : n < 18) (ea : h a = some (.lst (xs.map d))) (eb : h b = some (.lst (ys.map d))) (ea' : h a' = some (.lst (xs'.map d))) (eb' : h b' = some (.lst (ys'.map d))) :
    doNe (.tup [.ref a, .ref a']) (.tup [.ref b, .ref b']) h P = P (.bl (!decide (xs = ys ∧ xs' = ys'))) h := by
  have t : ∀ {a a' : Addr} {xs xs' : List α}, h a = some (.lst (xs.map d)) → h a' = some (.lst (xs'.map d)) → toPy h 20 (.tup [.ref a, .ref a']) = some (.tuple [.list (xs.map p), .list (xs'.map p)]) := by
    intro a a' xs xs' e e'
    simp [toPy, toPys, e, e', A.pys (show n ≤ 18 by omega)]
  refine doNe_of (t ea ea') (t eb eb') (bool_dec ?_) (fun _ _ z => by cases z.1) (fun _ _ z => by cases z.1)
  simp only [PyData.eqv, PyData.eqvAll, Bool.and_true, Bool.and_eq_true, A.eqs]
theorem isDict_lst {ds : List D} (e : h a = some (.lst ds)) : isDict h a = false := by unfold isDict; simp only [e]
theorem lstOf_lst {ds : List D} (e : h a = some (.lst ds)) : lstOf h (.ref a) = some ds := by unfold lstOf; simp only [e]
theorem Da.mem [DecidableEq α] (A : Da d p n) (hn : n < 19) : memL h (d x) (xs.map d) = some (decide (x ∈ xs)) := by
  unfold memL
  rw [A.py h 19 x (by omega), A.pys (show n ≤ 19 by omega)]
  show some _ = some _
  congr 1
  refine bool_dec ?_
  rw [List.any_map, List.any_eq_true]
  constructor
  · rintro ⟨y, m, e⟩
    have := (A.eq y x).mp e
    rw [← this]; exact m
  · intro m
    exact ⟨x, m, (A.eq x x).mpr rfl⟩
theorem Da.inL [DecidableEq α] (A : Da d p n) (hn : n < 19) (e : h a = some (.lst (xs.map d))) : doIn (d x) (.ref a) h P = P (.bl (decide (x ∈ xs))) h := by
  unfold doIn doInB
  simp only [isDict_lst e, lstOf_lst e, A.mem hn, if_neg Bool.false_ne_true, ex_some]
  exact propext ⟨fun ⟨_, _, e1, e2, q⟩ => by cases e1; rw [A.mem hn] at e2; cases e2; exact q, fun q => ⟨_, _, rfl, A.mem hn, q⟩⟩
theorem Da.ninL [DecidableEq α] (A : Da d p n) (hn : n < 19) (e : h a = some (.lst (xs.map d))) : doNotIn (d x) (.ref a) h P = P (.bl (!decide (x ∈ xs))) h := by
  unfold doNotIn doInB
  simp only [isDict_lst e, lstOf_lst e, A.mem hn, if_neg Bool.false_ne_true, ex_some]
  exact propext ⟨fun ⟨_, _, e1, e2, q⟩ => by cases e1; rw [A.mem hn] at e2; cases e2; exact q, fun q => ⟨_, _, rfl, A.mem hn, q⟩⟩
end
/-! ### list comprehensions -/
def kLcY (L : Addr) (acc : List D) (X : List D → DH → Prop) : KD := fun y h3 => h3 L = some (.lst acc) ∧ acc.length < sizeLine ∧ X (acc ++ [y]) (up h3 L (.lst (acc ++ [y])))
def kLcB (te : DE) (L : Addr) (acc : List D) (X : List D → DH → Prop) (e1 : DSt) : Bool → DH → Prop := fun b h2 => if b = true then te e1 h2 (kLcY L acc X) (fun _ _ => False) else h2 L = some (.lst acc) ∧ X acc h2
def kLc (g : DG) (tt : DT) (te : DE) (vs : List Nat) (e : DSt) (P : KD) : List D → (DH → Prop) → DH → Prop := fun ds still h1 => ∀ L, h1 L = none → lcS L still g tt te (wipeD e vs) vs ds [] (up h1 L (.lst [])) P
section
variable {i : DI} {g : DG} {tt : DT} {te : DE} {vs : List Nat} {e : DSt} {h : DH} {P : KD} {R : KX} {L : Addr} {acc : List D} {X : List D → DH → Prop} {y : D} {Q : Bool → DH → Prop}
theorem w_lc : cLc i g tt te vs e h P R = i e h (kLc g tt te vs e P) R := propext Iff.rfl
theorem w_yes : tYesD e h Q R = Q true h := propext Iff.rfl
theorem w_kLcT : kLcB te L acc X e true h = te e h (kLcY L acc X) (fun _ _ => False) := propext Iff.rfl
theorem w_kLcF : kLcB te L acc X e false h = (h L = some (.lst acc) ∧ X acc h) := propext Iff.rfl
theorem m_kLcB {p : Prop} [Decidable p] {x y : Bool} : (if p then kLcB te L acc X e x h else kLcB te L acc X e y h) = kLcB te L acc X e (if p then x else y) h := by split <;> rfl
theorem w_kLcYU : kLcY L acc X y (up h L (.lst acc)) = (acc.length < sizeLine ∧ X (acc ++ [y]) (up h L (.lst (acc ++ [y])))) := by
  unfold kLcY
  rw [up_same, up_up]
  exact propext ⟨fun q => q.2, fun q => ⟨rfl, q⟩⟩
theorem w_wipe0 : wipeD e [] = e := rfl
theorem w_wipe {v : Nat} : wipeD e (v :: vs) = (wipeD e vs).set v none := by
  show (wipeD e vs).set v none = _
  exact Eq.trans rfl rfl
theorem lcS_eq {still : DH → Prop} {d : D} {r : List D} : lcS L still g tt te e vs (d :: r) acc h P = (still h ∧ g d e h fun e1 h1 => tt e1 h1 (kLcB te L acc (fun acc' h' => lcS L still g tt te e vs r acc' h' P) e1) (fun _ _ => False)) := propext Iff.rfl
theorem lc_ind {still : DH → Prop} (J : List D → List D → DH → Prop)
    (step : ∀ d r acc h (X : List D → DH → Prop), J (d :: r) acc h → (∀ acc' h', J r acc' h' → X acc' h') → still h ∧ g d e h fun e1 h1 => tt e1 h1 (kLcB te L acc X e1) (fun _ _ => False))
    (fin : ∀ acc h, J [] acc h → still h ∧ P (.ref L) h) : ∀ ds acc h, J ds acc h → lcS L still g tt te e vs ds acc h P
  | [], acc, h, j => fin acc h j
  | d :: r, acc, h, j => by
    rw [lcS_eq]
    exact step d r acc h _ j fun acc' h' j' => lc_ind J step fin r acc' h' j'
/-- a comprehension; the new list stands at L all the while -/
theorem go_lc {still : DH → Prop} {ds : List D} (J : Addr → List D → List D → DH → Prop) (h0 : ∀ L, h L = none → J L ds [] (up h L (.lst [])))
    (step : ∀ L d r acc h' (X : List D → DH → Prop), h L = none → J L (d :: r) acc h' → (∀ acc' h'', J L r acc' h'' → X acc' h'') → still h' ∧ g d (wipeD e vs) h' fun e1 h1 => tt e1 h1 (kLcB te L acc X e1) (fun _ _ => False))
    (fin : ∀ L acc h', h L = none → J L [] acc h' → still h' ∧ P (.ref L) h') : kLc g tt te vs e P ds still h :=
  fun L hL => lc_ind (J L) (fun d r acc h' X j k => step L d r acc h' X hL j k) (fun acc h' j => fin L acc h' hL j) ds [] _ (h0 L hL)
/-- a comprehension that is a map, of what leaves the heap as it is -/
theorem go_lcM {still : DH → Prop} {ds : List D} (f : D → D) (hlen : ds.length ≤ sizeLine) (st : ∀ L acc, h L = none → still (up h L (.lst acc)))
    (step : ∀ L acc d (X : List D → DH → Prop), h L = none → d ∈ ds → acc.length < sizeLine → X (acc ++ [f d]) (up h L (.lst (acc ++ [f d]))) → g d (wipeD e vs) (up h L (.lst acc)) fun e1 h1 => tt e1 h1 (kLcB te L acc X e1) (fun _ _ => False))
    (ok : kNew (ds.map f) P h) : kLc g tt te vs e P ds still h := by
  refine go_lc (fun L r acc h' => h' = up h L (.lst acc) ∧ acc ++ r.map f = ds.map f ∧ ∃ pre, ds = pre ++ r) (fun L hL => ⟨rfl, rfl, [], rfl⟩) (fun L d r acc h' X hL j k => ?_) (fun L acc h' hL j => ?_)
  · obtain ⟨rfl, e1, pre, e2⟩ := j
    refine ⟨st L acc hL, step L acc d X hL (by rw [e2]; simp) ?_ (k _ _ ⟨rfl, by rw [List.append_assoc]; exact e1, pre ++ [d], by rw [e2]; simp⟩)⟩
    have := congrArg List.length e1
    simp only [List.length_append, List.length_map, List.length_cons] at this
    omega
  · obtain ⟨rfl, e1, _⟩ := j
    refine ⟨st L acc hL, ?_⟩
    rw [List.map_nil, List.append_nil] at e1
    rw [e1]
    exact ok L hL
end
/-! ### sums and such -/
section
variable {h : DH} {P : KD} {a : Addr} {bs : List Bool} {ns : List Int}
theorem blsD_map : ∀ bs : List Bool, blsD (bs.map D.bl) = some bs
  | [] => rfl
  | b :: bs => by
    show (blsD (bs.map D.bl)).map (b :: ·) = _
    rw [blsD_map bs]; rfl
theorem intsD_map : ∀ ns : List Int, intsD (ns.map D.int) = some ns
  | [] => rfl
  | b :: bs => by
    show (intsD (bs.map D.int)).map (b :: ·) = _
    rw [intsD_map bs]; rfl
theorem w_allL (he : h a = some (.lst (bs.map D.bl))) : bAll [.ref a] h P = P (.bl (bs.all id)) h := by
  unfold bAll onBls
  refine propext ⟨fun ⟨xs, ns, e1, e2, q⟩ => ?_, fun q => ⟨_, _, lstOf_lst he, blsD_map bs, q⟩⟩
  rw [lstOf_lst he] at e1
  cases e1
  rw [blsD_map] at e2
  cases e2
  exact q
theorem w_anyL (he : h a = some (.lst (bs.map D.bl))) : bAny [.ref a] h P = P (.bl (bs.any id)) h := by
  unfold bAny onBls
  refine propext ⟨fun ⟨xs, ns, e1, e2, q⟩ => ?_, fun q => ⟨_, _, lstOf_lst he, blsD_map bs, q⟩⟩
  rw [lstOf_lst he] at e1
  cases e1
  rw [blsD_map] at e2
  cases e2
  exact q
theorem w_sumL (he : h a = some (.lst (ns.map D.int))) : bSum [.ref a] h P = P (.int ns.sum) h := by
  unfold bSum onInts
  refine propext ⟨fun ⟨xs, ns, e1, e2, q⟩ => ?_, fun q => ⟨_, _, lstOf_lst he, intsD_map ns, q⟩⟩
  rw [lstOf_lst he] at e1
  cases e1
  rw [intsD_map] at e2
  cases e2
  exact q
end
/-! ### iterations -/
def kIRev (PP : List D → (DH → Prop) → DH → Prop) : KD := fun x h1 => match x with
  | .tup ds => PP ds.reverse (fun _ => True) h1
  | .ktup ds => PP ds.reverse (fun _ => True) h1
  | _ => ∃ xs, lstOf h1 x = some xs ∧ PP xs.reverse (stillL x xs) h1
def kIEnum (PP : List D → (DH → Prop) → DH → Prop) : KD := fun x h1 => ∃ xs, lstOf h1 x = some xs ∧ PP (enumD xs) (stillL x xs) h1
section
variable {a : DE} {e : DSt} {h : DH} {R : KX} {PP : List D → (DH → Prop) → DH → Prop} {ad : Addr} {xs : List D}
theorem w_iRev : iRevD a e h PP R = a e h (kIRev PP) R := propext Iff.rfl
theorem w_iRevT : kIRev PP (.tup xs) h = PP xs.reverse (fun _ => True) h := propext Iff.rfl
theorem w_iRevL (he : h ad = some (.lst xs)) : kIRev PP (.ref ad) h = PP xs.reverse (fun h' => h' ad = some (.lst xs)) h :=
  propext ⟨fun ⟨ys, e1, q⟩ => by rw [lstOf_lst he] at e1; cases e1; exact q, fun q => ⟨xs, lstOf_lst he, q⟩⟩
theorem w_iEnum : iEnumD (cCons a cNil) e h PP R = a e h (kIEnum PP) R := propext Iff.rfl
theorem w_iEnumL (he : h ad = some (.lst xs)) : kIEnum PP (.ref ad) h = PP (enumD xs) (fun h' => h' ad = some (.lst xs)) h :=
  propext ⟨fun ⟨ys, e1, q⟩ => by rw [lstOf_lst he] at e1; cases e1; exact q, fun q => ⟨xs, lstOf_lst he, q⟩⟩
end
/-! ### slices -/
def kSl (lo hi : DO1) (e : DSt) (P : KD) (R : KX) : KD := fun x h1 => lo e h1 (fun l h2 => hi e h2 (fun u h3 => slD x l u h3 P) R) R
def kPart (Q : Option Int → DH → Prop) : KD := fun x h => match x with
  | .int i => Q (some i) h
  | _ => False
def kRev (P : KD) : KD := fun x h1 => ∃ ds, lstOf h1 x = some ds ∧ ∀ p, h1 p = none → P (.ref p) (up h1 p (.lst ds.reverse))
section
variable {E : DEnds} {e : DSt} {h : DH} {P : KD} {R : KX} {a : DE} {i : Int} {x : D} {ds : List D} {ad : Addr} {lo hi : DO1} {Q : Option Int → DH → Prop} {l u : Option Int}
theorem w_sl : cSl a lo hi e h P R = a e h (kSl lo hi e P R) R := propext Iff.rfl
theorem w_kSl : kSl lo hi e P R x h = lo e h (fun l h2 => hi e h2 (fun u h3 => slD x l u h3 P) R) R := propext Iff.rfl
theorem w_part : cPart a e h Q R = a e h (kPart Q) R := propext Iff.rfl
theorem w_kPart : kPart Q (.int i) h = Q (some i) h := propext Iff.rfl
theorem w_noPart : cNoPart e h Q R = Q none h := propext Iff.rfl
theorem w_slT : slD (.tup ds) l u h P = P (.tup (cutD ds l u)) h := propext Iff.rfl
theorem w_slR : slD (.rol ds) l u h P = kNew (cutD ds l u) P h := propext Iff.rfl
theorem w_slL (he : h ad = some (.lst ds)) : slD (.ref ad) l u h P = kNew (cutD ds l u) P h := by
  unfold slD kNew
  simp only [he]
theorem w_slU : slD (.ref ad) l u (up h ad (.lst ds)) P = kNew (cutD ds l u) P (up h ad (.lst ds)) := w_slL up_same
theorem w_rev : cRev a e h P R = a e h (kRev P) R := propext Iff.rfl
theorem w_revL (he : h ad = some (.lst ds)) : kRev P (.ref ad) h = kNew ds.reverse P h := by
  unfold kRev kNew
  simp only [lstOf_lst he, ex_some]
theorem w_revU : kRev P (.ref ad) (up h ad (.lst ds)) = kNew ds.reverse P (up h ad (.lst ds)) := w_revL up_same
end
theorem cut_from {xs : List D} {i : Int} (h : 0 ≤ i) : cutD xs (some i) none = xs.drop i.toNat := by
  unfold cutD
  obtain ⟨k, rfl⟩ := Int.eq_ofNat_of_zero_le h
  rw [HT.sIx_none, HT.sIx_nat, Int.toNat_natCast]
  by_cases z : k ≤ xs.length
  · rw [Nat.min_eq_left z, List.take_of_length_le (by simp)]
  · rw [Nat.min_eq_right (by omega), List.drop_of_length_le (by omega), List.take_nil, List.drop_of_length_le (by omega)]
theorem cut_to {xs : List D} {i : Int} (h : 0 ≤ i) : cutD xs none (some i) = xs.take i.toNat := by
  unfold cutD
  obtain ⟨k, rfl⟩ := Int.eq_ofNat_of_zero_le h
  rw [HT.sIx_none, HT.sIx_nat, Int.toNat_natCast, List.drop_zero, Nat.sub_zero]
  by_cases z : k ≤ xs.length
  · rw [Nat.min_eq_left z]
  · rw [Nat.min_eq_right (by omega), List.take_of_length_le (by omega), List.take_of_length_le (by omega)]
theorem cut_mid {xs : List D} {i j : Int} (h : 0 ≤ i) (h' : i ≤ j) : cutD xs (some i) (some j) = (xs.drop i.toNat).take (j - i).toNat := by
  unfold cutD
  obtain ⟨k, rfl⟩ := Int.eq_ofNat_of_zero_le h
  obtain ⟨m, rfl⟩ := Int.eq_ofNat_of_zero_le (Int.le_trans h h')
  rw [HT.sIx_nat, HT.sIx_nat, Int.toNat_natCast]
  have e : ((m : Int) - (k : Int)).toNat = m - k := by omega
  rw [e]
  by_cases z : k ≤ xs.length
  · rw [Nat.min_eq_left z]
    by_cases z2 : m ≤ xs.length
    · rw [Nat.min_eq_left z2]
    · rw [Nat.min_eq_right (by omega), List.take_of_length_le (by simp), List.take_of_length_le (by simp; omega)]
  · rw [Nat.min_eq_right (by omega : xs.length ≤ k), List.drop_of_length_le (Nat.le_refl _), List.drop_of_length_le (by omega), List.take_nil, List.take_nil]
/-! ### indices from behind -/
theorem at_last {α : Type} {xs : List α} {a : α} : L2.atI (xs ++ [a]) (-1) = some a := by
  unfold L2.atI ixN
  rw [if_neg (by omega), if_pos (by simp; omega)]
  have e2 : (-1 + ((xs ++ [a]).length : Int)).toNat = xs.length := by simp; omega
  show (xs ++ [a])[(-1 + ((xs ++ [a]).length : Int)).toNat]? = some a
  rw [e2]
  simp
end DW

/-! DW, part 18: properties, methods, makers: what the top must say; the hook. -/
namespace DW
open PySem L2 PySem.Spec He PyProof.Rows
def gAd (K : PySem.W.Frag) (p : Str × Option Str) : Addr := match PySem.W.recIn K (fAd K p) "property" with
  | some (.ref g :: _) => g
  | _ => 0
def fnA (K : PySem.W.Frag) (f : Addr) : FnW := match K.lookup f with
  | some ⟨_, _, .func fd, _⟩ => some (fd.name, fd.qualname, fd.params, fd.body, fd.scope, fd.globals, fd.closure, fd.builtins)
  | _ => none
def prOk (K : PySem.W.Frag) (d : DefD) : Bool := PySem.W.keepIn K (.ref (gAd K d.at_)) && (match K.lookup (gAd K d.at_) with
  | some ⟨_, _, .func fd, _⟩ => PySem.W.codeIn K fd.code d.qual && (dflB K fd.defaults (d.dvs K) && kwdB K fd.kwdefaults (d.kws K))
  | _ => false)
theorem prFun {K : PySem.W.Frag} {d : DefD} (e : fnA K (gAd K d.at_) = d.val) (c : prOk K d = true) : ∃ fd, FunD K d.name d.qual d.params d.body d.scope (d.dvs K) (d.kws K) (gAd K d.at_) fd := by
  obtain ⟨kp, c2⟩ := ba c
  unfold fnA at e
  cases q : K.lookup (gAd K d.at_) with
  | none =>
    rw [q] at c2
    cases c2
  | some o =>
    obtain ⟨oc, od, dt, osl⟩ := o
    rw [q] at c2 e
    cases dt with
    | func fd =>
      obtain ⟨n1, n2, n3, n4, n5, n6, n7, n8, n9, n10, n11, n12, n13, n14, n15⟩ := fd
      have e2 : (some (n1, n2, n3, n4, n5, n6, n7, n15) : FnW) = some (d.name, d.qual, d.params, .stmts d.body, d.scope, mainGlobals, [], builtinsNs) := e
      simp only [Option.some.injEq, Prod.mk.injEq] at e2
      obtain ⟨h1, h2, h3, h4, h5, h6, h7, h8⟩ := e2
      subst h1 h2 h3 h4 h5 h6 h7 h8
      have c3 : (PySem.W.codeIn K n13 d.qual && (dflB K n8 (d.dvs K) && kwdB K n9 (d.kws K))) = true := c2
      obtain ⟨k1, k2⟩ := ba c3
      obtain ⟨k3, k4⟩ := ba k2
      exact ⟨_, ⟨oc, od, n8, n9, n10, n11, n12, n13, n14, osl, rfl, q, k1, dflB_ok k3, kwdB_ok k4⟩, kp⟩
    | _ => cases c2
def propB (K : PySem.W.Frag) (C m : Str) : Bool := clsB K (ga K C) && (eqO (PySem.W.findIn K (.ref (ga K C)) m) (some (some (.ref (ma K (ga K C) m)))) && (eqO (PySem.W.specialIn K (.ref (ma K (ga K C) m)) "__get__") (some (some (.builtin "property.__get__"))) &&
  (eqV1 (PySem.W.takesIn K (.ref (ma K (ga K C) m))) (some true) && (match PySem.W.recIn K (ma K (ga K C) m) "property" with
    | some (.ref _ :: _) => true
    | _ => false))))
theorem propB_ok {K : PySem.W.Frag} {C m : Str} (h : propB K C m = true) : Cls K (ga K C) ∧ PropOf K (ga K C) m (ma K (ga K C) m) (gAd K (C, some m)) := by
  obtain ⟨c1, c⟩ := ba h
  obtain ⟨c2, c⟩ := ba c
  obtain ⟨c3, c⟩ := ba c
  obtain ⟨c4, c5⟩ := ba c
  refine ⟨clsB_ok c1, eqO_ok c2, eqO_ok c3, of_decide_eq_true c4, ?_⟩
  have e : gAd K (C, some m) = match PySem.W.recIn K (ma K (ga K C) m) "property" with
    | some (.ref g :: _) => g
    | _ => 0 := rfl
  rw [e]
  split at c5
  · rename_i g r z
    exact ⟨r, z⟩
  · cases c5
def methB (K : PySem.W.Frag) (C m : Str) : Bool := clsB K (ga K C) && ((Fa.meth C m).ok K && (!(m == ("__eq__" : Str)) || (eqO (PySem.W.findIn K (.ref (ga K C)) "__ne__") (some (some (.builtin "object.__ne__"))) && eqV1 (PySem.W.mroIn K (ga K C) (.type "object")) (some true))))
theorem methB_ok {G : Pg} {C m : Str} {c : Nat} (h : methB G.K C m = true) (e : G.ca c = ga G.K C) (n : m ∉ G.fn c) : MethOk G m c (ma G.K (ga G.K C) m) := by
  obtain ⟨h1, h2⟩ := ba h
  obtain ⟨h2, h3⟩ := ba h2
  refine ⟨by rw [e]; exact clsB_ok h1, by rw [e]; exact He.meth_ok h2, n, fun em => ?_⟩
  subst em
  rcases Bool.or_eq_true_iff.mp h3 with h3 | h3
  · simp at h3
  · obtain ⟨h4, h5⟩ := ba h3
    exact ⟨by rw [e]; exact eqO_ok h4, by rw [e]; exact of_decide_eq_true h5⟩
theorem propG_of {G : Pg} {C m : Str} {c k : Nat} {fd : FuncData} {ps : List Str} {s : DSp} (h : propB G.K C m = true) (e : G.ca c = ga G.K C) (hb : Binds G.K fd ps []) (F : FnOk G.P G.w G.K G.mg G.base (L2N.CX G.P G.w) k (gAd G.K (C, some m)) fd ps (LSp G s)) : PropG G k m c s := by
  obtain ⟨h1, h2⟩ := propB_ok h
  exact ⟨k, _, _, fd, ps, by rw [e]; exact h1, by rw [e]; exact h2, F, hb, Nat.le_refl _⟩
def mkB (K : PySem.W.Frag) (C : Str) : Bool := nameB K C none && (Fa.mkr C).ok K
/-! ### keyword-only parameters with defaults -/
def selD (sel : List (Nat ⊕ Nat)) (dms es : List D) : List D := sel.map fun q => match q with
  | .inl i => es.getD i .non
  | .inr j => dms.getD j .non
def selV (sel : List (Nat ⊕ Nat)) (mv ws : List Value) : List Value := sel.map fun q => match q with
  | .inl i => ws.getD i .none
  | .inr j => mv.getD j .none
def selL (sel : List (Nat ⊕ Nat)) (mv ws : List V) : List V := sel.map fun q => match q with
  | .inl i => ws.getD i .non
  | .inr j => mv.getD j .non
def arK (sel : List (Nat ⊕ Nat)) (dms ds es : List D) : List D := ds ++ selD sel dms es
theorem vals_sel {ms zs : List V} {mv ws : List Value} (r : Vals ms mv) (r2 : Vals zs ws) : ∀ sel, Vals (selL sel ms zs) (selV sel mv ws)
  | [] => .nil
  | .inl i :: sel => .cons (vals_getD r2 i) (vals_sel r r2 sel)
  | .inr j :: sel => .cons (vals_getD r j) (vals_sel r r2 sel)
theorem reps_sel {K : PySem.W.Frag} {H : Hp} {dms es : List D} {ms zs : List V} (r : Reps K H dms ms) (r2 : Reps K H es zs) : ∀ sel, Reps K H (selD sel dms es) (selL sel ms zs)
  | [] => reps_nil
  | .inl i :: sel => reps_cons (reps_getD r2 i) (reps_sel r r2 sel)
  | .inr j :: sel => reps_cons (reps_getD r j) (reps_sel r r2 sel)
theorem bindD_ofK {G : Pg} {x qual : Str} {params : Arguments} {body : List Stmt} {scope : Scope} {kws : List (Str × V)} {f : Addr} {fd : FuncData} {ps ks : List Str} {n : Nat} (sel : List (Nat ⊕ Nat)) (dms : List D) (ms : List (Str × V)) (F : FunD G.K x qual params body scope [] kws f fd) (hk : kws ≠ [])
    (hms : ∀ q ∈ ms, q ∈ kws) (hr : ∀ H, Reps G.K H dms (ms.map (·.2)))
    (h : ∀ (D : Addr) (doc pm : Value) (an : Option Addr) (cdv ct : Value) (us ws mv : List Value), us.length = n → ws.length = ks.length → mv.length = ms.length →
      KwChain D ((ms.map (·.1)).zip mv) (bindArgs (PySem.W.fnOf x qual params body scope .none (.ref D) doc pm an cdv ct) ⟨us, ks.zip ws⟩) (ps.zip (us ++ selV sel mv ws))) : BindD G fd ps n ks (arK sel dms) := by
  obtain ⟨oc, od, dV, kV, doc, pm, an, cdv, ct, osl, rfl, lk, hcd, hD, hK⟩ := F.ex
  rcases hD with ⟨_, rfl⟩ | ⟨e, _⟩
  · rcases hK with e | ⟨D, rfl, hq⟩
    · exact absurd e hk
    · obtain ⟨mv, hl, rk, hks⟩ := kwd_vals (ms := ms) fun q hm => hq q (hms q hm)
      exact ⟨fun us ws => us ++ selV sel mv ws, fun s us ws X l1 l2 => BindsTo.of_looks fun M => KwChain.looks X hks (h D doc pm an cdv ct us ws mv l1 l2 hl),
        fun H ds es vs zs us ws l1 l2 r rz rs rt => ⟨vs ++ selL sel (ms.map (·.2)) zs, Vals.append r (vals_sel rk rz sel), Reps.append rs (reps_sel (hr H) rt sel)⟩⟩
  · exact absurd rfl e
/-! ### the hook -/
def obsP (n : Nat) (fn : List DefD) (pr : List DefD) (ex : PySem.W.Frag → Bool) (g : Addr → Option Obj) : AlX × List FnW := (obsX n [] fn [] [] ex g, pr.map fun d => fnA (frT g (asD g n)) (gAd (frT g (asD g n)) d.at_))
structure SaysP (fn pr : List DefD) (ex : PySem.W.Frag → Bool) (w : World) (h : Heap) (K : PySem.W.Frag) : Prop where
  x : SaysX [] fn [] [] ex w h K
  p : pr.map (fun d => fnA K (gAd K d.at_)) = pr.map DefD.val
def hookP (n : Nat) (fn pr : List DefD) (ex : PySem.W.Frag → Bool) : PySem.W.Hook where
  α := AlX × List FnW
  obs := fun s => obsP n fn pr ex s.heap.get?
  val := fun w => (valX fn [] w, pr.map DefD.val)
  says := fun w h => ∃ K : PySem.W.Frag, K.In h ∧ SaysP fn pr ex w h K
  of := fun _ _ e => ⟨_, frT_in, saysX_of (congrArg (fun z : AlX × List FnW => z.1) e), congrArg (fun z : AlX × List FnW => z.2) e⟩
  keeps := fun _ _ _ ⟨K, hK, c⟩ k => ⟨K, PySem.W.Frag.In.keeps hK k, ⟨⟨c.x.t, c.x.more, c.x.hd, c.x.out, fun p hp => k _ _ (c.x.empty p hp)⟩, c.p⟩⟩
theorem obsP_eq {n : Nat} {fn pr : List DefD} {ex : PySem.W.Frag → Bool} {g : Addr → Option Obj} {s : Shared} (h : ∀ a, g a = s.heap.get? a) : obsP n fn pr ex g = (hookP n fn pr ex).obs s := by
  have e : g = s.heap.get? := funext h
  rw [e] <;> rfl
theorem SaysP.pr {fn pr : List DefD} {ex : PySem.W.Frag → Bool} {w : World} {h : Heap} {K : PySem.W.Frag} (c : SaysP fn pr ex w h K) (i : Nat) {d : DefD} (e : pr[i]? = some d) : fnA K (gAd K d.at_) = d.val := by
  have e2 : (pr.map fun d => fnA K (gAd K d.at_))[i]? = (pr.map DefD.val)[i]? := by rw [c.p]
  rw [List.getElem?_map, List.getElem?_map, e] at e2
  exact Option.some.inj e2
end DW

/-! DW, part 19: words for the plain part: objects, filters. -/
namespace DW
open PySem L2
/-! ### fields, methods -/
def kFld (ix : List (Nat × Nat)) (P : KD) : KD := fun x h1 => match x with
  | .ref p => match h1 p with
    | some (.ins c fs) => match ix.lookup c with
      | some i => match fs[i]? with
        | some d => P d h1
        | none => False
      | none => False
    | _ => False
  | _ => False
def kPut (d : D) (ix : List (Nat × Nat)) (E : DEnds) (e : DSt) : KD := fun x h2 => match x with
  | .ref p => match h2 p with
    | some (.ins c fs) => match ix.lookup c with
      | some i => match putI fs i d with
        | some fs' => E.nx e (up h2 p (.ins c fs'))
        | none => False
      | none => False
    | _ => False
  | _ => False
def kMeth (c : Nat) (s : DSp) (t : DA) (e : DSt) (P : KD) (R : KX) : KD := fun x h1 => match x with
  | .ref p => match h1 p with
    | some (.ins c' _) => c' = c ∧ t e h1 (fun ds h2 => s (x :: ds) h2 P R) R
    | _ => False
  | _ => False
def kProp (c : Nat) (s : DSp) (P : KD) : KD := fun x h1 => match x with
  | .ref p => match h1 p with
    | some (.ins c' _) => c' = c ∧ s [x] h1 P (fun _ _ => False)
    | _ => False
  | _ => False
section
variable {E : DEnds} {e : DSt} {h : DH} {P : KD} {R : KX} {a o : DE} {ix : List (Nat × Nat)} {p : Addr} {c i : Nat} {fs fs' : List D} {d : D} {s : DSp} {t tk : DA} {s2 : DSp2} {tb : List (Nat × DSp)}
theorem w_fld : cFld a ix e h P R = a e h (kFld ix P) R := propext Iff.rfl
theorem go_fld (he : h p = some (.ins c fs)) (h1 : ix.lookup c = some i) (h2 : fs[i]? = some d) (q : P d h) : kFld ix P (.ref p) h := by
  unfold kFld
  simp only [he, h1, h2]
  exact q
theorem w_sfld : sFld o a ix E e h = a e h (fun d h1 => o e h1 (kPut d ix E e) fun x h2 => E.ex x e h2) (fun x h1 => E.ex x e h1) := propext Iff.rfl
theorem go_put (he : h p = some (.ins c fs)) (h1 : ix.lookup c = some i) (h2 : putI fs i d = some fs') (q : E.nx e (up h p (.ins c fs'))) : kPut d ix E e (.ref p) h := by
  unfold kPut
  simp only [he, h1, h2]
  exact q
theorem w_meth1 : cMeth o [(c, s)] t e h P R = o e h (kMeth c s t e P R) R := by
  unfold cMeth
  refine propext ⟨fun ⟨q, hq, z⟩ => ?_, fun z => ⟨(c, s), List.mem_cons_self, z⟩⟩
  rw [List.mem_singleton.mp hq] at z
  exact z
theorem go_meth (he : h p = some (.ins c fs)) (q : t e h (fun ds h2 => s (.ref p :: ds) h2 P R) R) : kMeth c s t e P R (.ref p) h := by
  unfold kMeth
  simp only [he, true_and]
  exact q
theorem w_prop1 : cProp o [(c, s)] e h P R = o e h (kProp c s P) R := by
  unfold cProp
  refine propext ⟨fun ⟨q, hq, z⟩ => ?_, fun z => ⟨(c, s), List.mem_cons_self, z⟩⟩
  rw [List.mem_singleton.mp hq] at z
  exact z
theorem go_prop (he : h p = some (.ins c fs)) (q : s [.ref p] h P (fun _ _ => False)) : kProp c s P (.ref p) h := by
  unfold kProp
  simp only [he, true_and]
  exact q
theorem w_callK : cCallK s2 t tk e h P R = t e h (fun ds h1 => tk e h1 (fun es h2 => s2 ds es h2 P R) R) R := propext Iff.rfl
end
/-! ### filters -/
section
variable {g : DG} {tt : DT} {te : DE} {vs : List Nat} {e : DSt} {h : DH} {P : KD} {α : Type} {f : α → D} {xs : List α}
theorem go_lcF {still : DH → Prop} (q : α → Bool) (hlen : xs.length ≤ sizeLine) (st : ∀ L acc, h L = none → still (up h L (.lst acc)))
    (step : ∀ L acc x (X : List D → DH → Prop), h L = none → x ∈ xs → acc.length < sizeLine → (q x = true → X (acc ++ [f x]) (up h L (.lst (acc ++ [f x])))) → (q x = false → X acc (up h L (.lst acc))) → g (f x) (wipeD e vs) (up h L (.lst acc)) fun e1 h1 => tt e1 h1 (kLcB te L acc X e1) (fun _ _ => False))
    (ok : kNew ((xs.filter q).map f) P h) : kLc g tt te vs e P (xs.map f) still h := by
  refine go_lc (fun L r acc h' => h' = up h L (.lst acc) ∧ ∃ pre rest, xs = pre ++ rest ∧ r = rest.map f ∧ acc = (pre.filter q).map f) (fun L hL => ⟨rfl, [], xs, rfl, rfl, rfl⟩) (fun L d r acc h' X hL j k => ?_) (fun L acc h' hL j => ?_)
  · obtain ⟨rfl, pre, rest, e1, e2, e3⟩ := j
    cases rest with
    | nil => cases e2
    | cons x rest =>
      obtain ⟨rfl, rfl⟩ := List.cons.inj e2
      refine ⟨st L acc hL, step L acc x X hL (by rw [e1]; simp) ?_ (fun z => ?_) (fun z => ?_)⟩
      · have l1 := List.length_filter_le q pre
        have l2 := congrArg List.length e1
        simp only [List.length_append, List.length_cons] at l2
        rw [e3, List.length_map]
        omega
      · exact k _ _ ⟨rfl, pre ++ [x], rest, by rw [e1]; simp, rfl, by rw [e3]; simp [z]⟩
      · exact k _ _ ⟨rfl, pre ++ [x], rest, by rw [e1]; simp, rfl, by rw [e3]; simp [z]⟩
  · obtain ⟨rfl, pre, rest, e1, e2, e3⟩ := j
    cases rest with
    | cons x rest => cases e2
    | nil =>
      refine ⟨st L acc hL, ?_⟩
      rw [List.append_nil] at e1
      rw [e3, ← e1]
      exact ok L hL
end
/-! ### what a method changes -/
/-- from the footprint S to S': all else stays -/
structure Mv (S S' : List Addr) (h h' : DH) : Prop where
  keep : ∀ a o, a ∉ S → h a = some o → h' a = some o
  foot : ∀ a, a ∈ S' → a ∈ S ∨ h a = none
section
variable {S S' S2 : List Addr} {h h' h2 : DH} {a : Addr} {o : MO}
theorem Mv.at (m : Mv S S' h h') (hn : a ∉ S) (e : h a = some o) : h' a = some o ∧ a ∉ S' := ⟨m.keep a o hn e, fun z => (m.foot a z).elim hn fun z => by rw [e] at z; cases z⟩
theorem Mv.refl : Mv S S h h := ⟨fun _ _ _ e => e, fun _ z => .inl z⟩
theorem Mv.ofSub (s : Sub h h') : Mv S S h h' := ⟨fun a o _ e => s a o e, fun _ z => .inl z⟩
theorem Mv.trans (m : Mv S S' h h') (m2 : Mv S' S2 h' h2) : Mv S S2 h h2 := ⟨fun a o n e => by
    obtain ⟨e1, n1⟩ := m.at n e
    exact m2.keep a o n1 e1, fun a z => by
    rcases m2.foot a z with z | z
    · exact m.foot a z
    · cases e : h a with
      | none => exact .inr rfl
      | some u =>
        by_cases n : a ∈ S
        · exact .inl n
        · rw [m.keep a u n e] at z; cases z⟩
theorem Mv.set (ha : a ∈ S) : Mv S S h (up h a o) := ⟨fun b u n e => by rw [up_ne fun z => n (by rw [z]; exact ha)]; exact e, fun _ z => .inl z⟩
theorem Mv.new (ha : h a = none) : Mv S (a :: S) h (up h a o) := ⟨fun b u n e => Sub.new ha b u e, fun b z => (List.mem_cons.mp z).elim (fun e => .inr (by rw [e]; exact ha)) .inl⟩
theorem Mv.less (m : Mv S S' h h') (l : ∀ a ∈ S2, a ∈ S') : Mv S S2 h h' := ⟨m.keep, fun a z => m.foot a (l a z)⟩
theorem Mv.drop (m : Mv S S' h h') (s : Sub h' h2) : Mv S S' h h2 := m.trans (Mv.ofSub s)
end
end DW

/-! DW, part 20: words for the plain part: dicts. -/
namespace DW
open PySem L2
def kDict0 (P : KD) (h : DH) : Prop := (∀ p, h p = none → P (.ref p) (up h p (.dK []))) ∨ ∀ p, h p = none → P (.ref p) (up h p (.dT []))
def kLenS (P : KD) : KD := fun x h1 => ∃ xs ns, lstOf h1 x = some xs ∧ intsD xs = some ns ∧ ns.length < 63 ∧ P (.int (ddN ns : Nat)) h1
section
variable {E : DEnds} {e : DSt} {h : DH} {P : KD} {R : KX} {a o i : DE} {p : Addr} {x y d d0 : D} {kvs : List (Key × D)} {kvt : List (List Key × D)} {t : DS} {f u : MO} {ds : List D}
theorem w_dict0 : cDict0 e h P R = kDict0 P h := propext Iff.rfl
theorem go_dictK (k : ∀ p H, h p = none → Sub h H → H p = some (.dK []) → P (.ref p) H) : kDict0 P h := .inl fun p hp => k p _ hp (Sub.new hp) up_same
theorem go_dictT (k : ∀ p H, h p = none → Sub h H → H p = some (.dT []) → P (.ref p) H) : kDict0 P h := .inr fun p hp => k p _ hp (Sub.new hp) up_same
theorem go_dictKE (k : ∀ p, h p = none → P (.ref p) (up h p (.dK []))) : kDict0 P h := .inl k
theorem go_dictTE (k : ∀ p, h p = none → P (.ref p) (up h p (.dT []))) : kDict0 P h := .inr k
theorem w_sub2 : sSub o i a E e h = a e h (fun d h1 => o e h1 (fun x h2 => i e h2 (fun y h3 => setD x y d h3 fun h4 => E.nx e h4) fun x h3 => E.ex x e h3) fun x h2 => E.ex x e h2) (fun x h1 => E.ex x e h1) := propext Iff.rfl
theorem go_setK {k : Key} {Q : DH → Prop} (he : h p = some (.dK kvs)) (hk : y.key? = some k) (hl : kvs.length < sizeLine) (q : Q (up h p (.dK (putM kvs k d)))) : setD (.ref p) y d h Q := by
  unfold setD
  simp only [he]
  exact ⟨k, hk, hl, q⟩
theorem go_setT {k : List Key} {Q : DH → Prop} (he : h p = some (.dT kvt)) (hk : y.tkey? = some k) (hl : kvt.length < sizeLine) (q : Q (up h p (.dT (putM kvt k d)))) : setD (.ref p) y d h Q := by
  unfold setD
  simp only [he]
  exact ⟨k, hk, hl, q⟩
theorem go_setL {j : Nat} {k : Int} {Q : DH → Prop} (he : h p = some (.lst ds)) (hk : ixN ds.length k = some j) (q : Q (up h p (.lst (ds.set j d)))) : setD (.ref p) (.int k) d h Q := by
  unfold setD
  simp only [he]
  exact ⟨k, j, rfl, hk, q⟩
theorem go_ixDK {k : Key} (he : h p = some (.dK kvs)) (hk : y.key? = some k) (hv : valD kvs k = some d) (q : P d h) : doIx (.ref p) y h P := by
  have e1 : isDict h p = true := by unfold isDict; simp only [he]
  unfold doIx
  simp only [e1, if_true]
  unfold dGet
  simp only [he]
  exact ⟨k, hk, d, hv, q⟩
theorem go_ixFK {k : Key} {ob : Obj} {ws : List (Key × V)} (he : h p = some (.fK kvs ob ws)) (hk : y.key? = some k) (hv : valD kvs k = some d) (q : P d h) : doIx (.ref p) y h P := by
  have e1 : isDict h p = true := by unfold isDict; simp only [he]
  unfold doIx
  simp only [e1, if_true]
  unfold dGet
  simp only [he]
  exact ⟨k, hk, d, hv, q⟩
theorem go_inDK {k : Key} (he : h p = some (.dK kvs)) (hk : y.key? = some k) (q : P (.bl (valD kvs k).isSome) h) : doIn y (.ref p) h P := by
  have e1 : isDict h p = true := by unfold isDict; simp only [he]
  unfold doIn doInB
  simp only [e1, if_true]
  unfold dGet
  simp only [he]
  exact ⟨k, hk, q⟩
theorem go_ninDK {k : Key} (he : h p = some (.dK kvs)) (hk : y.key? = some k) (q : P (.bl (!(valD kvs k).isSome)) h) : doNotIn y (.ref p) h P := by
  have e1 : isDict h p = true := by unfold isDict; simp only [he]
  unfold doNotIn doInB
  simp only [e1, if_true]
  unfold dGet
  simp only [he]
  exact ⟨k, hk, q⟩
theorem go_get1 {k : Key} (he : h p = some (.dK kvs)) (hk : y.key? = some k) (q : P ((valD kvs k).getD .non) h) : mGet (.ref p) [y] h P := by
  unfold mGet
  simp only
  unfold dGet
  simp only [he]
  exact ⟨k, hk, q⟩
theorem go_get2 {k : Key} (he : h p = some (.dK kvs)) (hk : y.key? = some k) (q : P ((valD kvs k).getD d0) h) : mGet (.ref p) [y, d0] h P := by
  unfold mGet
  simp only
  unfold dGet
  simp only [he]
  exact ⟨k, hk, q⟩
theorem w_tyDK (he : h p = some (.dK kvs)) : tyD "dict" h (.ref p) = True := by
  unfold tyD
  simp only [he]
theorem go_dictC (he : h p = some (.dK kvs)) (k : ∀ q H, h q = none → Sub h H → H q = some (.dK kvs) → P (.ref q) H) : bDict1 [.ref p] h P := by
  unfold bDict1
  simp only [he]
  exact fun q hq => k q _ hq (Sub.new hq) up_same
theorem w_lenS : cLenSet a e h P R = a e h (kLenS P) R := propext Iff.rfl
theorem go_lenS {ns : List Int} (he : h p = some (.lst (ns.map D.int))) (hl : ns.length < 63) (q : P (.int (ddN ns : Nat)) h) : kLenS P (.ref p) h := ⟨_, ns, lstOf_lst he, intsD_map ns, hl, q⟩
theorem go_lk0 (q : t E e h) : sLk t E e h := .inl q
theorem go_lkK (he : h p = some (.dK kvs)) (q : ∀ ob ws, t (unE p (.fK kvs ob ws) (.dK kvs) E) e (up h p (.fK kvs ob ws))) : sLk t E e h := .inr (.inl ⟨p, kvs, he, q⟩)
theorem go_lkT (he : h p = some (.dT kvt)) (q : ∀ ob ws, t (unE p (.fT kvt ob ws) (.dT kvt) E) e (up h p (.fT kvt ob ws))) : sLk t E e h := .inr (.inr ⟨p, kvt, he, q⟩)
theorem w_unNx : (unE p f u E).nx e h = (h p = some f ∧ E.nx e (up h p u)) := propext Iff.rfl
theorem w_unRt : (unE p f u E).rt x h = (h p = some f ∧ E.rt x (up h p u)) := propext Iff.rfl
theorem w_unBk : (unE p f u E).bk e h = (h p = some f ∧ E.bk e (up h p u)) := propext Iff.rfl
theorem w_unCt : (unE p f u E).ct e h = (h p = some f ∧ E.ct e (up h p u)) := propext Iff.rfl
theorem w_itFK {PP : List D → (DH → Prop) → DH → Prop} {ob : Obj} {ws : List (Key × V)} (he : h p = some (.fK kvs ob ws)) : itD (.ref p) h PP = PP (kvs.map fun kv => kD kv.1) (fun h' => h' p = some (.fK kvs ob ws)) h := by
  unfold itD
  simp only [he]
theorem go_eq0 {v : Bool} {q : Addr} (ha : h p = some (.dK [])) (hb : h q = some (.dK [])) (k : P (.bl v) h) : doEq0 v (.ref p) (.ref q) h P := ⟨⟨ha, hb⟩, k⟩
end
theorem key_int {i : Int} : D.key? (.int i) = some (.inl i) := rfl
theorem key_str {s : Str} : D.key? (.str s) = some (.inr s) := rfl
/-! ### what is known of a heap beside one object -/
def Fx (H : DH) (b : Addr) (L : List (Addr × MO)) : Prop := ∀ q ∈ L, H q.1 = some q.2 ∧ q.1 ≠ b
section
variable {H H1 : DH} {b d : Addr} {L : List (Addr × MO)} {o ob : MO}
theorem Fx.nil : Fx H b [] := fun _ z => by cases z
theorem Fx.put (F : Fx H b L) : Fx (up H b o) b L := fun q m => ⟨by rw [up_ne (F q m).2]; exact (F q m).1, (F q m).2⟩
theorem Fx.sub (F : Fx H b L) (S : Sub H H1) : Fx H1 b L := fun q m => ⟨S _ _ (F q m).1, (F q m).2⟩
theorem Fx.new (F : Fx H b L) (S : Sub H H1) (hb : H b = some ob) (hd : H d = none) (e : H1 d = some o) : Fx H1 b ((d, o) :: L) := fun q m => by
  rcases List.mem_cons.mp m with m | m
  · subst m
    exact ⟨e, fun z => by rw [show d = b from z, hb] at hd; cases hd⟩
  · exact F.sub S q m
theorem Fx.at {q : Addr × MO} (F : Fx H b L) (m : q ∈ L) : H q.1 = some q.2 := (F q m).1
end
/-! ### dicts with int keys, texts -/
theorem putM_new {κ : Type} [DecidableEq κ] {kvs : List (κ × D)} {k : κ} {v : D} (h : k ∉ kvs.map (·.1)) : putM kvs k v = kvs ++ [(k, v)] := by
  unfold putM
  rw [if_neg]
  rw [List.any_eq_true]
  rintro ⟨q, m, e⟩
  exact h (List.mem_map.mpr ⟨q, m, of_decide_eq_true e⟩)
theorem valD_mem {κ : Type} [DecidableEq κ] {k : κ} {v : D} : ∀ {kvs : List (κ × D)}, (kvs.map (·.1)).Nodup → (k, v) ∈ kvs → valD kvs k = some v
  | [], _, m => by cases m
  | q :: kvs, n, m => by
    rw [List.map_cons, List.nodup_cons] at n
    unfold valD
    rw [List.find?_cons]
    by_cases e : q.1 = k
    · rw [decide_eq_true e]
      rcases List.mem_cons.mp m with m | m
      · rw [← m]; rfl
      · exact absurd (List.mem_map.mpr ⟨_, m, rfl⟩) (by rw [e] at n; exact n.1)
    · rw [decide_eq_false e]
      rcases List.mem_cons.mp m with m | m
      · rw [← m] at e; exact absurd rfl e
      · exact valD_mem n.2 m
theorem valD_none {κ : Type} [DecidableEq κ] {k : κ} {kvs : List (κ × D)} (h : k ∉ kvs.map (·.1)) : valD kvs k = none := by
  unfold valD
  rw [List.find?_eq_none.mpr fun q m e => h (List.mem_map.mpr ⟨q, m, of_decide_eq_true e⟩)]
  rfl
/-! ### len(set(xs)) -/
theorem dedup_len : ∀ (xs σ : List Int), (xs.foldl PyProof.Rows.step_dedup σ).length ≤ σ.length + xs.length ∧ ((xs.foldl PyProof.Rows.step_dedup σ).length = σ.length + xs.length ↔ xs.Nodup ∧ ∀ x ∈ xs, x ∉ σ)
  | [], σ => by simp
  | x :: xs, σ => by
    rw [List.foldl_cons]
    by_cases m : x ∈ σ
    · have e : PyProof.Rows.step_dedup σ x = σ := by
        unfold PyProof.Rows.step_dedup
        rw [if_pos (by rw [List.any_eq_true]; exact ⟨x, m, by simp⟩)]
      rw [e]
      obtain ⟨h1, h2⟩ := dedup_len xs σ
      refine ⟨by rw [List.length_cons]; omega, ?_⟩
      rw [List.length_cons]
      constructor
      · intro z; omega
      · intro z; exact absurd m (z.2 x (List.mem_cons_self ..))
    · have e : PyProof.Rows.step_dedup σ x = σ ++ [x] := by
        unfold PyProof.Rows.step_dedup
        rw [if_neg]
        rw [List.any_eq_true]
        rintro ⟨y, hy, e⟩
        rw [beq_iff_eq.mp e] at hy
        exact m hy
      rw [e]
      obtain ⟨h1, h2⟩ := dedup_len xs (σ ++ [x])
      rw [List.length_append, List.length_singleton] at h1 h2
      rw [List.length_cons]
      refine ⟨by omega, ?_⟩
      have e2 : σ.length + (xs.length + 1) = σ.length + 1 + xs.length := by omega
      rw [e2, h2, List.nodup_cons]
      constructor
      · rintro ⟨n, a⟩
        refine ⟨⟨fun z => a x z (by simp), n⟩, fun y hy => ?_⟩
        rcases List.mem_cons.mp hy with z | z
        · rw [z]; exact m
        · exact fun q => a y z (by simp [q])
      · rintro ⟨⟨n1, n2⟩, a⟩
        refine ⟨n2, fun y hy q => ?_⟩
        rcases List.mem_append.mp q with q | q
        · exact a y (List.mem_cons_of_mem _ hy) q
        · rw [List.mem_singleton.mp q] at hy; exact n1 hy
theorem range_getD (ns : List Int) : (List.range ns.length).map (fun i => ns.getD i 0) = ns := by
  refine List.ext_getElem? fun i => ?_
  rw [List.getElem?_map]
  by_cases h : i < ns.length
  · rw [List.getElem?_range h]
    show some (ns.getD i 0) = _
    rw [List.getD_eq_getElem?_getD, List.getElem?_eq_getElem h]
    rfl
  · rw [List.getElem?_eq_none (by simpa using h), List.getElem?_eq_none (by simpa using h)]
    rfl
theorem ddN_eq {ns : List Int} : ddN ns = ns.length ↔ ns.Nodup := by
  have e : ddN ns = (ns.foldl PyProof.Rows.step_dedup []).length := by
    show (((List.range ns.length).map fun i => ns.getD i 0).foldl PyProof.Rows.step_dedup []).length = _
    rw [range_getD]
  rw [e]
  have := (dedup_len ns []).2
  simpa using this
/-! ### max, min; += of a field; del; extend, pop -/
section
variable {D0 : DEnds} {e : DSt} {h : DH} {P : KD} {R : KX} {a o i : DE} {p q : Addr} {x y d : D} {j k m : Int} {ns : List Int} {xs ys : List D} {c n : Nat} {fs fs' : List D} {ix : List (Nat × Nat)} {g : Int → Int → Int}
theorem w_maxA2 : bMaxA [.int j, .int k] h P = P (.int (max j k)) h := by
  have e : (if k > j then k else j) = max j k := by omega
  rw [← e]; exact propext Iff.rfl
theorem go_maxT (e1 : xs = ns.map D.int) (hl : 0 < ns.length) (z : ∀ m, m ∈ ns → (∀ y, y ∈ ns → y ≤ m) → P (.int m) h) : bMaxA [.tup xs] h P := ⟨ns, by rw [e1]; exact intsD_map ns, hl, z⟩
theorem go_maxL (he : h p = some (.lst (ns.map D.int))) (hl : 0 < ns.length) (z : ∀ m, m ∈ ns → (∀ y, y ∈ ns → y ≤ m) → P (.int m) h) : bMaxA [.ref p] h P := ⟨_, ns, lstOf_lst he, intsD_map ns, hl, z⟩
theorem go_minL (he : h p = some (.lst (ns.map D.int))) (hl : 0 < ns.length) (z : ∀ m, m ∈ ns → (∀ y, y ∈ ns → m ≤ y) → P (.int m) h) : bMin [.ref p] h P := ⟨_, ns, lstOf_lst he, intsD_map ns, hl, z⟩
/-- where an augmented store goes on -/
def kAugY (g : Int → Int → Int) (D0 : DEnds) (e : DSt) (p : Addr) (c i : Nat) (m : Int) : KD := fun y h2 => ∃ n fs', y = .int n ∧ h2 p = some (.ins c fs') ∧ i < fs'.length ∧ D0.nx e (up h2 p (.ins c (fs'.set i (.int (g m n)))))
def kAugX (g : Int → Int → Int) (a : DE) (ix : List (Nat × Nat)) (D0 : DEnds) (e : DSt) : KD := fun x h1 => match x with
  | .ref p => ∃ c fs i m, h1 p = some (.ins c fs) ∧ ix.lookup c = some i ∧ fs[i]? = some (.int m) ∧ a e h1 (kAugY g D0 e p c i m) fun x h2 => D0.ex x e h2
  | _ => False
theorem w_augF : sAugF g o a ix D0 e h = o e h (kAugX g a ix D0 e) (fun x h1 => D0.ex x e h1) := propext Iff.rfl
theorem go_augX {i : Nat} (he : h p = some (.ins c fs)) (h1 : ix.lookup c = some i) (h2 : fs[i]? = some (.int m)) (z : a e h (kAugY g D0 e p c i m) fun x h2 => D0.ex x e h2) : kAugX g a ix D0 e (.ref p) h := ⟨c, fs, i, m, he, h1, h2, z⟩
theorem go_augY {i : Nat} (he : h p = some (.ins c fs)) (hl : i < fs.length) (hs : fs.set i (.int (g m k)) = fs') (z : D0.nx e (up h p (.ins c fs'))) : kAugY g D0 e p c i m (.int k) h := ⟨k, fs, rfl, he, hl, by rw [hs]; exact z⟩
def kDelY (D0 : DEnds) (e : DSt) (x : D) : KD := fun y h2 => match x, y with
  | .ref p, .int j => ∃ xs k, h2 p = some (.lst xs) ∧ -(2 ^ 63) ≤ j ∧ j < 2 ^ 63 ∧ seqIndex? j xs.length = some k ∧ D0.nx e (up h2 p (.lst (xs.eraseIdx k)))
  | _, _ => False
theorem w_delL : sDelL o i D0 e h = o e h (fun x h1 => i e h1 (kDelY D0 e x) fun x h2 => D0.ex x e h2) (fun x h1 => D0.ex x e h1) := propext Iff.rfl
theorem go_delY {l : Nat} (he : h p = some (.lst xs)) (hl : l < xs.length) (hx : l < 2 ^ 60) (z : D0.nx e (up h p (.lst (xs.eraseIdx l)))) : kDelY D0 e (.ref p) (.int (l : Nat)) h := by
  refine ⟨xs, l, he, by omega, by omega, ?_, z⟩
  unfold seqIndex?
  simp
  omega
theorem go_ext (ha : h p = some (.lst xs)) (hb : h q = some (.lst ys)) (hl : xs.length + ys.length ≤ sizeLine) (z : P .non (up h p (.lst (xs ++ ys)))) : mExtend (.ref p) [.ref q] h P := ⟨xs, ys, ha, hb, hl, z⟩
end
end DW

/-! DW, part 21: plain words of own == != in len, of sorted and dict. -/
namespace DW
open PySem L2 PySem.Spec He PyProof.Rows
section
variable {f : DO} {tb : List (Nat × DSp)} {y x : D} {h : DH} {P : KD} {i : Int} {b : Bool} {s : Str} {ds : List D} {g : Bool → Bool} {a : Addr} {xs : List D}
theorem orF {p q : Prop} (n : ¬ q) : (p ∨ q) = p := propext ⟨fun z => z.elim id fun z => absurd z n, .inl⟩
theorem w_oEq0 : oEq [] f x y h P = f x y h P := orF (by rintro ⟨_, z, _⟩; cases z)
theorem w_oNe0 : oNe [] f x y h P = f x y h P := orF (by rintro ⟨_, z, _⟩; cases z)
theorem w_oIn0 : oIn [] g f x y h P = f x y h P := orF (by rintro ⟨_, z, _⟩; cases z)
theorem w_oEqI : oEq tb f (.int i) y h P = f (.int i) y h P := orF (by rintro ⟨_, _, _, _, z, _⟩; cases z)
theorem w_oEqB : oEq tb f (.bl b) y h P = f (.bl b) y h P := orF (by rintro ⟨_, _, _, _, z, _⟩; cases z)
theorem w_oEqS : oEq tb f (.str s) y h P = f (.str s) y h P := orF (by rintro ⟨_, _, _, _, z, _⟩; cases z)
theorem w_oEqT : oEq tb f (.tup ds) y h P = f (.tup ds) y h P := orF (by rintro ⟨_, _, _, _, z, _⟩; cases z)
theorem w_oEqK : oEq tb f (.ktup ds) y h P = f (.ktup ds) y h P := orF (by rintro ⟨_, _, _, _, z, _⟩; cases z)
theorem w_oEqN : oEq tb f .non y h P = f .non y h P := orF (by rintro ⟨_, _, _, _, z, _⟩; cases z)
theorem w_oNeI : oNe tb f (.int i) y h P = f (.int i) y h P := orF (by rintro ⟨_, _, _, _, _, _, z, _⟩; cases z)
theorem w_oNeB : oNe tb f (.bl b) y h P = f (.bl b) y h P := orF (by rintro ⟨_, _, _, _, _, _, z, _⟩; cases z)
theorem w_oNeS : oNe tb f (.str s) y h P = f (.str s) y h P := orF (by rintro ⟨_, _, _, _, _, _, z, _⟩; cases z)
theorem w_oNeT : oNe tb f (.tup ds) y h P = f (.tup ds) y h P := orF (by rintro ⟨_, _, _, _, _, _, z, _⟩; cases z)
theorem w_oNeK : oNe tb f (.ktup ds) y h P = f (.ktup ds) y h P := orF (by rintro ⟨_, _, _, _, _, _, z, _⟩; cases z)
theorem w_oNeN : oNe tb f .non y h P = f .non y h P := orF (by rintro ⟨_, _, _, _, _, _, z, _⟩; cases z)
theorem w_oInT : oIn tb g f x (.tup ds) h P = f x (.tup ds) h P := orF (by rintro ⟨_, _, _, _, z, _⟩; cases z)
theorem w_oInK : oIn tb g f x (.ktup ds) h P = f x (.ktup ds) h P := orF (by rintro ⟨_, _, _, _, z, _⟩; cases z)
theorem w_oInR : oIn tb g f x (.rol ds) h P = f x (.rol ds) h P := orF (by rintro ⟨_, _, _, _, z, _⟩; cases z)
theorem w_oInS : oIn tb g f x (.str s) h P = f x (.str s) h P := orF (by rintro ⟨_, _, _, _, z, _⟩; cases z)
/-- the left one is a list -/
theorem w_oNeL (ha : h a = some (.lst xs)) : oNe tb f (.ref a) y h P = f (.ref a) y h P := orF (by rintro ⟨_, _, p, _, _, _, z, e, _⟩; cases z; rw [ha] at e; cases e)
theorem w_oEqL (ha : h a = some (.lst xs)) : oEq tb f (.ref a) y h P = f (.ref a) y h P := orF (by rintro ⟨_, _, p, _, z, e, _⟩; cases z; rw [ha] at e; cases e)
theorem w_oInL (ha : h a = some (.lst xs)) : oIn tb g f x (.ref a) h P = f x (.ref a) h P := orF (by rintro ⟨_, _, p, _, z, e, _⟩; cases z; rw [ha] at e; cases e)
theorem w_lenO0 : bLenO [] [x] h P = bLen [x] h P := orF (by rintro ⟨_, z, _⟩; cases z)
theorem w_lenOT : bLenO tb [.tup ds] h P = bLen [.tup ds] h P := orF (by rintro ⟨_, _, _, _, z, _⟩; cases z)
theorem w_lenOK : bLenO tb [.ktup ds] h P = bLen [.ktup ds] h P := orF (by rintro ⟨_, _, _, _, z, _⟩; cases z)
theorem w_lenOR : bLenO tb [.rol ds] h P = bLen [.rol ds] h P := orF (by rintro ⟨_, _, _, _, z, _⟩; cases z)
theorem w_lenOS : bLenO tb [.str s] h P = bLen [.str s] h P := orF (by rintro ⟨_, _, _, _, z, _⟩; cases z)
theorem w_lenOL (ha : h a = some (.lst xs)) : bLenO tb [.ref a] h P = bLen [.ref a] h P := orF (by rintro ⟨_, _, p, _, z, e, _⟩; cases z; rw [ha] at e; cases e)
theorem w_lenOU : bLenO tb [.ref a] (up h a (.lst xs)) P = bLen [.ref a] (up h a (.lst xs)) P := w_lenOL up_same
theorem w_par2 {u v : Nat} {t : DA} {D0 : DEnds} {e : DSt} : sPar2 u v t D0 e h = t e h (fun ds h1 => ∃ p q, ds = [p, q] ∧ D0.nx ((e.set u (some p)).set v (some q)) h1) fun x h1 => D0.ex x e h1 := propext Iff.rfl
theorem w_par3 {u v w : Nat} {t : DA} {D0 : DEnds} {e : DSt} : sPar3 u v w t D0 e h = t e h (fun ds h1 => ∃ p q r, ds = [p, q, r] ∧ D0.nx (((e.set u (some p)).set v (some q)).set w (some r)) h1) fun x h1 => D0.ex x e h1 := propext Iff.rfl
/-- own ==: an instance asks its class -/
theorem go_oEq {c : Nat} {fs : List D} {sp : DSp} (ha : h a = some (.ins c fs)) (hm : (c, sp) ∈ tb) (hy : okY c y h) (q : sp [.ref a, y] h (fun d h' => ∃ b, d = .bl b ∧ P (.bl b) h') noXK) : oEq tb f (.ref a) y h P := .inr ⟨(c, sp), hm, a, fs, rfl, ha, hy, q⟩
theorem go_oNe {c : Nat} {fs fs' : List D} {a' : Addr} {sp : DSp} (ha : h a = some (.ins c fs)) (hb : h a' = some (.ins c fs')) (hm : (c, sp) ∈ tb) (q : sp [.ref a, .ref a'] h (fun d h' => ∃ b, d = .bl b ∧ P (.bl (!b)) h') noXK) : oNe tb f (.ref a) (.ref a') h P := .inr ⟨(c, sp), hm, a, fs, a', fs', rfl, ha, rfl, hb, q⟩
theorem go_oIn {c : Nat} {fs : List D} {sp : DSp} (ha : h a = some (.ins c fs)) (hm : (c, sp) ∈ tb) (q : sp [.ref a, x] h (fun d h' => ∃ b, d = .bl b ∧ P (.bl (g b)) h') noXK) : oIn tb g f x (.ref a) h P := .inr ⟨(c, sp), hm, a, fs, rfl, ha, q⟩
theorem go_lenO {c : Nat} {fs : List D} {sp : DSp} (ha : h a = some (.ins c fs)) (hm : (c, sp) ∈ tb) (q : sp [.ref a] h (fun d h' => ∃ n, d = .int n ∧ (0 ≤ n ∧ n < 2 ^ 63) ∧ P (.int n) h') noXK) : bLenO tb [.ref a] h P := .inr ⟨(c, sp), hm, a, fs, rfl, ha, q⟩
theorem okY_int {c : Nat} : okY c (.int i) h := trivial
theorem okY_tup {c : Nat} : okY c (.tup ds) h := trivial
theorem okY_ref {c : Nat} {fs : List D} (ha : h a = some (.ins c fs)) : okY c (.ref a) h := by
  show match h a with
    | some (.ins c' _) => c' = c
    | _ => False
  rw [ha]
/-- sorted(d), dict(d) -/
theorem go_sortT {kvs : List (List Key × D)} (ha : h a = some (.dT kvs)) (ks : List (List Int)) (d : Nat) (B : Int) (e1 : kvs.map (·.1) = ks.map (List.map Sum.inl)) (e2 : ks.length < 64) (e3 : 1 ≤ d) (e4 : ∀ k ∈ ks, k.length = d ∧ TS.Bd B k)
    (q : ∀ ys : List (List Int), ys.Perm ks → ys.Pairwise (fun x y => TS.code B x ≤ TS.code B y) → kNew (ys.map fun k => .tup (k.map D.int)) P h) : bSortedA [.ref a] h P := by
  unfold bSortedA
  simp only [ha]
  exact ⟨ks, d, B, e1, e2, e3, e4, fun ys h1 h2 p hp => q ys h1 h2 p hp⟩
theorem go_dictTc {kvs : List (List Key × D)} (ha : h a = some (.dT kvs)) (ks : List (List Int)) (e1 : kvs.map (·.1) = ks.map (List.map Sum.inl)) (e2 : (ks.map ihash).Nodup) (q : ∀ p, h p = none → P (.ref p) (up h p (.dT kvs))) : bDictA [.ref a] h P := by
  unfold bDictA
  simp only [ha]
  exact ⟨ks, e1, e2, q⟩
theorem go_dictKc {kvs : List (Key × D)} (ha : h a = some (.dK kvs)) (q : ∀ p, h p = none → P (.ref p) (up h p (.dK kvs))) : bDictA [.ref a] h P := by
  unfold bDictA bDict1
  simp only [ha]
  exact q
theorem w_sortL (ha : h a = some (.lst xs)) : bSortedA [.ref a] h P = bSorted [.ref a] h P := by
  unfold bSortedA
  simp only [ha]
theorem go_isiO {kt : Kit} {c : Nat} {fs : List D} {b : Bool} (he : h a = some (.ins c fs)) (e : kt (.own c) = some b) (q : P (.bl b) h) : kIsi kt P (.ref a) h := by
  unfold kIsi
  refine ⟨_, _, ?_, e, q⟩
  simp only [tagOf, he]
end
section
variable {α : Type} {d : α → D} {p : α → PyData} {n : Nat} {h : DH} {P : KD} {xs ys : List α}
theorem Da.pyT (A : Da d p n) (hn : n < 19) {m : Nat} (hm : n < m) : toPy h m (.tup (xs.map d)) = some (.tuple (xs.map p)) := by
  cases m with
  | zero => omega
  | succ m => simp [toPy, A.pys (show n ≤ m by omega)]
theorem Da.eqTT [DecidableEq α] (A : Da d p n) (hn : n < 19) : doEq (.tup (xs.map d)) (.tup (ys.map d)) h P = P (.bl (decide (xs = ys))) h :=
  doEq_of (A.pyT hn (by omega)) (A.pyT hn (by omega)) (bool_dec (by rw [PyData.eqv]; exact A.eqs _ _)) (fun _ _ z => by cases z.1) (fun _ _ z => by cases z.1)
theorem Da.neTT [DecidableEq α] (A : Da d p n) (hn : n < 19) : doNe (.tup (xs.map d)) (.tup (ys.map d)) h P = P (.bl (!decide (xs = ys))) h :=
  doNe_of (A.pyT hn (by omega)) (A.pyT hn (by omega)) (bool_dec (by rw [PyData.eqv]; exact A.eqs _ _)) (fun _ _ z => by cases z.1) (fun _ _ z => by cases z.1)
end
end DW

/-! DW, part 22: words for the plain part, as rules that look for what is known. -/
namespace DW
open PySem L2
theorem lk_get : ∀ (e : DSt) (i : Nat), lk e i = (e[i]?).join
  | [], _ => rfl
  | x :: _, 0 => rfl
  | _ :: e, i + 1 => by
    show lk e i = _
    rw [lk_get e i, List.getElem?_cons_succ]
section
variable {h h' h2 : DH} {P : KD} {R : KX} {a b p : Addr} {ds xs ys : List D} {o : MO} {i : Int} {kt : Kit} {PP : List D → (DH → Prop) → DH → Prop} {lo hi : Option Int} {x : D}
theorem up_neq {u : MO} (n : a ≠ p) (e : h a = some u) : up h p o a = some u := by rw [up_ne n]; exact e
theorem up_neq' {u : MO} (n : p ≠ a) (e : h a = some u) : up h p o a = some u := by rw [up_ne (Ne.symm n)]; exact e
theorem sub_at (S : Sub h h') (e : h a = some o) : h' a = some o := S a o e
theorem go_ixL (ha : h a = some (.lst ds)) (q : ∃ d, L2.atI ds i = some d ∧ P d h) : doIx (.ref a) (.int i) h P := by rw [w_ixL ha]; exact q
theorem go_lenL (ha : h a = some (.lst ds)) (q : P (.int (ds.length : Nat)) h) : bLen [.ref a] h P := by rw [w_lenL ha]; exact q
theorem go_lenOL {tb : List (Nat × DSp)} (ha : h a = some (.lst ds)) (q : P (.int (ds.length : Nat)) h) : bLenO tb [.ref a] h P := by rw [w_lenOL ha, w_lenL ha]; exact q
theorem go_itL (ha : h a = some (.lst ds)) (q : PP ds (fun h' => h' a = some (.lst ds)) h) : itD (.ref a) h PP := by rw [w_itL ha]; exact q
theorem go_isiL (ha : h a = some (.lst ds)) (q : ∃ b, kt (.ty "list") = some b ∧ P (.bl b) h) : kIsi kt P (.ref a) h := by rw [w_isiL ha]; exact q
theorem go_isiO2 {c : Nat} {fs : List D} (ha : h a = some (.ins c fs)) (q : ∃ b, kt (.own c) = some b ∧ P (.bl b) h) : kIsi kt P (.ref a) h := by
  obtain ⟨b, e, q⟩ := q
  exact go_isiO ha e q
theorem go_tupL (ha : h a = some (.lst ds)) (q : P (.tup ds) h) : bTuple [.ref a] h P := by rw [w_tupL ha]; exact q
theorem go_listL (ha : h a = some (.lst ds)) (q : kNew ds P h) : bList1 [.ref a] h P := by rw [w_listL ha]; exact q
theorem go_slL (ha : h a = some (.lst ds)) (q : kNew (cutD ds lo hi) P h) : slD (.ref a) lo hi h P := by rw [w_slL ha]; exact q
theorem go_revL (ha : h a = some (.lst ds)) (q : kNew ds.reverse P h) : kRev P (.ref a) h := by rw [w_revL ha]; exact q
theorem go_catL (ha : h a = some (.lst xs)) (hb : h b = some (.lst ys)) (l : xs.length + ys.length ≤ sizeLine) (q : kNew (xs ++ ys) P h) : doAdd (.ref a) (.ref b) h P := by rw [w_catL ha hb]; exact ⟨l, q⟩
theorem go_iRevL (ha : h a = some (.lst xs)) (q : PP xs.reverse (fun h' => h' a = some (.lst xs)) h) : kIRev PP (.ref a) h := by rw [w_iRevL ha]; exact q
theorem go_iEnumL (ha : h a = some (.lst xs)) (q : PP (enumD xs) (fun h' => h' a = some (.lst xs)) h) : kIEnum PP (.ref a) h := by rw [w_iEnumL ha]; exact q
theorem go_truL {Q : Bool → DH → Prop} (ha : h a = some (.lst xs)) (q : Q (!xs.isEmpty) h) : kTru Q (.ref a) h := by
  unfold kTru tRu
  simp only [ha]
  exact q
theorem go_appL (ha : h a = some (.lst ds)) (l : ds.length < sizeLine) (q : P .non (up h a (.lst (ds ++ [x])))) : mAppend (.ref a) [x] h P := by rw [w_appL ha]; exact ⟨l, q⟩
theorem go_tyL (ha : h a = some (.lst ds)) : tyD "list" h (.ref a) := by rw [w_tyL ha]; trivial
theorem go_at {d : D} {Q : D → Prop} (e : L2.atI ds i = some d) (q : Q d) : ∃ d, L2.atI ds i = some d ∧ Q d := ⟨d, e, q⟩
end
theorem at10 {α : Type} {a0 a1 a2 a3 a4 a5 a6 a7 a8 a9 a10 : α} {l : List α} : L2.atI (a0 :: a1 :: a2 :: a3 :: a4 :: a5 :: a6 :: a7 :: a8 :: a9 :: a10 :: l) 10 = some a10 := atI_of (j := 10) rfl rfl
theorem at11 {α : Type} {a0 a1 a2 a3 a4 a5 a6 a7 a8 a9 a10 a11 : α} {l : List α} : L2.atI (a0 :: a1 :: a2 :: a3 :: a4 :: a5 :: a6 :: a7 :: a8 :: a9 :: a10 :: a11 :: l) 11 = some a11 := atI_of (j := 11) rfl rfl
theorem at12 {α : Type} {a0 a1 a2 a3 a4 a5 a6 a7 a8 a9 a10 a11 a12 : α} {l : List α} : L2.atI (a0 :: a1 :: a2 :: a3 :: a4 :: a5 :: a6 :: a7 :: a8 :: a9 :: a10 :: a11 :: a12 :: l) 12 = some a12 := atI_of (j := 12) rfl rfl
theorem at13 {α : Type} {a0 a1 a2 a3 a4 a5 a6 a7 a8 a9 a10 a11 a12 a13 : α} {l : List α} : L2.atI (a0 :: a1 :: a2 :: a3 :: a4 :: a5 :: a6 :: a7 :: a8 :: a9 :: a10 :: a11 :: a12 :: a13 :: l) 13 = some a13 := atI_of (j := 13) rfl rfl
theorem at14 {α : Type} {a0 a1 a2 a3 a4 a5 a6 a7 a8 a9 a10 a11 a12 a13 a14 : α} {l : List α} : L2.atI (a0 :: a1 :: a2 :: a3 :: a4 :: a5 :: a6 :: a7 :: a8 :: a9 :: a10 :: a11 :: a12 :: a13 :: a14 :: l) 14 = some a14 := atI_of (j := 14) rfl rfl
theorem at15 {α : Type} {a0 a1 a2 a3 a4 a5 a6 a7 a8 a9 a10 a11 a12 a13 a14 a15 : α} {l : List α} : L2.atI (a0 :: a1 :: a2 :: a3 :: a4 :: a5 :: a6 :: a7 :: a8 :: a9 :: a10 :: a11 :: a12 :: a13 :: a14 :: a15 :: l) 15 = some a15 := atI_of (j := 15) rfl rfl
theorem at16 {α : Type} {a0 a1 a2 a3 a4 a5 a6 a7 a8 a9 a10 a11 a12 a13 a14 a15 a16 : α} {l : List α} : L2.atI (a0 :: a1 :: a2 :: a3 :: a4 :: a5 :: a6 :: a7 :: a8 :: a9 :: a10 :: a11 :: a12 :: a13 :: a14 :: a15 :: a16 :: l) 16 = some a16 := atI_of (j := 16) rfl rfl
theorem at17 {α : Type} {a0 a1 a2 a3 a4 a5 a6 a7 a8 a9 a10 a11 a12 a13 a14 a15 a16 a17 : α} {l : List α} : L2.atI (a0 :: a1 :: a2 :: a3 :: a4 :: a5 :: a6 :: a7 :: a8 :: a9 :: a10 :: a11 :: a12 :: a13 :: a14 :: a15 :: a16 :: a17 :: l) 17 = some a17 := atI_of (j := 17) rfl rfl
theorem at18 {α : Type} {a0 a1 a2 a3 a4 a5 a6 a7 a8 a9 a10 a11 a12 a13 a14 a15 a16 a17 a18 : α} {l : List α} : L2.atI (a0 :: a1 :: a2 :: a3 :: a4 :: a5 :: a6 :: a7 :: a8 :: a9 :: a10 :: a11 :: a12 :: a13 :: a14 :: a15 :: a16 :: a17 :: a18 :: l) 18 = some a18 := atI_of (j := 18) rfl rfl
theorem at19 {α : Type} {a0 a1 a2 a3 a4 a5 a6 a7 a8 a9 a10 a11 a12 a13 a14 a15 a16 a17 a18 a19 : α} {l : List α} : L2.atI (a0 :: a1 :: a2 :: a3 :: a4 :: a5 :: a6 :: a7 :: a8 :: a9 :: a10 :: a11 :: a12 :: a13 :: a14 :: a15 :: a16 :: a17 :: a18 :: a19 :: l) 19 = some a19 := atI_of (j := 19) rfl rfl
theorem at20 {α : Type} {a0 a1 a2 a3 a4 a5 a6 a7 a8 a9 a10 a11 a12 a13 a14 a15 a16 a17 a18 a19 a20 : α} {l : List α} : L2.atI (a0 :: a1 :: a2 :: a3 :: a4 :: a5 :: a6 :: a7 :: a8 :: a9 :: a10 :: a11 :: a12 :: a13 :: a14 :: a15 :: a16 :: a17 :: a18 :: a19 :: a20 :: l) 20 = some a20 := atI_of (j := 20) rfl rfl
theorem at21 {α : Type} {a0 a1 a2 a3 a4 a5 a6 a7 a8 a9 a10 a11 a12 a13 a14 a15 a16 a17 a18 a19 a20 a21 : α} {l : List α} : L2.atI (a0 :: a1 :: a2 :: a3 :: a4 :: a5 :: a6 :: a7 :: a8 :: a9 :: a10 :: a11 :: a12 :: a13 :: a14 :: a15 :: a16 :: a17 :: a18 :: a19 :: a20 :: a21 :: l) 21 = some a21 := atI_of (j := 21) rfl rfl
theorem at22 {α : Type} {a0 a1 a2 a3 a4 a5 a6 a7 a8 a9 a10 a11 a12 a13 a14 a15 a16 a17 a18 a19 a20 a21 a22 : α} {l : List α} : L2.atI (a0 :: a1 :: a2 :: a3 :: a4 :: a5 :: a6 :: a7 :: a8 :: a9 :: a10 :: a11 :: a12 :: a13 :: a14 :: a15 :: a16 :: a17 :: a18 :: a19 :: a20 :: a21 :: a22 :: l) 22 = some a22 := atI_of (j := 22) rfl rfl
theorem at23 {α : Type} {a0 a1 a2 a3 a4 a5 a6 a7 a8 a9 a10 a11 a12 a13 a14 a15 a16 a17 a18 a19 a20 a21 a22 a23 : α} {l : List α} : L2.atI (a0 :: a1 :: a2 :: a3 :: a4 :: a5 :: a6 :: a7 :: a8 :: a9 :: a10 :: a11 :: a12 :: a13 :: a14 :: a15 :: a16 :: a17 :: a18 :: a19 :: a20 :: a21 :: a22 :: a23 :: l) 23 = some a23 := atI_of (j := 23) rfl rfl
theorem at24 {α : Type} {a0 a1 a2 a3 a4 a5 a6 a7 a8 a9 a10 a11 a12 a13 a14 a15 a16 a17 a18 a19 a20 a21 a22 a23 a24 : α} {l : List α} : L2.atI (a0 :: a1 :: a2 :: a3 :: a4 :: a5 :: a6 :: a7 :: a8 :: a9 :: a10 :: a11 :: a12 :: a13 :: a14 :: a15 :: a16 :: a17 :: a18 :: a19 :: a20 :: a21 :: a22 :: a23 :: a24 :: l) 24 = some a24 := atI_of (j := 24) rfl rfl
section
variable {h : DH} {P : KD} {p : Addr} {y d d0 : D} {kvt : List (List Key × D)} {k : List Key}
theorem go_ixDT (he : h p = some (.dT kvt)) (hk : y.tkey? = some k) (hv : valD kvt k = some d) (q : P d h) : doIx (.ref p) y h P := by
  have e1 : isDict h p = true := by unfold isDict; simp only [he]
  unfold doIx
  simp only [e1, if_true]
  unfold dGet
  simp only [he]
  exact ⟨k, hk, d, hv, q⟩
theorem go_inDT (he : h p = some (.dT kvt)) (hk : y.tkey? = some k) (q : P (.bl (valD kvt k).isSome) h) : doIn y (.ref p) h P := by
  have e1 : isDict h p = true := by unfold isDict; simp only [he]
  unfold doIn doInB
  simp only [e1, if_true]
  unfold dGet
  simp only [he]
  exact ⟨k, hk, q⟩
theorem go_ninDT (he : h p = some (.dT kvt)) (hk : y.tkey? = some k) (q : P (.bl (!(valD kvt k).isSome)) h) : doNotIn y (.ref p) h P := by
  have e1 : isDict h p = true := by unfold isDict; simp only [he]
  unfold doNotIn doInB
  simp only [e1, if_true]
  unfold dGet
  simp only [he]
  exact ⟨k, hk, q⟩
theorem go_getT1 (he : h p = some (.dT kvt)) (hk : y.tkey? = some k) (q : P ((valD kvt k).getD .non) h) : mGet (.ref p) [y] h P := by
  unfold mGet
  simp only
  unfold dGet
  simp only [he]
  exact ⟨k, hk, q⟩
theorem w_tyDT (he : h p = some (.dT kvt)) : tyD "dict" h (.ref p) = True := by
  unfold tyD
  simp only [he]
theorem go_tyDT (he : h p = some (.dT kvt)) : tyD "dict" h (.ref p) := by rw [w_tyDT he]; trivial
theorem go_lenDT (he : h p = some (.dT kvt)) (q : P (.int (kvt.length : Nat)) h) : bLen [.ref p] h P := by
  have e : lenD h (.ref p) = some kvt.length := by unfold lenD; simp only [he]
  exact ⟨_, e, q⟩
/-- what stands is laid anew -/
theorem up_id {a : Addr} {o : MO} (e : h a = some o) : up h a o = h := by
  funext b
  unfold up
  split
  · rename_i z; rw [z, e]
  · rfl
/-- another kind of thing stands elsewhere -/
theorem up_ins {a : Addr} {c : Nat} {fs : List D} {o : MO} (e : h a = some (.ins c fs)) (he : h p = some (.dT kvt)) : up h p o a = some (.ins c fs) := by
  rw [up_ne fun z => ?_]
  · exact e
  · rw [z, he] at e; cases e
theorem up_lst {a : Addr} {ds : List D} {o : MO} (e : h a = some (.lst ds)) (he : h p = some (.dT kvt)) : up h p o a = some (.lst ds) := by
  rw [up_ne fun z => ?_]
  · exact e
  · rw [z, he] at e; cases e
end
end DW

/-! DW, part 23: words for the plain part: {a: b}, two loops in a comprehension, +=. -/
namespace DW
open PySem L2
def kDict1 (b : DE) (e : DSt) (p : Addr) (P : KD) (R : KX) : KD := fun x h1 => b e h1 (fun y h2 => h2 p = some (.dK []) ∧ ∃ k, x.key? = some k ∧ P (.ref p) (up h2 p (.dK [(k, y)]))) R
def kLc2 (g : DG) (tt : DT) (di1 : DI) (g1 : DG) (tt1 : DT) (te : DE) (vs vs1 : List Nat) (e : DSt) (P : KD) : List D → (DH → Prop) → DH → Prop := fun ds still h1 => ∀ L, h1 L = none → lcS2 L still g tt di1 g1 tt1 te (wipeD e vs) vs1 ds [] (up h1 L (.lst [])) P
def kLcI (g1 : DG) (tt1 : DT) (te : DE) (vs1 : List Nat) (L : Addr) (acc : List D) (X : List D → DH → Prop) (e1 : DSt) : List D → (DH → Prop) → DH → Prop := fun ds1 still1 h3 => h3 L = some (.lst acc) ∧ lcI L still1 g1 tt1 te (wipeD e1 vs1) ds1 acc h3 X
def kLc2B (di1 : DI) (g1 : DG) (tt1 : DT) (te : DE) (vs1 : List Nat) (L : Addr) (acc : List D) (X : List D → DH → Prop) (e1 : DSt) : Bool → DH → Prop := fun b h2 => if b = true then di1 e1 h2 (kLcI g1 tt1 te vs1 L acc X e1) (fun _ _ => False) else h2 L = some (.lst acc) ∧ X acc h2
def kAugN (g : Int → Int → Int) (D0 : DEnds) (e : DSt) (i : Nat) (m : Int) : KD := fun y h1 => match y with
  | .int n => D0.nx (e.set i (some (.int (g m n)))) h1
  | _ => False
section
variable {i : DI} {g : DG} {tt : DT} {di1 : DI} {g1 : DG} {tt1 : DT} {te a b : DE} {vs vs1 : List Nat} {e : DSt} {h : DH} {P : KD} {R : KX} {L : Addr} {acc : List D} {X : List D → DH → Prop} {x y d : D} {still : DH → Prop} {ds r : List D} {D0 : DEnds} {n : Nat} {gg : Int → Int → Int} {m k : Int}
theorem w_dict1 : cDict1 a b e h P R = ∀ p, h p = none → a e (up h p (.dK [])) (kDict1 b e p P R) R := propext Iff.rfl
theorem w_lc2 : cLc2 i g tt di1 g1 tt1 te vs vs1 e h P R = i e h (kLc2 g tt di1 g1 tt1 te vs vs1 e P) R := propext Iff.rfl
theorem w_kLc2T : kLc2B di1 g1 tt1 te vs1 L acc X e true h = di1 e h (kLcI g1 tt1 te vs1 L acc X e) (fun _ _ => False) := propext Iff.rfl
theorem w_kLc2F : kLc2B di1 g1 tt1 te vs1 L acc X e false h = (h L = some (.lst acc) ∧ X acc h) := propext Iff.rfl
theorem w_kLcI : kLcI g1 tt1 te vs1 L acc X e ds still h = (h L = some (.lst acc) ∧ lcI L still g1 tt1 te (wipeD e vs1) ds acc h X) := propext Iff.rfl
theorem w_lcI0 : lcI L still g tt te e [] acc h X = (still h ∧ h L = some (.lst acc) ∧ X acc h) := propext Iff.rfl
theorem w_lcI1 : lcI L still g tt te e (d :: r) acc h X = (still h ∧ g d e h fun e1 h1 => tt e1 h1 (kLcB te L acc (fun acc' h' => lcI L still g tt te e r acc' h' X) e1) (fun _ _ => False)) := propext Iff.rfl
theorem lcS2_eq : lcS2 L still g tt di1 g1 tt1 te e vs1 (d :: r) acc h P = (still h ∧ g d e h fun e1 h1 => tt e1 h1 (kLc2B di1 g1 tt1 te vs1 L acc (fun acc' h' => lcS2 L still g tt di1 g1 tt1 te e vs1 r acc' h' P) e1) (fun _ _ => False)) := propext Iff.rfl
theorem w_augN : sAugN gg n a D0 e h = match lk e n with
  | some (.int m) => a e h (kAugN gg D0 e n m) fun x h1 => D0.ex x e h1
  | _ => False := propext Iff.rfl
theorem w_kAugN : kAugN gg D0 e n m (.int k) h = D0.nx (e.set n (some (.int (gg m k)))) h := propext Iff.rfl
theorem flat_len {α β : Type} {out : α → List β} {n : Nat} (ho : ∀ x, (out x).length ≤ n) : ∀ xs : List α, (xs.flatMap out).length ≤ n * xs.length
  | [] => by simp
  | x :: xs => by
    have := flat_len ho xs
    have := ho x
    rw [List.flatMap_cons, List.length_append, List.length_cons, Nat.mul_add]
    omega
theorem lc2_ind {α : Type} {f : α → D} {xs : List α} (N : Nat) (out : α → List D) (st : ∀ acc, still (up h L (.lst acc)))
    (step : ∀ acc x (X : List D → DH → Prop), x ∈ xs → acc.length + (out x).length ≤ N → X (acc ++ out x) (up h L (.lst (acc ++ out x))) → g (f x) e (up h L (.lst acc)) fun e1 h1 => tt e1 h1 (kLc2B di1 g1 tt1 te vs1 L acc X e1) (fun _ _ => False)) :
    ∀ (rest : List α) acc, (∀ x ∈ rest, x ∈ xs) → acc.length + (rest.flatMap out).length ≤ N → P (.ref L) (up h L (.lst (acc ++ rest.flatMap out))) → lcS2 L still g tt di1 g1 tt1 te e vs1 (rest.map f) acc (up h L (.lst acc)) P
  | [], acc, _, _, p => ⟨st acc, by simpa using p⟩
  | x :: rest, acc, hr, hn, p => by
    rw [List.map_cons, lcS2_eq]
    rw [List.flatMap_cons, List.length_append] at hn
    refine ⟨st acc, step acc x _ (hr x (List.mem_cons_self ..)) (by omega) ?_⟩
    exact lc2_ind N out st step rest (acc ++ out x) (fun y hy => hr y (List.mem_cons_of_mem _ hy)) (by rw [List.length_append]; omega) (by rw [List.append_assoc]; simpa using p)
/-- a comprehension with two loops whose parts leave the heap as it is -/
theorem go_lc2 {α : Type} {f : α → D} {xs : List α} (N : Nat) (out : α → List D) (hN : (xs.flatMap out).length ≤ N) (st : ∀ L acc, h L = none → still (up h L (.lst acc)))
    (step : ∀ L acc x (X : List D → DH → Prop), h L = none → x ∈ xs → acc.length + (out x).length ≤ N → X (acc ++ out x) (up h L (.lst (acc ++ out x))) → g (f x) (wipeD e vs) (up h L (.lst acc)) fun e1 h1 => tt e1 h1 (kLc2B di1 g1 tt1 te vs1 L acc X e1) (fun _ _ => False))
    (ok : kNew (xs.flatMap out) P h) : kLc2 g tt di1 g1 tt1 te vs vs1 e P (xs.map f) still h := fun L hL =>
  lc2_ind N out (fun acc => st L acc hL) (fun acc x X hx hn k => step L acc x X hL hx hn k) xs [] (fun _ z => z) (by simpa using hN) (by rw [List.nil_append]; exact ok L hL)
end
section
variable {g : DG} {tt : DT} {te : DE} {vs : List Nat} {e : DSt} {h : DH} {P : KD} {α : Type} {f k : α → D} {xs : List α}
/-- a comprehension that filters and maps, of what leaves the heap as it is -/
theorem go_lcG {still : DH → Prop} (q : α → Bool) (hlen : xs.length ≤ sizeLine) (st : ∀ L acc, h L = none → still (up h L (.lst acc)))
    (step : ∀ L acc x (X : List D → DH → Prop), h L = none → x ∈ xs → acc.length < sizeLine → (q x = true → X (acc ++ [k x]) (up h L (.lst (acc ++ [k x])))) → (q x = false → X acc (up h L (.lst acc))) → g (f x) (wipeD e vs) (up h L (.lst acc)) fun e1 h1 => tt e1 h1 (kLcB te L acc X e1) (fun _ _ => False))
    (ok : kNew ((xs.filter q).map k) P h) : kLc g tt te vs e P (xs.map f) still h := by
  refine go_lc (fun L r acc h' => h' = up h L (.lst acc) ∧ ∃ pre rest, xs = pre ++ rest ∧ r = rest.map f ∧ acc = (pre.filter q).map k) (fun L hL => ⟨rfl, [], xs, rfl, rfl, rfl⟩) (fun L d r acc h' X hL j nx => ?_) (fun L acc h' hL j => ?_)
  · obtain ⟨rfl, pre, rest, e1, e2, e3⟩ := j
    cases rest with
    | nil => cases e2
    | cons x rest =>
      obtain ⟨rfl, rfl⟩ := List.cons.inj e2
      refine ⟨st L acc hL, step L acc x X hL (by rw [e1]; simp) ?_ (fun z => ?_) (fun z => ?_)⟩
      · have l1 := List.length_filter_le q pre
        have l2 := congrArg List.length e1
        simp only [List.length_append, List.length_cons] at l2
        rw [e3, List.length_map]
        omega
      · exact nx _ _ ⟨rfl, pre ++ [x], rest, by rw [e1]; simp, rfl, by rw [e3]; simp [z]⟩
      · exact nx _ _ ⟨rfl, pre ++ [x], rest, by rw [e1]; simp, rfl, by rw [e3]; simp [z]⟩
  · obtain ⟨rfl, pre, rest, e1, e2, e3⟩ := j
    cases rest with
    | cons x rest => cases e2
    | nil =>
      refine ⟨st L acc hL, ?_⟩
      rw [List.append_nil] at e1
      rw [e3, ← e1]
      exact ok L hL
end
end DW

namespace Lk87
open PySem PySem.Spec PyProof.Rows L2 DW
/-! ### the module, its defs: readings, promises (printed by gen.py) -/
def top (i : Nat) : Stmt := PySem.Challenge.pw_droveway_k87_peeling.main.body.getD i (.Pass ⟨0, 0, 0, 0⟩)
def kt_list : List (Tag × Bool) := [(.ty "NoneType", false), (.ty "bool", false), (.ty "int", false), (.ty "str", false), (.ty "tuple", false), (.ty "list", true), (.ty "dict", false)]
def kt_tuple : List (Tag × Bool) := [(.ty "NoneType", false), (.ty "bool", false), (.ty "int", false), (.ty "str", false), (.ty "tuple", true), (.ty "list", false), (.ty "dict", false)]
def xt_OutOfBounds : List (Nat × Bool) := [(0, false), (1, true)]
def md : Mod where
  cls := ["DrovewayError", "OutOfBounds"]
  fn := [[], []]
  free := ["all", "enumerate", "int", "isinstance", "len", "list", "min", "range", "sorted", "sum", "tuple"]
  mints := [("MOST_ROWS", 60)]
  mstrs := []
  tups := []
  kits := [("list", some "list", kt_list), ("tuple", some "tuple", kt_tuple)]
  exks := [("OutOfBounds", none, xt_OutOfBounds)]
  excs := [("OutOfBounds", 1)]
  lks := []
  flds := []
theorem k_list_NoneType : tabK kt_list (.ty "NoneType") = some false := by decide +kernel
theorem k_list_bool : tabK kt_list (.ty "bool") = some false := by decide +kernel
theorem k_list_int : tabK kt_list (.ty "int") = some false := by decide +kernel
theorem k_list_str : tabK kt_list (.ty "str") = some false := by decide +kernel
theorem k_list_tuple : tabK kt_list (.ty "tuple") = some false := by decide +kernel
theorem k_list_list : tabK kt_list (.ty "list") = some true := by decide +kernel
theorem k_list_dict : tabK kt_list (.ty "dict") = some false := by decide +kernel
theorem k_tuple_NoneType : tabK kt_tuple (.ty "NoneType") = some false := by decide +kernel
theorem k_tuple_bool : tabK kt_tuple (.ty "bool") = some false := by decide +kernel
theorem k_tuple_int : tabK kt_tuple (.ty "int") = some false := by decide +kernel
theorem k_tuple_str : tabK kt_tuple (.ty "str") = some false := by decide +kernel
theorem k_tuple_tuple : tabK kt_tuple (.ty "tuple") = some true := by decide +kernel
theorem k_tuple_list : tabK kt_tuple (.ty "list") = some false := by decide +kernel
theorem k_tuple_dict : tabK kt_tuple (.ty "dict") = some false := by decide +kernel
theorem x_OutOfBounds_0 : tabX xt_OutOfBounds 0 = some false := by decide +kernel
theorem x_OutOfBounds_1 : tabX xt_OutOfBounds 1 = some true := by decide +kernel
def t_check_flow : DS := sIf (cOr (cTst (cBin doGt (cB bLen (cCons (cVar 0) (cNil))) (cD (.int 60)))) (cTst (cBin doEq (cVar 1) (cVar 2)))) (sRaise 1 (cCons (cD (.str "too many ways, or nowhere to go")) (cNil))) (sNext)
def sp_check_flow : DSp := mkFn 3 3 t_check_flow
def t_steps_from : DS := sSeq (sAsg (cLst (cNil)) (gN 3)) (sSeq (sFor (iEnumD (cCons (cVar 0) (cNil))) (gT 2 (gsCons (gN 4) (gsCons (gN 5) (gsNil)))) (sSeq (sIf (cAnd (cTst (cBin doEq (cBin doIx (cVar 5) (cD (.int 1))) (cVar 2))) (cTst (cBin doLt (cBin doIx (cVar 1) (cVar 4)) (cBin doIx (cVar 5) (cD (.int 4)))))) (sDrop (cM "list" mAppend (cVar 3) (cCons (cTup (cCons (cVar 4) (cCons (cD (.int 1)) (cCons (cBin doIx (cVar 5) (cD (.int 2))) (cCons (cBin doSub (cBin doIx (cVar 5) (cD (.int 4))) (cBin doIx (cVar 1) (cVar 4))) (cNil)))))) (cNil)))) (sNext)) (sIf (cAnd (cTst (cBin doEq (cBin doIx (cVar 5) (cD (.int 2))) (cVar 2))) (cTst (cBin doGt (cBin doIx (cVar 1) (cVar 4)) (cD (.int 0))))) (sDrop (cM "list" mAppend (cVar 3) (cCons (cTup (cCons (cVar 4) (cCons (cNeg (cD (.int 1))) (cCons (cBin doIx (cVar 5) (cD (.int 1))) (cCons (cBin doIx (cVar 1) (cVar 4)) (cNil)))))) (cNil)))) (sNext)))) (sRet (cVar 3)))
def sp_steps_from : DSp := mkFn 3 6 t_steps_from
def t_reached : DS := sSeq (sAsg (cDict1 (cVar 2) (cD .non)) (gN 3)) (sSeq (sAsg (cLst (cCons (cVar 2) (cNil))) (gN 4)) (sSeq (sAsg (cD (.int 0)) (gN 5)) (sSeq (sWhile (cTst (cBin doLt (cVar 5) (cB bLen (cCons (cVar 4) (cNil))))) (sSeq (sAsg (cBin doIx (cVar 4) (cVar 5)) (gN 6)) (sSeq (sFor (iSeq (cCall sp_steps_from (cCons (cVar 0) (cCons (cVar 1) (cCons (cVar 6) (cNil)))))) (gN 7) (sIf (cTst (cBin doNotIn (cBin doIx (cVar 7) (cD (.int 2))) (cVar 3))) (sSeq (sSub (cVar 3) (cBin doIx (cVar 7) (cD (.int 2))) (cTup (cCons (cVar 6) (cCons (cVar 7) (cNil))))) (sDrop (cM "list" mAppend (cVar 4) (cCons (cBin doIx (cVar 7) (cD (.int 2))) (cNil))))) (sNext))) (sAsg (cBin doAdd (cVar 5) (cD (.int 1))) (gN 5))))) (sRet (cVar 3)))))
def sp_reached : DSp := mkFn 3 8 t_reached
def t_chain_to : DS := sSeq (sAsg (cLst (cNil)) (gN 2)) (sSeq (sAsg (cVar 1) (gN 3)) (sSeq (sWhile (cTst (cBin doIsNot (cBin doIx (cVar 0) (cVar 3)) (cD .non))) (sSeq (sAsg (cBin doIx (cVar 0) (cVar 3)) (gT 2 (gsCons (gN 4) (gsCons (gN 5) (gsNil))))) (sSeq (sDrop (cM "list" mAppend (cVar 2) (cCons (cVar 5) (cNil)))) (sAsg (cVar 4) (gN 3))))) (sRet (cVar 2))))
def sp_chain_to : DSp := mkFn 2 6 t_chain_to
def t_push : DS := sSeq (sAsg (cB bMin (cCons (cLc (iSeq (cVar 1)) (gN 6) tYesD (cBin doIx (cVar 6) (cD (.int 3))) [6]) (cNil))) (gN 2)) (sSeq (sFor (iSeq (cVar 1)) (gT 4 (gsCons (gN 3) (gsCons (gN 4) (gsCons (gN 5) (gsCons (gN 5) (gsNil)))))) (sSub (cVar 0) (cVar 3) (cBin doAdd (cBin doIx (cVar 0) (cVar 3)) (cBin doMul (cVar 4) (cVar 2))))) (sRet (cVar 2)))
def sp_push : DSp := mkFn 2 7 t_push
def t_greatest_flow : DS := sSeq (sDrop (cCall sp_check_flow (cCons (cVar 0) (cCons (cVar 1) (cCons (cVar 2) (cNil)))))) (sSeq (sAsg (cLc (iSeq (cVar 0)) (gN 6) tYesD (cD (.int 0)) [6]) (gN 3)) (sSeq (sAsg (cD (.int 0)) (gN 4)) (sSeq (sAsg (cCall sp_reached (cCons (cVar 0) (cCons (cVar 3) (cCons (cVar 1) (cNil))))) (gN 5)) (sSeq (sWhile (cTst (cBin doIn (cVar 2) (cVar 5))) (sSeq (sAsg (cBin doAdd (cVar 4) (cCall sp_push (cCons (cVar 3) (cCons (cCall sp_chain_to (cCons (cVar 5) (cCons (cVar 2) (cNil)))) (cNil))))) (gN 4)) (sAsg (cCall sp_reached (cCons (cVar 0) (cCons (cVar 3) (cCons (cVar 1) (cNil))))) (gN 5)))) (sRet (cTup (cCons (cVar 4) (cCons (cVar 3) (cCons (cB bSortedA (cCons (cVar 5) (cNil))) (cNil))))))))))
def sp_greatest_flow : DSp := mkFn 3 7 t_greatest_flow
def t_surplus : DS := sSeq (sAsg (cB bSum (cCons (cLc (iEnumD (cCons (cVar 0) (cNil))) (gT 2 (gsCons (gN 4) (gsCons (gN 5) (gsNil)))) (cTst (cBin doEq (cBin doIx (cVar 5) (cD (.int 1))) (cVar 2))) (cBin doIx (cVar 1) (cVar 4)) [4, 5]) (cNil))) (gN 3)) (sRet (cBin doSub (cVar 3) (cB bSum (cCons (cLc (iEnumD (cCons (cVar 0) (cNil))) (gT 2 (gsCons (gN 4) (gsCons (gN 5) (gsNil)))) (cTst (cBin doEq (cBin doIx (cVar 5) (cD (.int 2))) (cVar 2))) (cBin doIx (cVar 1) (cVar 4)) [4, 5]) (cNil)))))
def sp_surplus : DSp := mkFn 3 6 t_surplus
def t_is_flow : DS := sSeq (sIf (cTst (cBin doNe (cB bLen (cCons (cVar 1) (cNil))) (cB bLen (cCons (cVar 0) (cNil))))) (sRet (cD (.bl false))) (sNext)) (sSeq (sFor (iEnumD (cCons (cVar 0) (cNil))) (gT 2 (gsCons (gN 4) (gsCons (gN 5) (gsNil)))) (sIf (cNot (cTst (cChain doLe doLe (cD (.int 0)) (cBin doIx (cVar 1) (cVar 4)) (cBin doIx (cVar 5) (cD (.int 4)))))) (sRet (cD (.bl false))) (sNext))) (sSeq (sAsg (cLc2 (iSeq (cVar 0)) (gN 5) tYesD (iSeq (cTup (cCons (cBin doIx (cVar 5) (cD (.int 1))) (cCons (cBin doIx (cVar 5) (cD (.int 2))) (cNil))))) (gN 7) (cTst (cBin doNotIn (cVar 7) (cTup (cCons (cVar 2) (cCons (cVar 3) (cNil)))))) (cVar 7) [5, 7] [7]) (gN 6)) (sRet (cB bAll (cCons (cLc (iSeq (cVar 6)) (gN 7) tYesD (cBin doEq (cCall sp_surplus (cCons (cVar 0) (cCons (cVar 1) (cCons (cVar 7) (cNil))))) (cD (.int 0))) [7]) (cNil))))))
def sp_is_flow : DSp := mkFn 4 8 t_is_flow
def t_way_on : DS := sSeq (sFor (iEnumD (cCons (cVar 0) (cNil))) (gT 2 (gsCons (gN 3) (gsCons (gN 4) (gsNil)))) (sIf (cAnd (cTst (cBin doEq (cBin doIx (cVar 4) (cD (.int 1))) (cVar 2))) (cTst (cBin doGt (cBin doIx (cVar 1) (cVar 3)) (cD (.int 0))))) (sRet (cVar 3)) (sNext))) (sRet (cD .non))
def sp_way_on : DSp := mkFn 3 5 t_way_on
def t_walk : DS := sSeq (sAsg (cLst (cNil)) (gN 4)) (sSeq (sAsg (cLst (cCons (cVar 2) (cNil))) (gN 5)) (sSeq (sAsg (cVar 2) (gN 6)) (sSeq (sWhile (cTst (cBin doNe (cVar 6) (cVar 3))) (sSeq (sAsg (cCall sp_way_on (cCons (cVar 0) (cCons (cVar 1) (cCons (cVar 6) (cNil))))) (gN 7)) (sSeq (sIf (cTst (cBin doIs (cVar 7) (cD .non))) (sRet (cTup (cCons (cVar 4) (cCons (cD .non) (cNil))))) (sNext)) (sSeq (sDrop (cM "list" mAppend (cVar 4) (cCons (cVar 7) (cNil)))) (sSeq (sAsg (cBin doIx (cBin doIx (cVar 0) (cVar 7)) (cD (.int 2))) (gN 6)) (sSeq (sIf (cAnd (cTst (cBin doIn (cVar 6) (cVar 5))) (cTst (cBin doNe (cVar 6) (cVar 3)))) (sRet (cTup (cCons (cVar 4) (cCons (cM "list" mIndexI (cVar 5) (cCons (cVar 6) (cNil))) (cNil))))) (sNext)) (sDrop (cM "list" mAppend (cVar 5) (cCons (cVar 6) (cNil)))))))))) (sRet (cTup (cCons (cVar 4) (cCons (cD .non) (cNil))))))))
def sp_walk : DSp := mkFn 4 8 t_walk
def t_lift : DS := sSeq (sAsg (cB bMin (cCons (cLc (iSeq (cVar 1)) (gN 3) tYesD (cBin doIx (cVar 0) (cVar 3)) [3]) (cNil))) (gN 2)) (sSeq (sFor (iSeq (cVar 1)) (gN 3) (sSub (cVar 0) (cVar 3) (cBin doSub (cBin doIx (cVar 0) (cVar 3)) (cVar 2)))) (sRet (cVar 2)))
def sp_lift : DSp := mkFn 2 4 t_lift
def t_peel : DS := sSeq (sDrop (cCall sp_check_flow (cCons (cVar 0) (cCons (cVar 2) (cCons (cVar 3) (cNil)))))) (sSeq (sIf (cNot (cTru (cCall sp_is_flow (cCons (cVar 0) (cCons (cVar 1) (cCons (cVar 2) (cCons (cVar 3) (cNil)))))))) (sRaise 1 (cCons (cD (.str "no flow")) (cNil))) (sNext)) (sSeq (sAsg (cB bList1 (cCons (cVar 1) (cNil))) (gN 4)) (sSeq (sAsg (cLst (cNil)) (gN 5)) (sSeq (sWhile (cTst (cBin doIsNot (cCall sp_way_on (cCons (cVar 0) (cCons (cVar 4) (cCons (cVar 2) (cNil))))) (cD .non))) (sSeq (sAsg (cCall sp_walk (cCons (cVar 0) (cCons (cVar 4) (cCons (cVar 2) (cCons (cVar 3) (cNil)))))) (gT 2 (gsCons (gN 6) (gsCons (gN 7) (gsNil))))) (sIf (cTst (cBin doIsNot (cVar 7) (cD .non))) (sDrop (cCall sp_lift (cCons (cVar 4) (cCons (cSl (cVar 6) (cPart (cVar 7)) cNoPart) (cNil))))) (sDrop (cM "list" mAppend (cVar 5) (cCons (cTup (cCons (cB bTuple (cCons (cVar 6) (cNil))) (cCons (cCall sp_lift (cCons (cVar 4) (cCons (cVar 6) (cNil)))) (cNil)))) (cNil))))))) (sRet (cVar 5))))))
def sp_peel : DSp := mkFn 4 8 t_peel
def t_law_rows : DS := sSeq (sAsg (cLst (cNil)) (gN 2)) (sSeq (sFor (iRng1D (cCons (cVar 1) (cNil))) (gN 3) (sSeq (sAsg (cD (.int 0)) (gN 4)) (sSeq (sIf (cTst (cBin doGt (cB bLen (cCons (cVar 0) (cNil))) (cD (.int 0)))) (sAsg (cB bInt (cCons (cBin doIx (cVar 0) (cBin doMod (cB bInt (cCons (cVar 3) (cNil))) (cB bLen (cCons (cVar 0) (cNil))))) (cNil))) (gN 4)) (sNext)) (sSeq (sIf (cTst (cBin doLt (cVar 4) (cD (.int 0)))) (sAsg (cBin doSub (cBin doSub (cD (.int 0)) (cBin doMul (cD (.int 2)) (cVar 4))) (cD (.int 1))) (gN 4)) (sNext)) (sSeq (sIf (cOr (cTst (cBin doGe (cVar 3) (cB bLen (cCons (cVar 0) (cNil))))) (cTst (cBin doLt (cVar 4) (cD (.int 1000000000))))) (sSeq (sAsg (cBin doMod (cB bInt (cCons (cBin doAdd (cBin doAdd (cBin doMul (cBin doAdd (cBin doAdd (cVar 4) (cBin doMul (cD (.int 137)) (cVar 3))) (cD (.int 5))) (cD (.int 48271))) (cBin doMul (cBin doMul (cVar 3) (cVar 3)) (cD (.int 69621)))) (cD (.int 3))) (cNil))) (cD (.int 2147483647))) (gN 4)) (sAsg (cBin doMod (cB bInt (cCons (cBin doAdd (cBin doMul (cBin doAdd (cBin doAdd (cVar 4) (cBin doMul (cD (.int 19)) (cVar 3))) (cD (.int 1))) (cD (.int 3202034522624059733))) (cD (.int 7))) (cNil))) (cD (.int 18446744073709551557))) (gN 4))) (sNext)) (sDrop (cM "list" mAppend (cVar 2) (cCons (cVar 4) (cNil))))))))) (sRet (cVar 2)))
def sp_law_rows : DSp := mkFn 2 5 t_law_rows
def t_law_pairs : DS := sSeq (sAsg (cLst (cNil)) (gN 3)) (sSeq (sFor (iRng1D (cCons (cVar 1) (cNil))) (gN 4) (sSeq (sAsg (cB bInt (cCons (cBin doIx (cVar 0) (cVar 4)) (cNil))) (gN 5)) (sDrop (cM "list" mAppend (cVar 3) (cCons (cTup (cCons (cBin doAdd (cD (.int 1)) (cBin doMod (cVar 5) (cVar 2))) (cCons (cBin doAdd (cD (.int 1)) (cBin doMod (cB bInt (cCons (cBin doDiv (cVar 5) (cVar 2)) (cNil))) (cVar 2))) (cNil)))) (cNil)))))) (sRet (cVar 3)))
def sp_law_pairs : DSp := mkFn 3 6 t_law_pairs
def t_law_path : DS := sSeq (sAsg (cLst (cNil)) (gN 4)) (sSeq (sAsg (cVar 1) (gN 5)) (sSeq (sFor (iRng1D (cCons (cD (.int 8)) (cNil))) (gN 6) (sSeq (sAsg (cLc (iRng1D (cCons (cB bLen (cCons (cVar 0) (cNil))) (cNil))) (gN 9) (cTst (cBin doEq (cBin doIx (cBin doIx (cVar 0) (cVar 9)) (cD (.int 0))) (cVar 5))) (cVar 9) [9]) (gN 7)) (sSeq (sIf (cTst (cBin doEq (cB bLen (cCons (cVar 7) (cNil))) (cD (.int 0)))) (sRet (cLst (cNil))) (sNext)) (sSeq (sAsg (cBin doIx (cVar 7) (cBin doMod (cB bInt (cCons (cBin doDiv (cVar 3) (cBin doAdd (cBin doMul (cD (.int 7)) (cVar 6)) (cD (.int 1)))) (cNil))) (cB bLen (cCons (cVar 7) (cNil))))) (gN 8)) (sSeq (sDrop (cM "list" mAppend (cVar 4) (cCons (cVar 8) (cNil)))) (sSeq (sAsg (cBin doIx (cBin doIx (cVar 0) (cVar 8)) (cD (.int 1))) (gN 5)) (sIf (cTst (cBin doEq (cVar 5) (cVar 2))) (sRet (cVar 4)) (sNext)))))))) (sRet (cLst (cNil)))))
def sp_law_path : DSp := mkFn 4 10 t_law_path
def t_law_flows : DS := sSeq (sAsg (cBin doMul (cLst (cCons (cD (.int 0)) (cNil))) (cB bLen (cCons (cVar 0) (cNil)))) (gN 4)) (sSeq (sFor (iSeq (cVar 3)) (gN 5) (sSeq (sAsg (cBin doAdd (cD (.int 1)) (cBin doMod (cB bInt (cCons (cVar 5) (cNil))) (cD (.int 5)))) (gN 6)) (sSeq (sAsg (cVar 1) (gN 7)) (sSeq (sAsg (cVar 2) (gN 8)) (sSeq (sIf (cTst (cBin doEq (cBin doMod (cB bInt (cCons (cBin doDiv (cVar 5) (cD (.int 5))) (cNil))) (cD (.int 4))) (cD (.int 0)))) (sSeq (sAsg (cBin doAdd (cD (.int 1)) (cBin doMod (cB bInt (cCons (cBin doDiv (cVar 5) (cD (.int 20))) (cNil))) (cD (.int 5)))) (gN 7)) (sAsg (cVar 7) (gN 8))) (sNext)) (sFor (iSeq (cCall sp_law_path (cCons (cVar 0) (cCons (cVar 7) (cCons (cVar 8) (cCons (cB bInt (cCons (cBin doDiv (cVar 5) (cD (.int 100))) (cNil))) (cNil))))))) (gN 9) (sSub (cVar 4) (cVar 9) (cBin doAdd (cBin doIx (cVar 4) (cVar 9)) (cVar 6))))))))) (sRet (cVar 4)))
def sp_law_flows : DSp := mkFn 4 10 t_law_flows
def t_law_first : DS := sSeq (sFor (iRng1D (cCons (cB bLen (cCons (cVar 0) (cNil))) (cNil))) (gN 3) (sIf (cAnd (cTst (cBin doEq (cBin doIx (cBin doIx (cVar 0) (cVar 3)) (cD (.int 0))) (cVar 2))) (cTst (cBin doGt (cBin doIx (cVar 1) (cVar 3)) (cD (.int 0))))) (sRet (cVar 3)) (sNext))) (sRet (cD .non))
def sp_law_first : DSp := mkFn 3 4 t_law_first
def t_law_walk : DS := sSeq (sAsg (cLst (cNil)) (gN 4)) (sSeq (sAsg (cLst (cCons (cVar 2) (cNil))) (gN 5)) (sSeq (sFor (iRng1D (cCons (cBin doAdd (cB bLen (cCons (cVar 0) (cNil))) (cD (.int 2))) (cNil))) (gN 6) (sSeq (sAsg (cCall sp_law_first (cCons (cVar 0) (cCons (cVar 1) (cCons (cBin doIx (cVar 5) (cBin doSub (cB bLen (cCons (cVar 5) (cNil))) (cD (.int 1)))) (cNil))))) (gN 7)) (sSeq (sDrop (cM "list" mAppend (cVar 4) (cCons (cVar 7) (cNil)))) (sSeq (sAsg (cBin doIx (cBin doIx (cVar 0) (cVar 7)) (cD (.int 1))) (gN 8)) (sSeq (sIf (cTst (cBin doEq (cVar 8) (cVar 3))) (sRet (cTup (cCons (cVar 4) (cCons (cD (.bl true)) (cNil))))) (sNext)) (sSeq (sIf (cTst (cBin doIn (cVar 8) (cVar 5))) (sRet (cTup (cCons (cSl (cVar 4) (cPart (cM "list" mIndexI (cVar 5) (cCons (cVar 8) (cNil)))) cNoPart) (cCons (cD (.bl false)) (cNil))))) (sNext)) (sDrop (cM "list" mAppend (cVar 5) (cCons (cVar 8) (cNil)))))))))) (sRet (cTup (cCons (cLst (cNil)) (cCons (cD (.bl false)) (cNil)))))))
def sp_law_walk : DSp := mkFn 4 9 t_law_walk
def t_law_shares : DS := sSeq (sAsg (cB bList1 (cCons (cVar 1) (cNil))) (gN 4)) (sSeq (sAsg (cLst (cNil)) (gN 5)) (sSeq (sFor (iRng1D (cCons (cD (.int 60)) (cNil))) (gN 6) (sSeq (sIf (cTst (cBin doIs (cCall sp_law_first (cCons (cVar 0) (cCons (cVar 4) (cCons (cVar 2) (cNil))))) (cD .non))) (sRet (cVar 5)) (sNext)) (sSeq (sAsg (cCall sp_law_walk (cCons (cVar 0) (cCons (cVar 4) (cCons (cVar 2) (cCons (cVar 3) (cNil)))))) (gT 2 (gsCons (gN 7) (gsCons (gN 8) (gsNil))))) (sSeq (sAsg (cB bMin (cCons (cLc (iSeq (cVar 7)) (gN 10) tYesD (cBin doIx (cVar 4) (cVar 10)) [10]) (cNil))) (gN 9)) (sSeq (sFor (iSeq (cVar 7)) (gN 10) (sSub (cVar 4) (cVar 10) (cBin doSub (cBin doIx (cVar 4) (cVar 10)) (cVar 9)))) (sIf (cTru (cVar 8)) (sDrop (cM "list" mAppend (cVar 5) (cCons (cTup (cCons (cB bTuple (cCons (cVar 7) (cNil))) (cCons (cVar 9) (cNil)))) (cNil)))) (sNext))))))) (sRet (cVar 5))))
def sp_law_shares : DSp := mkFn 4 11 t_law_shares
def t_law_good : DS := sSeq (sAsg (cBin doMul (cLst (cCons (cD (.int 0)) (cNil))) (cB bLen (cCons (cVar 0) (cNil)))) (gN 5)) (sSeq (sFor (iSeq (cVar 2)) (gT 2 (gsCons (gN 6) (gsCons (gN 7) (gsNil)))) (sSeq (sIf (cOr (cNot (cTru (cIsi (cVar 6) (tabK kt_tuple)))) (cOr (cTst (cBin doLt (cVar 7) (cD (.int 1)))) (cTst (cBin doNe (cBin doIx (cBin doIx (cVar 0) (cBin doIx (cVar 6) (cD (.int 0)))) (cD (.int 0))) (cVar 3))))) (sRet (cD (.bl false))) (sNext)) (sSeq (sAsg (cVar 3) (gN 8)) (sSeq (sAsg (cLst (cNil)) (gN 9)) (sSeq (sFor (iSeq (cVar 6)) (gN 10) (sSeq (sIf (cOr (cTst (cBin doNe (cBin doIx (cBin doIx (cVar 0) (cVar 10)) (cD (.int 0))) (cVar 8))) (cOr (cTst (cBin doIn (cVar 8) (cVar 9))) (cTst (cBin doEq (cVar 8) (cVar 4))))) (sRet (cD (.bl false))) (sNext)) (sSeq (sDrop (cM "list" mAppend (cVar 9) (cCons (cVar 8) (cNil)))) (sSeq (sAsg (cBin doIx (cBin doIx (cVar 0) (cVar 10)) (cD (.int 1))) (gN 8)) (sSub (cVar 5) (cVar 10) (cBin doAdd (cBin doIx (cVar 5) (cVar 10)) (cVar 7))))))) (sIf (cTst (cBin doNe (cVar 8) (cVar 4))) (sRet (cD (.bl false))) (sNext))))))) (sSeq (sFor (iRng1D (cCons (cB bLen (cCons (cVar 0) (cNil))) (cNil))) (gN 11) (sIf (cTst (cBin doGt (cBin doIx (cVar 5) (cVar 11)) (cBin doIx (cVar 1) (cVar 11)))) (sRet (cD (.bl false))) (sNext))) (sRet (cD (.bl true)))))
def sp_law_good : DSp := mkFn 5 12 t_law_good
def t_law_refused : DS := sSeq (sTry (sDrop (cCall sp_peel (cCons (cVar 0) (cCons (cVar 1) (cCons (cVar 2) (cCons (cVar 3) (cNil))))))) [(tabX xt_OutOfBounds, none, fun a x => sRet (cD (.bl true)))]) (sRet (cD (.bl false)))
def sp_law_refused : DSp := mkFn 4 4 t_law_refused
def t_law : DS := sSeq (sAsg (cCall sp_law_rows (cCons (cVar 0) (cCons (cD (.int 22)) (cNil)))) (gN 1)) (sSeq (sAsg (cBin doAdd (cD (.int 2)) (cBin doMod (cB bInt (cCons (cBin doIx (cVar 1) (cD (.int 12))) (cNil))) (cD (.int 4)))) (gN 2)) (sSeq (sAsg (cCall sp_law_pairs (cCons (cVar 1) (cCons (cBin doAdd (cD (.int 1)) (cBin doMod (cB bInt (cCons (cBin doDiv (cBin doIx (cVar 1) (cD (.int 12))) (cD (.int 4))) (cNil))) (cD (.int 12)))) (cCons (cVar 2) (cNil))))) (gN 3)) (sSeq (sAsg (cBin doAdd (cD (.int 1)) (cBin doMod (cB bInt (cCons (cBin doDiv (cBin doIx (cVar 1) (cD (.int 12))) (cD (.int 48))) (cNil))) (cVar 2))) (gN 4)) (sSeq (sAsg (cBin doAdd (cD (.int 1)) (cBin doMod (cBin doAdd (cVar 4) (cBin doMod (cB bInt (cCons (cBin doDiv (cBin doIx (cVar 1) (cD (.int 12))) (cD (.int 240))) (cNil))) (cBin doSub (cVar 2) (cD (.int 1))))) (cVar 2))) (gN 5)) (sSeq (sAsg (cCall sp_law_flows (cCons (cVar 3) (cCons (cVar 4) (cCons (cVar 5) (cCons (cSl (cVar 1) (cPart (cD (.int 13))) (cPart (cBin doAdd (cD (.int 13)) (cBin doMod (cB bInt (cCons (cBin doIx (cVar 1) (cD (.int 20))) (cNil))) (cD (.int 8)))))) (cNil)))))) (gN 6)) (sSeq (sAsg (cLst (cNil)) (gN 7)) (sSeq (sFor (iRng1D (cCons (cB bLen (cCons (cVar 3) (cNil))) (cNil))) (gN 8) (sDrop (cM "list" mAppend (cVar 7) (cCons (cTup (cCons (cVar 8) (cCons (cBin doIx (cBin doIx (cVar 3) (cVar 8)) (cD (.int 0))) (cCons (cBin doIx (cBin doIx (cVar 3) (cVar 8)) (cD (.int 1))) (cCons (cTup (cCons (cD (.int 0)) (cCons (cD (.int 0)) (cCons (cD (.int 0)) (cNil))))) (cCons (cBin doAdd (cBin doIx (cVar 6) (cVar 8)) (cBin doMod (cB bInt (cCons (cBin doDiv (cBin doIx (cVar 1) (cD (.int 21))) (cBin doAdd (cVar 8) (cD (.int 1)))) (cNil))) (cD (.int 3)))) (cNil))))))) (cNil))))) (sSeq (sAsg (cB bList1 (cCons (cVar 6) (cNil))) (gN 9)) (sSeq (sAsg (cCall sp_peel (cCons (cVar 7) (cCons (cVar 9) (cCons (cVar 4) (cCons (cVar 5) (cNil)))))) (gN 10)) (sSeq (sIf (cOr (cNot (cTru (cIsi (cVar 10) (tabK kt_list)))) (cOr (cTst (cBin doNe (cVar 9) (cVar 6))) (cTst (cBin doNe (cVar 10) (cCall sp_law_shares (cCons (cVar 3) (cCons (cVar 6) (cCons (cVar 4) (cCons (cVar 5) (cNil)))))))))) (sRet (cD (.bl false))) (sNext)) (sSeq (sIf (cNot (cTru (cCall sp_law_good (cCons (cVar 3) (cCons (cVar 6) (cCons (cVar 10) (cCons (cVar 4) (cCons (cVar 5) (cNil))))))))) (sRet (cD (.bl false))) (sNext)) (sSeq (sAsg (cCall sp_greatest_flow (cCons (cVar 7) (cCons (cVar 4) (cCons (cVar 5) (cNil))))) (gT 3 (gsCons (gN 11) (gsCons (gN 12) (gsCons (gN 13) (gsNil)))))) (sSeq (sAsg (cCall sp_peel (cCons (cVar 7) (cCons (cB bList1 (cCons (cVar 12) (cNil))) (cCons (cVar 4) (cCons (cVar 5) (cNil)))))) (gN 14)) (sSeq (sIf (cOr (cTst (cBin doNe (cVar 14) (cCall sp_law_shares (cCons (cVar 3) (cCons (cVar 12) (cCons (cVar 4) (cCons (cVar 5) (cNil)))))))) (cNot (cTru (cCall sp_law_good (cCons (cVar 3) (cCons (cVar 12) (cCons (cVar 14) (cCons (cVar 4) (cCons (cVar 5) (cNil)))))))))) (sRet (cD (.bl false))) (sNext)) (sSeq (sIf (cOr (cTst (cBin doNe (cB bSum (cCons (cLc (iSeq (cVar 14)) (gN 16) tYesD (cBin doIx (cVar 16) (cD (.int 1))) [16]) (cNil))) (cVar 11))) (cNot (cTru (cCall sp_law_refused (cCons (cVar 7) (cCons (cBin doAdd (cVar 6) (cLst (cCons (cD (.int 0)) (cNil)))) (cCons (cVar 4) (cCons (cVar 5) (cNil))))))))) (sRet (cD (.bl false))) (sNext)) (sSeq (sAsg (cB bList1 (cCons (cVar 6) (cNil))) (gN 15)) (sSeq (sSub (cVar 15) (cD (.int 0)) (cBin doAdd (cBin doIx (cBin doIx (cVar 7) (cD (.int 0))) (cD (.int 4))) (cD (.int 1)))) (sRet (cAndV (cCall sp_law_refused (cCons (cVar 7) (cCons (cVar 15) (cCons (cVar 4) (cCons (cVar 5) (cNil)))))) (cCall sp_law_refused (cCons (cVar 7) (cCons (cVar 6) (cCons (cVar 4) (cCons (cVar 4) (cNil)))))))))))))))))))))))))
def sp_law : DSp := mkFn 1 17 t_law
def gt : Gt := md.gt [("check_flow", 0, sp_check_flow), ("steps_from", 0, sp_steps_from), ("reached", 1, sp_reached), ("chain_to", 0, sp_chain_to), ("push", 0, sp_push), ("greatest_flow", 2, sp_greatest_flow), ("surplus", 0, sp_surplus), ("is_flow", 1, sp_is_flow), ("way_on", 0, sp_way_on), ("walk", 1, sp_walk), ("lift", 0, sp_lift), ("peel", 2, sp_peel), ("_law_rows", 0, sp_law_rows), ("_law_pairs", 0, sp_law_pairs), ("_law_path", 0, sp_law_path), ("_law_flows", 1, sp_law_flows), ("_law_first", 0, sp_law_first), ("_law_walk", 1, sp_law_walk), ("_law_shares", 2, sp_law_shares), ("_law_good", 0, sp_law_good), ("_law_refused", 3, sp_law_refused), ("law", 4, sp_law)] [] [] []
/-! ### the readings are those of the text -/
abbrev N_check_flow : List Str := ["ways", "source", "target"]
abbrev st_check_flow : Stmt := top 5
theorem r_check_flow : rdSt 40 40 ⟨gt, 0, N_check_flow, defScope st_check_flow, none, none⟩ (defBody st_check_flow) = t_check_flow := by kernel_rfl
theorem sc_check_flow : FnScope N_check_flow ["ways", "source", "target"] (defScope st_check_flow) := ⟨rfl, rfl, rfl, by decide +kernel, rfl, by decide +kernel, by decide +kernel⟩
abbrev N_steps_from : List Str := ["ways", "flows", "party", "steps", "place", "way"]
abbrev st_steps_from : Stmt := top 6
theorem r_steps_from : rdSt 40 40 ⟨gt, 0, N_steps_from, defScope st_steps_from, none, none⟩ (defBody st_steps_from) = t_steps_from := by kernel_rfl
theorem sc_steps_from : FnScope N_steps_from ["ways", "flows", "party"] (defScope st_steps_from) := ⟨rfl, rfl, rfl, by decide +kernel, rfl, by decide +kernel, by decide +kernel⟩
abbrev N_reached : List Str := ["ways", "flows", "source", "came", "queue", "at", "party", "step"]
abbrev st_reached : Stmt := top 7
theorem r_reached : rdSt 40 40 ⟨gt, 1, N_reached, defScope st_reached, none, none⟩ (defBody st_reached) = t_reached := by kernel_rfl
theorem sc_reached : FnScope N_reached ["ways", "flows", "source"] (defScope st_reached) := ⟨rfl, rfl, rfl, by decide +kernel, rfl, by decide +kernel, by decide +kernel⟩
abbrev N_chain_to : List Str := ["came", "target", "steps", "party", "before", "step"]
abbrev st_chain_to : Stmt := top 8
theorem r_chain_to : rdSt 40 40 ⟨gt, 0, N_chain_to, defScope st_chain_to, none, none⟩ (defBody st_chain_to) = t_chain_to := by kernel_rfl
theorem sc_chain_to : FnScope N_chain_to ["came", "target"] (defScope st_chain_to) := ⟨rfl, rfl, rfl, by decide +kernel, rfl, by decide +kernel, by decide +kernel⟩
abbrev N_push : List Str := ["flows", "steps", "amount", "place", "sign", "_", "step"]
abbrev st_push : Stmt := top 9
theorem r_push : rdSt 40 40 ⟨gt, 0, N_push, defScope st_push, none, none⟩ (defBody st_push) = t_push := by kernel_rfl
theorem sc_push : FnScope N_push ["flows", "steps"] (defScope st_push) := ⟨rfl, rfl, rfl, by decide +kernel, rfl, by decide +kernel, by decide +kernel⟩
abbrev N_greatest_flow : List Str := ["ways", "source", "target", "flows", "total", "came", "way"]
abbrev st_greatest_flow : Stmt := top 10
theorem r_greatest_flow : rdSt 40 40 ⟨gt, 2, N_greatest_flow, defScope st_greatest_flow, none, none⟩ (defBody st_greatest_flow) = t_greatest_flow := by kernel_rfl
theorem sc_greatest_flow : FnScope N_greatest_flow ["ways", "source", "target"] (defScope st_greatest_flow) := ⟨rfl, rfl, rfl, by decide +kernel, rfl, by decide +kernel, by decide +kernel⟩
abbrev N_surplus : List Str := ["ways", "flows", "party", "out", "place", "way"]
abbrev st_surplus : Stmt := top 11
theorem r_surplus : rdSt 40 40 ⟨gt, 0, N_surplus, defScope st_surplus, none, none⟩ (defBody st_surplus) = t_surplus := by kernel_rfl
theorem sc_surplus : FnScope N_surplus ["ways", "flows", "party"] (defScope st_surplus) := ⟨rfl, rfl, rfl, by decide +kernel, rfl, by decide +kernel, by decide +kernel⟩
abbrev N_is_flow : List Str := ["ways", "flows", "source", "target", "place", "way", "between", "party"]
abbrev st_is_flow : Stmt := top 12
theorem r_is_flow : rdSt 40 40 ⟨gt, 1, N_is_flow, defScope st_is_flow, none, none⟩ (defBody st_is_flow) = t_is_flow := by kernel_rfl
theorem sc_is_flow : FnScope N_is_flow ["ways", "flows", "source", "target"] (defScope st_is_flow) := ⟨rfl, rfl, rfl, by decide +kernel, rfl, by decide +kernel, by decide +kernel⟩
abbrev N_way_on : List Str := ["ways", "left", "party", "place", "way"]
abbrev st_way_on : Stmt := top 14
theorem r_way_on : rdSt 40 40 ⟨gt, 0, N_way_on, defScope st_way_on, none, none⟩ (defBody st_way_on) = t_way_on := by kernel_rfl
theorem sc_way_on : FnScope N_way_on ["ways", "left", "party"] (defScope st_way_on) := ⟨rfl, rfl, rfl, by decide +kernel, rfl, by decide +kernel, by decide +kernel⟩
abbrev N_walk : List Str := ["ways", "left", "source", "target", "places", "visited", "party", "place"]
abbrev st_walk : Stmt := top 15
theorem r_walk : rdSt 40 40 ⟨gt, 1, N_walk, defScope st_walk, none, none⟩ (defBody st_walk) = t_walk := by kernel_rfl
theorem sc_walk : FnScope N_walk ["ways", "left", "source", "target"] (defScope st_walk) := ⟨rfl, rfl, rfl, by decide +kernel, rfl, by decide +kernel, by decide +kernel⟩
abbrev N_lift : List Str := ["left", "places", "amount", "place"]
abbrev st_lift : Stmt := top 16
theorem r_lift : rdSt 40 40 ⟨gt, 0, N_lift, defScope st_lift, none, none⟩ (defBody st_lift) = t_lift := by kernel_rfl
theorem sc_lift : FnScope N_lift ["left", "places"] (defScope st_lift) := ⟨rfl, rfl, rfl, by decide +kernel, rfl, by decide +kernel, by decide +kernel⟩
abbrev N_peel : List Str := ["ways", "flows", "source", "target", "left", "shares", "places", "ring"]
abbrev st_peel : Stmt := top 17
theorem r_peel : rdSt 40 40 ⟨gt, 2, N_peel, defScope st_peel, none, none⟩ (defBody st_peel) = t_peel := by kernel_rfl
theorem sc_peel : FnScope N_peel ["ways", "flows", "source", "target"] (defScope st_peel) := ⟨rfl, rfl, rfl, by decide +kernel, rfl, by decide +kernel, by decide +kernel⟩
abbrev N_law_rows : List Str := ["script", "count", "rows", "k", "cell"]
abbrev st_law_rows : Stmt := top 19
theorem r_law_rows : rdSt 40 40 ⟨gt, 0, N_law_rows, defScope st_law_rows, none, none⟩ (defBody st_law_rows) = t_law_rows := by kernel_rfl
theorem sc_law_rows : FnScope N_law_rows ["script", "count"] (defScope st_law_rows) := ⟨rfl, rfl, rfl, by decide +kernel, rfl, by decide +kernel, by decide +kernel⟩
abbrev N_law_pairs : List Str := ["rows", "many", "parties", "pairs", "k", "row"]
abbrev st_law_pairs : Stmt := top 20
theorem r_law_pairs : rdSt 40 40 ⟨gt, 0, N_law_pairs, defScope st_law_pairs, none, none⟩ (defBody st_law_pairs) = t_law_pairs := by kernel_rfl
theorem sc_law_pairs : FnScope N_law_pairs ["rows", "many", "parties"] (defScope st_law_pairs) := ⟨rfl, rfl, rfl, by decide +kernel, rfl, by decide +kernel, by decide +kernel⟩
abbrev N_law_path : List Str := ["pairs", "start", "goal", "row", "path", "party", "step", "ways", "at", "k"]
abbrev st_law_path : Stmt := top 21
theorem r_law_path : rdSt 40 40 ⟨gt, 0, N_law_path, defScope st_law_path, none, none⟩ (defBody st_law_path) = t_law_path := by kernel_rfl
theorem sc_law_path : FnScope N_law_path ["pairs", "start", "goal", "row"] (defScope st_law_path) := ⟨rfl, rfl, rfl, by decide +kernel, rfl, by decide +kernel, by decide +kernel⟩
abbrev N_law_flows : List Str := ["pairs", "source", "target", "rows", "flows", "row", "amount", "start", "goal", "at"]
abbrev st_law_flows : Stmt := top 22
theorem r_law_flows : rdSt 40 40 ⟨gt, 1, N_law_flows, defScope st_law_flows, none, none⟩ (defBody st_law_flows) = t_law_flows := by kernel_rfl
theorem sc_law_flows : FnScope N_law_flows ["pairs", "source", "target", "rows"] (defScope st_law_flows) := ⟨rfl, rfl, rfl, by decide +kernel, rfl, by decide +kernel, by decide +kernel⟩
abbrev N_law_first : List Str := ["pairs", "left", "party", "k"]
abbrev st_law_first : Stmt := top 23
theorem r_law_first : rdSt 40 40 ⟨gt, 0, N_law_first, defScope st_law_first, none, none⟩ (defBody st_law_first) = t_law_first := by kernel_rfl
theorem sc_law_first : FnScope N_law_first ["pairs", "left", "party"] (defScope st_law_first) := ⟨rfl, rfl, rfl, by decide +kernel, rfl, by decide +kernel, by decide +kernel⟩
abbrev N_law_walk : List Str := ["pairs", "left", "source", "target", "path", "seen", "step", "at", "party"]
abbrev st_law_walk : Stmt := top 24
theorem r_law_walk : rdSt 40 40 ⟨gt, 1, N_law_walk, defScope st_law_walk, none, none⟩ (defBody st_law_walk) = t_law_walk := by kernel_rfl
theorem sc_law_walk : FnScope N_law_walk ["pairs", "left", "source", "target"] (defScope st_law_walk) := ⟨rfl, rfl, rfl, by decide +kernel, rfl, by decide +kernel, by decide +kernel⟩
abbrev N_law_shares : List Str := ["pairs", "flows", "source", "target", "left", "shares", "turn", "path", "whole", "least", "at"]
abbrev st_law_shares : Stmt := top 25
theorem r_law_shares : rdSt 40 40 ⟨gt, 2, N_law_shares, defScope st_law_shares, none, none⟩ (defBody st_law_shares) = t_law_shares := by kernel_rfl
theorem sc_law_shares : FnScope N_law_shares ["pairs", "flows", "source", "target"] (defScope st_law_shares) := ⟨rfl, rfl, rfl, by decide +kernel, rfl, by decide +kernel, by decide +kernel⟩
abbrev N_law_good : List Str := ["pairs", "flows", "shares", "source", "target", "loads", "path", "amount", "party", "seen", "at", "k"]
abbrev st_law_good : Stmt := top 26
theorem r_law_good : rdSt 40 40 ⟨gt, 0, N_law_good, defScope st_law_good, none, none⟩ (defBody st_law_good) = t_law_good := by kernel_rfl
theorem sc_law_good : FnScope N_law_good ["pairs", "flows", "shares", "source", "target"] (defScope st_law_good) := ⟨rfl, rfl, rfl, by decide +kernel, rfl, by decide +kernel, by decide +kernel⟩
abbrev N_law_refused : List Str := ["ways", "flows", "source", "target"]
abbrev st_law_refused : Stmt := top 27
theorem r_law_refused : rdSt 40 40 ⟨gt, 3, N_law_refused, defScope st_law_refused, none, none⟩ (defBody st_law_refused) = t_law_refused := by kernel_rfl
theorem sc_law_refused : FnScope N_law_refused ["ways", "flows", "source", "target"] (defScope st_law_refused) := ⟨rfl, rfl, rfl, by decide +kernel, rfl, by decide +kernel, by decide +kernel⟩
abbrev N_law : List Str := ["script", "rows", "parties", "pairs", "source", "target", "flows", "ways", "k", "given", "shares", "amount", "best", "side", "routes", "spoilt", "share"]
abbrev st_law : Stmt := top 28
theorem r_law : rdSt 40 40 ⟨gt, 4, N_law, defScope st_law, none, none⟩ (defBody st_law) = t_law := by kernel_rfl
theorem sc_law : FnScope N_law ["script"] (defScope st_law) := ⟨rfl, rfl, rfl, by decide +kernel, rfl, by decide +kernel, by decide +kernel⟩
/-! ### the chain -/
def d_check_flow : He.DefD := ⟨("check_flow", none), "check_flow", "check_flow", defArgs st_check_flow, defBody st_check_flow, defScope st_check_flow, [], []⟩
def d_steps_from : He.DefD := ⟨("steps_from", none), "steps_from", "steps_from", defArgs st_steps_from, defBody st_steps_from, defScope st_steps_from, [], []⟩
def d_reached : He.DefD := ⟨("reached", none), "reached", "reached", defArgs st_reached, defBody st_reached, defScope st_reached, [], []⟩
def d_chain_to : He.DefD := ⟨("chain_to", none), "chain_to", "chain_to", defArgs st_chain_to, defBody st_chain_to, defScope st_chain_to, [], []⟩
def d_push : He.DefD := ⟨("push", none), "push", "push", defArgs st_push, defBody st_push, defScope st_push, [], []⟩
def d_greatest_flow : He.DefD := ⟨("greatest_flow", none), "greatest_flow", "greatest_flow", defArgs st_greatest_flow, defBody st_greatest_flow, defScope st_greatest_flow, [], []⟩
def d_surplus : He.DefD := ⟨("surplus", none), "surplus", "surplus", defArgs st_surplus, defBody st_surplus, defScope st_surplus, [], []⟩
def d_is_flow : He.DefD := ⟨("is_flow", none), "is_flow", "is_flow", defArgs st_is_flow, defBody st_is_flow, defScope st_is_flow, [], []⟩
def d_way_on : He.DefD := ⟨("way_on", none), "way_on", "way_on", defArgs st_way_on, defBody st_way_on, defScope st_way_on, [], []⟩
def d_walk : He.DefD := ⟨("walk", none), "walk", "walk", defArgs st_walk, defBody st_walk, defScope st_walk, [], []⟩
def d_lift : He.DefD := ⟨("lift", none), "lift", "lift", defArgs st_lift, defBody st_lift, defScope st_lift, [], []⟩
def d_peel : He.DefD := ⟨("peel", none), "peel", "peel", defArgs st_peel, defBody st_peel, defScope st_peel, [], []⟩
def d_law_rows : He.DefD := ⟨("_law_rows", none), "_law_rows", "_law_rows", defArgs st_law_rows, defBody st_law_rows, defScope st_law_rows, [], []⟩
def d_law_pairs : He.DefD := ⟨("_law_pairs", none), "_law_pairs", "_law_pairs", defArgs st_law_pairs, defBody st_law_pairs, defScope st_law_pairs, [], []⟩
def d_law_path : He.DefD := ⟨("_law_path", none), "_law_path", "_law_path", defArgs st_law_path, defBody st_law_path, defScope st_law_path, [], []⟩
def d_law_flows : He.DefD := ⟨("_law_flows", none), "_law_flows", "_law_flows", defArgs st_law_flows, defBody st_law_flows, defScope st_law_flows, [], []⟩
def d_law_first : He.DefD := ⟨("_law_first", none), "_law_first", "_law_first", defArgs st_law_first, defBody st_law_first, defScope st_law_first, [], []⟩
def d_law_walk : He.DefD := ⟨("_law_walk", none), "_law_walk", "_law_walk", defArgs st_law_walk, defBody st_law_walk, defScope st_law_walk, [], []⟩
def d_law_shares : He.DefD := ⟨("_law_shares", none), "_law_shares", "_law_shares", defArgs st_law_shares, defBody st_law_shares, defScope st_law_shares, [], []⟩
def d_law_good : He.DefD := ⟨("_law_good", none), "_law_good", "_law_good", defArgs st_law_good, defBody st_law_good, defScope st_law_good, [], []⟩
def d_law_refused : He.DefD := ⟨("_law_refused", none), "_law_refused", "_law_refused", defArgs st_law_refused, defBody st_law_refused, defScope st_law_refused, [], []⟩
def d_law : He.DefD := ⟨("law", none), "law", "law", defArgs st_law, defBody st_law, defScope st_law, [], []⟩
def fn : List He.DefD := [d_check_flow, d_steps_from, d_reached, d_chain_to, d_push, d_greatest_flow, d_surplus, d_is_flow, d_way_on, d_walk, d_lift, d_peel, d_law_rows, d_law_pairs, d_law_path, d_law_flows, d_law_first, d_law_walk, d_law_shares, d_law_good, d_law_refused, d_law]
def pr : List He.DefD := []
def fns : List Str := ["check_flow", "steps_from", "reached", "chain_to", "push", "greatest_flow", "surplus", "is_flow", "way_on", "walk", "lift", "peel", "_law_rows", "_law_pairs", "_law_path", "_law_flows", "_law_first", "_law_walk", "_law_shares", "_law_good", "_law_refused", "law"]
def mks : List Str := []
def mts : List (Str × Str) := []
def ex (K : PySem.W.Frag) : Bool := md.ok K && ((fns.all fun x => nameB K x none) && ((mks.all fun x => mkB K x) && ((mts.all fun p => methB K p.1 p.2) && pr.all fun d => propB K d.at_.1 (d.at_.2.getD "") && prOk K d)))
section
variable {P : Program} {w : World} {K : PySem.W.Frag} {mg : Str → Option Value} {h : Heap}
theorem chain (X : K.In h) (Gn : h.Ns mainGlobals mg) (cc : SaysP fn pr ex w h K) : ∃ fd : FuncData, (∀ (s : Shared) (v : Value), BindsTo s fd ⟨[v], []⟩ [("script", v)]) ∧ ∀ base : Heap, FnOk P w K mg base (L2N.CX P w) 5 (He.ga K "law") fd ["script"] (LSp (md.pg P w K mg base) sp_law) := by
  have c := cc.x
  obtain ⟨c1, c2⟩ := He.ba c.more
  obtain ⟨c2, c3⟩ := He.ba c2
  obtain ⟨c3, c4⟩ := He.ba c3
  obtain ⟨c4, c5⟩ := He.ba c4
  have sd := c.t.d
  have gl : ∀ x, x ∈ fns → mg x = some (.ref (He.ga K x)) := fun x hx => PySem.W.mg_of X Gn (He.eqO_ok (List.all_eq_true.mp c2 x hx))
  obtain ⟨fd_check_flow, F_check_flow⟩ := sd.def_ 0 (d := d_check_flow) rfl
  have b_check_flow := FunD.bindsN (ps := ["ways", "source", "target"]) F_check_flow fun _ _ _ _ _ _ us hl => match us, hl with | [_, _, _], _ => rfl
  obtain ⟨fd_steps_from, F_steps_from⟩ := sd.def_ 1 (d := d_steps_from) rfl
  have b_steps_from := FunD.bindsN (ps := ["ways", "flows", "party"]) F_steps_from fun _ _ _ _ _ _ us hl => match us, hl with | [_, _, _], _ => rfl
  obtain ⟨fd_reached, F_reached⟩ := sd.def_ 2 (d := d_reached) rfl
  have b_reached := FunD.bindsN (ps := ["ways", "flows", "source"]) F_reached fun _ _ _ _ _ _ us hl => match us, hl with | [_, _, _], _ => rfl
  obtain ⟨fd_chain_to, F_chain_to⟩ := sd.def_ 3 (d := d_chain_to) rfl
  have b_chain_to := FunD.bindsN (ps := ["came", "target"]) F_chain_to fun _ _ _ _ _ _ us hl => match us, hl with | [_, _], _ => rfl
  obtain ⟨fd_push, F_push⟩ := sd.def_ 4 (d := d_push) rfl
  have b_push := FunD.bindsN (ps := ["flows", "steps"]) F_push fun _ _ _ _ _ _ us hl => match us, hl with | [_, _], _ => rfl
  obtain ⟨fd_greatest_flow, F_greatest_flow⟩ := sd.def_ 5 (d := d_greatest_flow) rfl
  have b_greatest_flow := FunD.bindsN (ps := ["ways", "source", "target"]) F_greatest_flow fun _ _ _ _ _ _ us hl => match us, hl with | [_, _, _], _ => rfl
  obtain ⟨fd_surplus, F_surplus⟩ := sd.def_ 6 (d := d_surplus) rfl
  have b_surplus := FunD.bindsN (ps := ["ways", "flows", "party"]) F_surplus fun _ _ _ _ _ _ us hl => match us, hl with | [_, _, _], _ => rfl
  obtain ⟨fd_is_flow, F_is_flow⟩ := sd.def_ 7 (d := d_is_flow) rfl
  have b_is_flow := FunD.bindsN (ps := ["ways", "flows", "source", "target"]) F_is_flow fun _ _ _ _ _ _ us hl => match us, hl with | [_, _, _, _], _ => rfl
  obtain ⟨fd_way_on, F_way_on⟩ := sd.def_ 8 (d := d_way_on) rfl
  have b_way_on := FunD.bindsN (ps := ["ways", "left", "party"]) F_way_on fun _ _ _ _ _ _ us hl => match us, hl with | [_, _, _], _ => rfl
  obtain ⟨fd_walk, F_walk⟩ := sd.def_ 9 (d := d_walk) rfl
  have b_walk := FunD.bindsN (ps := ["ways", "left", "source", "target"]) F_walk fun _ _ _ _ _ _ us hl => match us, hl with | [_, _, _, _], _ => rfl
  obtain ⟨fd_lift, F_lift⟩ := sd.def_ 10 (d := d_lift) rfl
  have b_lift := FunD.bindsN (ps := ["left", "places"]) F_lift fun _ _ _ _ _ _ us hl => match us, hl with | [_, _], _ => rfl
  obtain ⟨fd_peel, F_peel⟩ := sd.def_ 11 (d := d_peel) rfl
  have b_peel := FunD.bindsN (ps := ["ways", "flows", "source", "target"]) F_peel fun _ _ _ _ _ _ us hl => match us, hl with | [_, _, _, _], _ => rfl
  obtain ⟨fd_law_rows, F_law_rows⟩ := sd.def_ 12 (d := d_law_rows) rfl
  have b_law_rows := FunD.bindsN (ps := ["script", "count"]) F_law_rows fun _ _ _ _ _ _ us hl => match us, hl with | [_, _], _ => rfl
  obtain ⟨fd_law_pairs, F_law_pairs⟩ := sd.def_ 13 (d := d_law_pairs) rfl
  have b_law_pairs := FunD.bindsN (ps := ["rows", "many", "parties"]) F_law_pairs fun _ _ _ _ _ _ us hl => match us, hl with | [_, _, _], _ => rfl
  obtain ⟨fd_law_path, F_law_path⟩ := sd.def_ 14 (d := d_law_path) rfl
  have b_law_path := FunD.bindsN (ps := ["pairs", "start", "goal", "row"]) F_law_path fun _ _ _ _ _ _ us hl => match us, hl with | [_, _, _, _], _ => rfl
  obtain ⟨fd_law_flows, F_law_flows⟩ := sd.def_ 15 (d := d_law_flows) rfl
  have b_law_flows := FunD.bindsN (ps := ["pairs", "source", "target", "rows"]) F_law_flows fun _ _ _ _ _ _ us hl => match us, hl with | [_, _, _, _], _ => rfl
  obtain ⟨fd_law_first, F_law_first⟩ := sd.def_ 16 (d := d_law_first) rfl
  have b_law_first := FunD.bindsN (ps := ["pairs", "left", "party"]) F_law_first fun _ _ _ _ _ _ us hl => match us, hl with | [_, _, _], _ => rfl
  obtain ⟨fd_law_walk, F_law_walk⟩ := sd.def_ 17 (d := d_law_walk) rfl
  have b_law_walk := FunD.bindsN (ps := ["pairs", "left", "source", "target"]) F_law_walk fun _ _ _ _ _ _ us hl => match us, hl with | [_, _, _, _], _ => rfl
  obtain ⟨fd_law_shares, F_law_shares⟩ := sd.def_ 18 (d := d_law_shares) rfl
  have b_law_shares := FunD.bindsN (ps := ["pairs", "flows", "source", "target"]) F_law_shares fun _ _ _ _ _ _ us hl => match us, hl with | [_, _, _, _], _ => rfl
  obtain ⟨fd_law_good, F_law_good⟩ := sd.def_ 19 (d := d_law_good) rfl
  have b_law_good := FunD.bindsN (ps := ["pairs", "flows", "shares", "source", "target"]) F_law_good fun _ _ _ _ _ _ us hl => match us, hl with | [_, _, _, _, _], _ => rfl
  obtain ⟨fd_law_refused, F_law_refused⟩ := sd.def_ 20 (d := d_law_refused) rfl
  have b_law_refused := FunD.bindsN (ps := ["ways", "flows", "source", "target"]) F_law_refused fun _ _ _ _ _ _ us hl => match us, hl with | [_, _, _, _], _ => rfl
  obtain ⟨fd_law, F_law⟩ := sd.def_ 21 (d := d_law) rfl
  have b_law := FunD.bindsN (ps := ["script"]) F_law fun _ _ _ _ _ _ us hl => match us, hl with | [_], _ => rfl
  have bl := FunD.bindsA (ps := ["script"]) F_law fun _ _ _ _ _ _ us hl => match us, hl with | [_], _ => rfl
  refine ⟨fd_law, fun s v => bl s [v] rfl, fun base => ?_⟩
  have st : GSt (md.pg P w K mg base) gt := md.stat X Gn (by decide +kernel) c1 _ _ _ _
  have g0 : GOk (md.pg P w K mg base) gt 0 := .of st ⟨all_cons (fun z => absurd z (by decide)) (all_cons (fun z => absurd z (by decide)) (all_cons (fun z => absurd z (by decide)) (all_cons (fun z => absurd z (by decide)) (all_cons (fun z => absurd z (by decide)) (all_cons (fun z => absurd z (by decide)) (all_cons (fun z => absurd z (by decide)) (all_cons (fun z => absurd z (by decide)) (all_cons (fun z => absurd z (by decide)) (all_cons (fun z => absurd z (by decide)) (all_cons (fun z => absurd z (by decide)) (all_cons (fun z => absurd z (by decide)) (all_cons (fun z => absurd z (by decide)) (all_cons (fun z => absurd z (by decide)) (all_cons (fun z => absurd z (by decide)) (all_cons (fun z => absurd z (by decide)) (all_cons (fun z => absurd z (by decide)) (all_cons (fun z => absurd z (by decide)) (all_cons (fun z => absurd z (by decide)) (all_cons (fun z => absurd z (by decide)) (all_cons (fun z => absurd z (by decide)) (all_cons (fun z => absurd z (by decide)) (all_nil)))))))))))))))))))))), all_nil, all_nil, all_nil, all_nil⟩
  have ok_check_flow := fn_ok F_check_flow sc_check_flow g0 r_check_flow
  have c_check_flow : CallG (md.pg P w K mg base) 0 "check_flow" sp_check_flow := callG_fn (gl _ (by decide +kernel)) F_check_flow.kp b_check_flow ok_check_flow
  have ok_steps_from := fn_ok F_steps_from sc_steps_from g0 r_steps_from
  have c_steps_from : CallG (md.pg P w K mg base) 0 "steps_from" sp_steps_from := callG_fn (gl _ (by decide +kernel)) F_steps_from.kp b_steps_from ok_steps_from
  have ok_chain_to := fn_ok F_chain_to sc_chain_to g0 r_chain_to
  have c_chain_to : CallG (md.pg P w K mg base) 0 "chain_to" sp_chain_to := callG_fn (gl _ (by decide +kernel)) F_chain_to.kp b_chain_to ok_chain_to
  have ok_push := fn_ok F_push sc_push g0 r_push
  have c_push : CallG (md.pg P w K mg base) 0 "push" sp_push := callG_fn (gl _ (by decide +kernel)) F_push.kp b_push ok_push
  have ok_surplus := fn_ok F_surplus sc_surplus g0 r_surplus
  have c_surplus : CallG (md.pg P w K mg base) 0 "surplus" sp_surplus := callG_fn (gl _ (by decide +kernel)) F_surplus.kp b_surplus ok_surplus
  have ok_way_on := fn_ok F_way_on sc_way_on g0 r_way_on
  have c_way_on : CallG (md.pg P w K mg base) 0 "way_on" sp_way_on := callG_fn (gl _ (by decide +kernel)) F_way_on.kp b_way_on ok_way_on
  have ok_lift := fn_ok F_lift sc_lift g0 r_lift
  have c_lift : CallG (md.pg P w K mg base) 0 "lift" sp_lift := callG_fn (gl _ (by decide +kernel)) F_lift.kp b_lift ok_lift
  have ok_law_rows := fn_ok F_law_rows sc_law_rows g0 r_law_rows
  have c_law_rows : CallG (md.pg P w K mg base) 0 "_law_rows" sp_law_rows := callG_fn (gl _ (by decide +kernel)) F_law_rows.kp b_law_rows ok_law_rows
  have ok_law_pairs := fn_ok F_law_pairs sc_law_pairs g0 r_law_pairs
  have c_law_pairs : CallG (md.pg P w K mg base) 0 "_law_pairs" sp_law_pairs := callG_fn (gl _ (by decide +kernel)) F_law_pairs.kp b_law_pairs ok_law_pairs
  have ok_law_path := fn_ok F_law_path sc_law_path g0 r_law_path
  have c_law_path : CallG (md.pg P w K mg base) 0 "_law_path" sp_law_path := callG_fn (gl _ (by decide +kernel)) F_law_path.kp b_law_path ok_law_path
  have ok_law_first := fn_ok F_law_first sc_law_first g0 r_law_first
  have c_law_first : CallG (md.pg P w K mg base) 0 "_law_first" sp_law_first := callG_fn (gl _ (by decide +kernel)) F_law_first.kp b_law_first ok_law_first
  have ok_law_good := fn_ok F_law_good sc_law_good g0 r_law_good
  have c_law_good : CallG (md.pg P w K mg base) 0 "_law_good" sp_law_good := callG_fn (gl _ (by decide +kernel)) F_law_good.kp b_law_good ok_law_good
  have g1 : GOk (md.pg P w K mg base) gt 1 := .of st ⟨all_cons (fun _ => c_check_flow) (all_cons (fun _ => c_steps_from) (all_cons (fun z => absurd z (by decide)) (all_cons (fun _ => c_chain_to) (all_cons (fun _ => c_push) (all_cons (fun z => absurd z (by decide)) (all_cons (fun _ => c_surplus) (all_cons (fun z => absurd z (by decide)) (all_cons (fun _ => c_way_on) (all_cons (fun z => absurd z (by decide)) (all_cons (fun _ => c_lift) (all_cons (fun z => absurd z (by decide)) (all_cons (fun _ => c_law_rows) (all_cons (fun _ => c_law_pairs) (all_cons (fun _ => c_law_path) (all_cons (fun z => absurd z (by decide)) (all_cons (fun _ => c_law_first) (all_cons (fun z => absurd z (by decide)) (all_cons (fun z => absurd z (by decide)) (all_cons (fun _ => c_law_good) (all_cons (fun z => absurd z (by decide)) (all_cons (fun z => absurd z (by decide)) (all_nil)))))))))))))))))))))), all_nil, all_nil, all_nil, all_nil⟩
  have ok_reached := fn_ok F_reached sc_reached g1 r_reached
  have c_reached : CallG (md.pg P w K mg base) 1 "reached" sp_reached := callG_fn (gl _ (by decide +kernel)) F_reached.kp b_reached ok_reached
  have ok_is_flow := fn_ok F_is_flow sc_is_flow g1 r_is_flow
  have c_is_flow : CallG (md.pg P w K mg base) 1 "is_flow" sp_is_flow := callG_fn (gl _ (by decide +kernel)) F_is_flow.kp b_is_flow ok_is_flow
  have ok_walk := fn_ok F_walk sc_walk g1 r_walk
  have c_walk : CallG (md.pg P w K mg base) 1 "walk" sp_walk := callG_fn (gl _ (by decide +kernel)) F_walk.kp b_walk ok_walk
  have ok_law_flows := fn_ok F_law_flows sc_law_flows g1 r_law_flows
  have c_law_flows : CallG (md.pg P w K mg base) 1 "_law_flows" sp_law_flows := callG_fn (gl _ (by decide +kernel)) F_law_flows.kp b_law_flows ok_law_flows
  have ok_law_walk := fn_ok F_law_walk sc_law_walk g1 r_law_walk
  have c_law_walk : CallG (md.pg P w K mg base) 1 "_law_walk" sp_law_walk := callG_fn (gl _ (by decide +kernel)) F_law_walk.kp b_law_walk ok_law_walk
  have g2 : GOk (md.pg P w K mg base) gt 2 := .of st ⟨all_cons (fun _ => c_check_flow) (all_cons (fun _ => c_steps_from) (all_cons (fun _ => c_reached) (all_cons (fun _ => c_chain_to) (all_cons (fun _ => c_push) (all_cons (fun z => absurd z (by decide)) (all_cons (fun _ => c_surplus) (all_cons (fun _ => c_is_flow) (all_cons (fun _ => c_way_on) (all_cons (fun _ => c_walk) (all_cons (fun _ => c_lift) (all_cons (fun z => absurd z (by decide)) (all_cons (fun _ => c_law_rows) (all_cons (fun _ => c_law_pairs) (all_cons (fun _ => c_law_path) (all_cons (fun _ => c_law_flows) (all_cons (fun _ => c_law_first) (all_cons (fun _ => c_law_walk) (all_cons (fun z => absurd z (by decide)) (all_cons (fun _ => c_law_good) (all_cons (fun z => absurd z (by decide)) (all_cons (fun z => absurd z (by decide)) (all_nil)))))))))))))))))))))), all_nil, all_nil, all_nil, all_nil⟩
  have ok_greatest_flow := fn_ok F_greatest_flow sc_greatest_flow g2 r_greatest_flow
  have c_greatest_flow : CallG (md.pg P w K mg base) 2 "greatest_flow" sp_greatest_flow := callG_fn (gl _ (by decide +kernel)) F_greatest_flow.kp b_greatest_flow ok_greatest_flow
  have ok_peel := fn_ok F_peel sc_peel g2 r_peel
  have c_peel : CallG (md.pg P w K mg base) 2 "peel" sp_peel := callG_fn (gl _ (by decide +kernel)) F_peel.kp b_peel ok_peel
  have ok_law_shares := fn_ok F_law_shares sc_law_shares g2 r_law_shares
  have c_law_shares : CallG (md.pg P w K mg base) 2 "_law_shares" sp_law_shares := callG_fn (gl _ (by decide +kernel)) F_law_shares.kp b_law_shares ok_law_shares
  have g3 : GOk (md.pg P w K mg base) gt 3 := .of st ⟨all_cons (fun _ => c_check_flow) (all_cons (fun _ => c_steps_from) (all_cons (fun _ => c_reached) (all_cons (fun _ => c_chain_to) (all_cons (fun _ => c_push) (all_cons (fun _ => c_greatest_flow) (all_cons (fun _ => c_surplus) (all_cons (fun _ => c_is_flow) (all_cons (fun _ => c_way_on) (all_cons (fun _ => c_walk) (all_cons (fun _ => c_lift) (all_cons (fun _ => c_peel) (all_cons (fun _ => c_law_rows) (all_cons (fun _ => c_law_pairs) (all_cons (fun _ => c_law_path) (all_cons (fun _ => c_law_flows) (all_cons (fun _ => c_law_first) (all_cons (fun _ => c_law_walk) (all_cons (fun _ => c_law_shares) (all_cons (fun _ => c_law_good) (all_cons (fun z => absurd z (by decide)) (all_cons (fun z => absurd z (by decide)) (all_nil)))))))))))))))))))))), all_nil, all_nil, all_nil, all_nil⟩
  have ok_law_refused := fn_ok F_law_refused sc_law_refused g3 r_law_refused
  have c_law_refused : CallG (md.pg P w K mg base) 3 "_law_refused" sp_law_refused := callG_fn (gl _ (by decide +kernel)) F_law_refused.kp b_law_refused ok_law_refused
  have g4 : GOk (md.pg P w K mg base) gt 4 := .of st ⟨all_cons (fun _ => c_check_flow) (all_cons (fun _ => c_steps_from) (all_cons (fun _ => c_reached) (all_cons (fun _ => c_chain_to) (all_cons (fun _ => c_push) (all_cons (fun _ => c_greatest_flow) (all_cons (fun _ => c_surplus) (all_cons (fun _ => c_is_flow) (all_cons (fun _ => c_way_on) (all_cons (fun _ => c_walk) (all_cons (fun _ => c_lift) (all_cons (fun _ => c_peel) (all_cons (fun _ => c_law_rows) (all_cons (fun _ => c_law_pairs) (all_cons (fun _ => c_law_path) (all_cons (fun _ => c_law_flows) (all_cons (fun _ => c_law_first) (all_cons (fun _ => c_law_walk) (all_cons (fun _ => c_law_shares) (all_cons (fun _ => c_law_good) (all_cons (fun _ => c_law_refused) (all_cons (fun z => absurd z (by decide)) (all_nil)))))))))))))))))))))), all_nil, all_nil, all_nil, all_nil⟩
  have ok_law := fn_ok F_law sc_law g4 r_law
  exact ok_law
end
/-! ### the head -/
abbrev R : PySem.W.OpenRow := PySem.W.OpenLaw.row PySem.Challenge.rw_droveway_k87_peeling
abbrev hk : PySem.W.Hook := hookP 6 fn pr ex
def ob (s : PySem.W.SharedT) : He.AlX × List He.FnW := obsP 6 fn pr ex (HandSHeadRun.getT s)
theorem ob_eq (s : PySem.W.SharedT) : ob s = hk.obs s.abs := obsP_eq (HandSHeadRun.getT_eq s)
def nm0 : List Str := ["__name__", "DrovewayError", "OutOfBounds", "MOST_ROWS", "check_flow", "steps_from", "reached", "chain_to", "push", "greatest_flow", "surplus", "is_flow", "way_on", "walk", "lift", "peel", "_law_rows", "_law_pairs", "_law_path", "_law_flows", "_law_first", "_law_walk", "_law_shares", "_law_good", "_law_refused"]
def nms : List Str := nm0
theorem run (w : World) : HandSHeadRun.RunEq R (PySem.W.view R.prog [28]) hk ob 3000 nms w := by
  intro os
  kernel_rfl
end Lk87

open DW PySem L2 in
local macro_rules | `(tactic| walk_at "dw1") => `(tactic| simp only [w_seq, w_next, w_brk, w_cnt, w_drop, w_ret, w_retN, w_if, w_asg, w_var, w_D, w_bin, w_chain, w_nil, w_cons, w_tup, w_lst, w_tru, w_tst, w_and, w_or, w_not, w_andV, w_orV, w_notV, w_ifE, w_neg, w_call, w_B, w_raise, w_try, w_for, w_gN, w_add, w_sub, w_mul, w_div, w_mod, w_pow15, w_pow12, w_pow9, w_lt, w_ltIB, w_le, w_gt, w_ge, w_eqI, w_neI, w_bInt, w_lenR, w_lenT, w_lenK, w_ixR, w_ixT, w_ixK, w_ixU, w_lenU, w_rng1, w_kRng1, w_seqI, w_itT, w_itK, w_itR, w_isiX, w_kIsiX, w_exO, w_isi, w_isiI, w_isiB, w_isiT, w_isiR, w_isiN, w_isiS, dEndsAt, noEx, List.length_map, Lk87.k_list_NoneType, Lk87.k_list_bool, Lk87.k_list_int, Lk87.k_list_str, Lk87.k_list_tuple, Lk87.k_list_list, Lk87.k_list_dict, Lk87.k_tuple_NoneType, Lk87.k_tuple_bool, Lk87.k_tuple_int, Lk87.k_tuple_str, Lk87.k_tuple_tuple, Lk87.k_tuple_list, Lk87.k_tuple_dict, Lk87.x_OutOfBounds_0, Lk87.x_OutOfBounds_1, ex_some, at0, at1, at2, at3, at4, at5, at6, at7, at8, at9, at10, at11, at12, at13, at14, at15, at16, at17, at18, at19, at20, at21, at22, at23, at24, w_eqB, w_neB, w_eqS, w_neS, w_isN, w_isNotN, w_isB, w_isNotB, isNon_non, isNon_int, isNon_bl, isNon_str, isNon_tup, isNon_ref, w_max2, w_min2, w_gT, w_gK, w_gsC, w_gsN, w_M, w_tyU, w_appU, w_tupU, w_tupT, w_listU, w_listR, w_listT, w_itU, w_isiU, w_rng2, w_kRng2, w_maxA2, w_augF, w_dict1, w_lc2, w_kLcI, w_lcI0, w_lcI1, w_augN, w_kAugN, w_oEq0, w_oNe0, w_oIn0, w_oEqI, w_oEqB, w_oEqS, w_oEqT, w_oEqK, w_oEqN, w_oNeI, w_oNeB, w_oNeS, w_oNeT, w_oNeK, w_oNeN, w_oInT, w_oInK, w_oInR, w_oInS, w_lenO0, w_lenOT, w_lenOK, w_lenOR, w_lenOS, w_lenOU, w_par2, w_par3, w_delL, w_dict0, w_sub2, w_lenS, w_unNx, w_unRt, w_unBk, w_unCt, w_fld, w_sfld, w_meth1, w_prop1, w_callK, w_iRev, w_iRevT, w_iEnum, m_kWh, m_kLcB, w_lc, w_yes, w_kLcYU, w_wipe, w_wipe0, w_sl, w_kSl, w_part, w_kPart, w_noPart, w_slT, w_slR, w_slU, w_rev, w_revU, w_catT, m_kIf, m_kAsg, m_kRt, m_kAnd, m_kOr, m_kNot, m_kIfE, m_kT, m_kTru, m_kAndV, m_kOrV, m_kNotV, m_kCh, m_bl, m_int, m_and, m_or, m_and2, m_or2, m_tf, m_ft, m_id, dec_b, mkFn, lk, List.set, List.map, List.length, List.replicate, List.append, List.cons_append, List.nil_append, List.getD_cons_zero, List.getD_cons_succ, Nat.reduceSub, Nat.reduceAdd, true_and, and_true, if_true, if_false, ite_true, ite_false, Bool.not_not, Bool.not_true, Bool.not_false, Bool.and_true, Bool.true_and, Bool.and_false, Bool.false_and, Bool.or_true, Bool.true_or, Bool.or_false, Bool.false_or, eq_self, decide_true, decide_false, Bool.decide_eq_true, reduceCtorEq])
open DW PySem L2 in
local macro_rules | `(tactic| walk_at "dw2") => `(tactic| simp only [up_up, kT, kTru, kAnd, kOr, kNot, kAndV, kOrV, kNotV, kCh, kIfE, w_onB, w_onT, tRu])
open DW PySem L2 in
local macro_rules | `(tactic| walk_at "go1") => `(tactic| first | with_reducible refine go_nx ?_ | with_reducible refine go_asg ?_ | with_reducible refine go_rt ?_ | simp only [w_kIfT, w_kIfF, w_kWhT, w_kWhF, w_kLcT, w_kLcF, w_kLc2T, w_kLc2F])
open DW PySem L2 in
local macro_rules | `(tactic| walk_at "sd1") => `(tactic| (with_reducible refine And.intro ?sd ?_; (case sd => first | exact mul_r (by omega) (by omega) | exact mul_l (by omega) (by omega) | exact div_small (by omega) (by omega) | omega | exact small1000 (by decide) | exact le1000 (by decide))))
open DW PySem L2 in
local macro_rules | `(tactic| walk_at "run") => `(tactic| repeat (first | walk_at "dw1" | walk_at "dw2" | walk_at "sd1" | walk_at "go1"))
open DW PySem L2 in
local macro_rules | `(tactic| walk_at "br") => `(tactic| simp only [kIf, kWh, kLcB, Bool.and_eq_true, Bool.or_eq_true, Bool.not_eq_true', decide_eq_true_eq, decide_eq_false_iff_not, Bool.and_eq_false_iff, Bool.or_eq_false_iff])
open DW PySem L2 in
local macro_rules | `(tactic| walk_at "at") => `(tactic| first | assumption | (with_reducible exact up_same) | ((with_reducible refine up_at ?_ (by assumption)); walk_at "at") | ((with_reducible refine sub_at (by assumption) ?_); walk_at "at") | ((with_reducible refine up_neq (by assumption) ?_); walk_at "at") | ((with_reducible refine up_neq' (by assumption) ?_); walk_at "at") | ((with_reducible apply up_lst); (walk_at "at"); walk_at "at") | ((with_reducible apply up_ins); (walk_at "at"); walk_at "at"))
open DW PySem L2 in
local macro_rules | `(tactic| walk_at "sb") => `(tactic| first | exact Sub.refl _ | assumption | ((with_reducible refine Sub.trans ?_ (Sub.new (by assumption))); walk_at "sb") | ((with_reducible refine Sub.trans ?_ (by assumption)); walk_at "sb"))
open DW PySem L2 in
local macro_rules | `(tactic| walk_at "hp") => `(tactic| first
  | ((with_reducible apply go_fld); (walk_at "at"); rfl; rfl)
  | ((with_reducible apply go_ixL); walk_at "at")
  | ((with_reducible apply go_lenL); walk_at "at")
  | ((with_reducible apply go_lenOL); walk_at "at")
  | ((with_reducible apply go_itL); walk_at "at")
  | ((with_reducible apply go_isiL); walk_at "at")
  | ((with_reducible apply go_isiO2); walk_at "at")
  | ((with_reducible apply go_tupL); walk_at "at")
  | ((with_reducible apply go_listL); walk_at "at")
  | ((with_reducible apply go_slL); walk_at "at")
  | ((with_reducible apply go_revL); walk_at "at")
  | ((with_reducible apply go_iRevL); walk_at "at")
  | ((with_reducible apply go_iEnumL); walk_at "at")
  | ((with_reducible apply go_truL); walk_at "at")
  | ((with_reducible apply go_meth); walk_at "at")
  | ((with_reducible apply go_put); (walk_at "at"); rfl; rfl)
  | ((with_reducible refine And.intro ?ty ?_); (case ty => first | ((with_reducible apply go_tyDT); walk_at "at") | ((with_reducible apply go_tyL); walk_at "at")))
  | ((with_reducible apply go_prop); walk_at "at"))
open DW PySem L2 in
local macro_rules | `(tactic| walk_at "au") => `(tactic| repeat (first | walk_at "dw1" | walk_at "dw2" | walk_at "sd1" | walk_at "go1" | walk_at "hp"))
open DW PySem L2 in
local macro_rules | `(tactic| walk_at "un") => `(tactic| simp only [w_fsC, w_fsN, true_and])
open DW PySem L2 in
local macro_rules | `(tactic| walk_at "uu") => `(tactic| repeat (first | walk_at "dw1" | walk_at "dw2" | walk_at "sd1" | walk_at "go1" | walk_at "hp" | walk_at "un"))

namespace Lk87
open PySem L2 DW
theorem law_rows_spec {ns : List Int} {n : Nat} {h : DH} {P : KD} {R : KX} (hn : n ≤ 1000) (ok : ∀ xs : List Int, xs.length = n → (∀ x ∈ xs, 0 ≤ x) → kNew (xs.map D.int) P h) : sp_law_rows [.rol (ns.map D.int), .int (n : Nat)] h P R := by
  unfold sp_law_rows t_law_rows
  walk_at "run"
  refine go_newE fun p hp => ?_
  walk_at "run"
  refine for_rng (fun k e h' => ∃ xs : List Int, ∃ x3 x4, xs.length = k ∧ (∀ x ∈ xs, 0 ≤ x) ∧ h' = up h p (.lst (xs.map D.int)) ∧ e = [some (.rol (ns.map D.int)), some (.int (n : Nat)), some (.ref p), x3, x4]) (fun k e h' X hk i next => ?_) (fun e h' i => ?_) _ _ ⟨[], _, _, rfl, (fun _ z => by cases z), rfl, rfl⟩
  · obtain ⟨xs, x3, x4, hx, h0, rfl, rfl⟩ := i
    have hkn : k < n := by omega
    walk_at "run"
    generalize hN : kNx _ _ = N
    have key : ∀ c : Int, N [some (.rol (ns.map D.int)), some (.int (n : Nat)), some (.ref p), some (.int (k : Nat)), some (.int c)] (up h p (.lst (xs.map D.int))) := by
      subst hN
      intro c
      walk_at "run"
      generalize hN : kNx _ _ = N
      have key : ∀ c : Int, 0 ≤ c → N [some (.rol (ns.map D.int)), some (.int (n : Nat)), some (.ref p), some (.int (k : Nat)), some (.int c)] (up h p (.lst (xs.map D.int))) := by
        subst hN
        intro c hc
        walk_at "run"
        generalize hN : kNx _ _ = N
        have key : ∀ c : Int, 0 ≤ c → N [some (.rol (ns.map D.int)), some (.int (n : Nat)), some (.ref p), some (.int (k : Nat)), some (.int c)] (up h p (.lst (xs.map D.int))) := by
          subst hN
          intro c hc
          walk_at "run"
          refine ⟨by rw [hx]; exact small1000 (by omega), ?_⟩
          refine next _ _ ⟨xs ++ [c], _, _, by simp [hx], fun x m => ?_, by simp, rfl⟩
          rcases List.mem_append.mp m with m | m
          · exact h0 x m
          · rw [List.mem_singleton.mp m]; exact hc
        walk_at "br"
        split
        · walk_at "run"
          refine key _ ?_
          omega
        · walk_at "run"
          exact key _ hc
      walk_at "br"
      split
      · walk_at "run"
        exact key _ (by omega)
      · walk_at "run"
        exact key _ (by omega)
    walk_at "br"
    split
    · rename_i hl
      walk_at "run"
      obtain ⟨c, e, _⟩ := atI_lt (xs := ns) (i := (k : Int) % (ns.length : Nat)) (Int.emod_nonneg _ (by omega)) (Int.emod_lt_of_pos _ (by omega))
      refine ⟨_, atI_map e, ?_⟩
      walk_at "run"
      exact key _
    · walk_at "run"
      exact key _
  · obtain ⟨xs, x3, x4, hx, h0, rfl, rfl⟩ := i
    walk_at "run"
    exact fgt (ok xs (by simpa using hx) h0 p hp)
/-! ### ways, flows -/
abbrev T3 := Int × Int × Int
abbrev Wy := Int × Int × Int × T3 × Int
instance : DecidableEq (T3) := fun a b => instDecidableEqProd a b
instance : DecidableEq (T3 × Int) := fun a b => instDecidableEqProd a b
instance : DecidableEq (Int × T3 × Int) := fun a b => instDecidableEqProd a b
instance : DecidableEq (Int × Int × T3 × Int) := fun a b => instDecidableEqProd a b
instance : DecidableEq Wy := fun a b => instDecidableEqProd a b
def wg (w : Wy) : Int := w.2.1
def wt (w : Wy) : Int := w.2.2.1
def wc (w : Wy) : Int := w.2.2.2.2
def dW (w : Wy) : D := .tup [.int w.1, .int (wg w), .int (wt w), .tup [.int w.2.2.2.1.1, .int w.2.2.2.1.2.1, .int w.2.2.2.1.2.2], .int (wc w)]
def pW (w : Wy) : PyData := .tuple [.int w.1, .int (wg w), .int (wt w), .tuple [.int w.2.2.2.1.1, .int w.2.2.2.1.2.1, .int w.2.2.2.1.2.2], .int (wc w)]
theorem da_W : Da dW pW 2 := by
  refine ⟨fun h m a l => ?_, fun a b => ?_⟩
  · match m, l with
    | m + 2, _ => simp [toPy, toPys, dW, pW]
  · obtain ⟨a1, a2, a3, ⟨a5, a6, a7⟩, a8⟩ := a
    obtain ⟨b1, b2, b3, ⟨b5, b6, b7⟩, b8⟩ := b
    simp [pW, wg, wt, wc, PyData.eqv, PyData.eqvAll, Prod.ext_iff]
abbrev Sp := Int × Int × Int × Int
def dS (s : Sp) : D := .tup [.int s.1, .int s.2.1, .int s.2.2.1, .int s.2.2.2]
/-- a step from q: place, sign, other, room -/
def Stp (ws : List Wy) (fs : List Int) (q : Int) (s : Sp) : Prop := ∃ (j : Nat) (w : Wy) (f : Int), ws[j]? = some w ∧ fs[j]? = some f ∧
  ((s = ((j : Int), 1, wt w, wc w - f) ∧ wg w = q ∧ f < wc w) ∨ (s = ((j : Int), -1, wg w, f) ∧ wt w = q ∧ 0 < f))
/-- what flows out of x, less what flows in -/
def out : List Wy → List Int → Int → Int
  | w :: ws, f :: fs, x => (if wg w = x then f else 0) - (if wt w = x then f else 0) + out ws fs x
  | _, _, _ => 0
theorem out_set : ∀ (ws : List Wy) (fs : List Int) (j : Nat) (w : Wy) (f d x : Int), ws[j]? = some w → fs[j]? = some f → out ws (fs.set j (f + d)) x = out ws fs x + ((if wg w = x then d else 0) - (if wt w = x then d else 0))
  | [], _, j, w, f, d, x, h, _ => by cases h
  | v :: ws, [], j, w, f, d, x, _, h => by cases h
  | v :: ws, g :: fs, 0, w, f, d, x, h1, h2 => by
    cases h1; cases h2
    show (if wg v = x then g + d else 0) - (if wt v = x then g + d else 0) + out ws fs x = (if wg v = x then g else 0) - (if wt v = x then g else 0) + out ws fs x + _
    by_cases a : wg v = x <;> by_cases b : wt v = x <;> simp only [a, b, if_true, if_false] <;> omega
  | v :: ws, g :: fs, j + 1, w, f, d, x, h1, h2 => by
    have ih := out_set ws fs j w f d x h1 h2
    show (if wg v = x then g else 0) - (if wt v = x then g else 0) + out ws (fs.set j (f + d)) x = (if wg v = x then g else 0) - (if wt v = x then g else 0) + out ws fs x + _
    rw [ih]; omega
def Bd (ws : List Wy) (fs : List Int) : Prop := fs.length = ws.length ∧ ∀ (j : Nat) (w : Wy) (f : Int), ws[j]? = some w → fs[j]? = some f → 0 ≤ f ∧ f ≤ wc w
def caps (ws : List Wy) : Int := (ws.map wc).sum
theorem out_le : ∀ (ws : List Wy) (fs : List Int) (x : Int), (∀ (j : Nat) (w : Wy) (f : Int), ws[j]? = some w → fs[j]? = some f → 0 ≤ f ∧ f ≤ wc w) → (∀ w ∈ ws, 0 ≤ wc w) → out ws fs x ≤ caps ws
  | [], _, x, _, _ => by simp [out, caps]
  | w :: ws, [], x, _, c => by
    show (0 : Int) ≤ _
    unfold caps
    have : ∀ l : List Wy, (∀ w ∈ l, 0 ≤ wc w) → 0 ≤ (l.map wc).sum := by
      intro l
      induction l with
      | nil => simp
      | cons a l ih => intro h; rw [List.map_cons, List.sum_cons]; have := ih fun w hw => h w (List.mem_cons_of_mem _ hw); have := h a (List.mem_cons_self ..); omega
    exact this _ c
  | w :: ws, f :: fs, x, b, c => by
    have ih := out_le ws fs x (fun j w f h1 h2 => b (j + 1) w f h1 h2) fun w hw => c w (List.mem_cons_of_mem _ hw)
    obtain ⟨b1, b2⟩ := b 0 w f rfl rfl
    show (if wg w = x then f else 0) - (if wt w = x then f else 0) + out ws fs x ≤ caps (w :: ws)
    have : caps (w :: ws) = wc w + caps ws := by unfold caps; rw [List.map_cons, List.sum_cons]
    rw [this]
    by_cases a : wg w = x <;> by_cases b : wt w = x <;> simp only [a, b, if_true, if_false] <;> omega
/-- what an augmenting chain may be: steps down to s; r the rank of a party -/
inductive Chn (ws : List Wy) (fs : List Int) (s : Int) (r : Int → Nat) : Int → List Sp → Prop
  | nil : Chn ws fs s r s []
  | cons {p q : Int} {st : Sp} {ss : List Sp} : Stp ws fs q st → st.2.2.1 = p → r q < r p → r s < r p → Chn ws fs s r q ss → Chn ws fs s r p (st :: ss)
section
variable {ws : List Wy} {fs : List Int} {s : Int} {r : Int → Nat} {p : Int} {ss : List Sp}
theorem Chn.low (c : Chn ws fs s r p ss) : ∀ st ∈ ss, ∃ q, Stp ws fs q st ∧ r st.2.2.1 ≤ r p ∧ r q < r st.2.2.1 ∧ r s < r st.2.2.1 := by
  induction c with
  | nil => intro st h; cases h
  | @cons p q st ss h1 h2 h3 h4 c ih =>
    intro z hz
    rcases List.mem_cons.mp hz with e | hz
    · subst e
      exact ⟨q, h1, by rw [h2]; exact Nat.le_refl _, by rw [h2]; exact h3, by rw [h2]; exact h4⟩
    · obtain ⟨q', k1, k2, k3, k4⟩ := ih z hz
      exact ⟨q', k1, by omega, k3, k4⟩
/-- no place twice -/
theorem Chn.nd (c : Chn ws fs s r p ss) : (ss.map (·.1)).Nodup := by
  induction c with
  | nil => exact List.nodup_nil
  | @cons p q st ss h1 h2 h3 h4 c ih =>
    rw [List.map_cons, List.nodup_cons]
    refine ⟨fun z => ?_, ih⟩
    obtain ⟨st', hs, e⟩ := List.mem_map.mp z
    obtain ⟨q', k1, k2, k3, k4⟩ := c.low st' hs
    obtain ⟨j, w, f, e1, e2, e3⟩ := h1
    obtain ⟨j', w', f', e4, e5, e6⟩ := k1
    have ej : j = j' := by
      have a1 : st.1 = j := by rcases e3 with ⟨e, _⟩ | ⟨e, _⟩ <;> rw [e]
      have a2 : st'.1 = j' := by rcases e6 with ⟨e, _⟩ | ⟨e, _⟩ <;> rw [e]
      rw [a1, a2] at e
      omega
    subst ej
    rw [e1] at e4
    rw [e2] at e5
    cases e4; cases e5
    rcases e3 with ⟨a, b, _⟩ | ⟨a, b, _⟩ <;> rcases e6 with ⟨a', b', _⟩ | ⟨a', b', _⟩
    · rw [a] at h2; rw [a'] at k2; simp only at h2 k2; rw [h2] at k2; omega
    · rw [a] at h2; rw [a'] at k2 k3; simp only at h2 k2 k3; rw [← b', h2, b] at k3; omega
    · rw [a] at h2; rw [a'] at k2 k3; simp only at h2 k2 k3; rw [← b', h2, b] at k3; omega
    · rw [a] at h2; rw [a'] at k2; simp only at h2 k2; rw [h2] at k2; omega
end
/-- a is pushed along the steps -/
def app (a : Int) (fs : List Int) (ss : List Sp) : List Int := ss.foldl (fun fs st => fs.set st.1.toNat (fs.getD st.1.toNat 0 + st.2.1 * a)) fs
theorem app_len {a : Int} : ∀ {ss : List Sp} {fs : List Int}, (app a fs ss).length = fs.length
  | [], fs => rfl
  | st :: ss, fs => by
    show (app a _ ss).length = _
    rw [app_len, List.length_set]
section
variable {ws : List Wy} {s : Int} {r : Int → Nat} {a : Int}
theorem Stp.congr {fs fs' : List Int} {q : Int} {st : Sp} (h : Stp ws fs q st) (e : ∀ j : Nat, st.1 = (j : Int) → fs'[j]? = fs[j]?) : Stp ws fs' q st := by
  obtain ⟨j, w, f, e1, e2, e3⟩ := h
  have a1 : st.1 = j := by rcases e3 with ⟨e, _⟩ | ⟨e, _⟩ <;> rw [e]
  exact ⟨j, w, f, e1, by rw [e j a1]; exact e2, e3⟩
theorem Chn.congr {fs fs' : List Int} {p : Int} {ss : List Sp} (c : Chn ws fs s r p ss) (e : ∀ st ∈ ss, ∀ j : Nat, st.1 = (j : Int) → fs'[j]? = fs[j]?) : Chn ws fs' s r p ss := by
  induction c with
  | nil => exact .nil
  | @cons p q st ss h1 h2 h3 h4 c ih =>
    exact .cons (h1.congr (e st (List.mem_cons_self ..))) h2 h3 h4 (ih fun z hz => e z (List.mem_cons_of_mem _ hz))
/-- one step, seen from its place -/
theorem Stp.one {fs : List Int} {q : Int} {st : Sp} (h : Stp ws fs q st) : ∃ (j : Nat) (w : Wy) (f : Int), ws[j]? = some w ∧ fs[j]? = some f ∧ st.1.toNat = j ∧ st.1 = j ∧ fs.getD st.1.toNat 0 = f ∧
    ((st.2.1 = 1 ∧ st.2.2.1 = wt w ∧ st.2.2.2 = wc w - f ∧ wg w = q ∧ f < wc w) ∨ (st.2.1 = -1 ∧ st.2.2.1 = wg w ∧ st.2.2.2 = f ∧ wt w = q ∧ 0 < f)) := by
  obtain ⟨j, w, f, e1, e2, e3⟩ := h
  have a1 : st.1 = j := by rcases e3 with ⟨e, _⟩ | ⟨e, _⟩ <;> rw [e]
  refine ⟨j, w, f, e1, e2, by omega, a1, ?_, ?_⟩
  · rw [a1, Int.toNat_natCast, List.getD_eq_getElem?_getD, e2]; rfl
  · rcases e3 with ⟨e, b, c⟩ | ⟨e, b, c⟩
    · left; rw [e]; exact ⟨rfl, rfl, rfl, b, c⟩
    · right; rw [e]; exact ⟨rfl, rfl, rfl, b, c⟩
theorem Stp.room {fs : List Int} {q : Int} {st : Sp} (h : Stp ws fs q st) : 1 ≤ st.2.2.2 := by
  obtain ⟨j, w, f, e1, e2, e3, e4, e5, e6⟩ := h.one
  rcases e6 with ⟨_, _, a, _, b⟩ | ⟨_, _, a, _, b⟩ <;> omega
theorem app_cons {fs : List Int} {st : Sp} {ss : List Sp} : app a fs (st :: ss) = app a (fs.set st.1.toNat (fs.getD st.1.toNat 0 + st.2.1 * a)) ss := rfl
/-- behind the first step the rest is a chain still -/
theorem Chn.next {fs : List Int} {p q : Int} {st : Sp} {ss : List Sp} {v : Int} (n : ((st :: ss).map (·.1)).Nodup) (h1 : Stp ws fs q st) (c : Chn ws fs s r q ss) : Chn ws (fs.set st.1.toNat v) s r q ss := by
  refine c.congr fun z hz j e => ?_
  rw [List.map_cons, List.nodup_cons] at n
  obtain ⟨i, w, f, e1, e2, e3, e4, e5, e6⟩ := h1.one
  rw [List.getElem?_set_ne]
  intro x
  exact n.1 (List.mem_map.mpr ⟨z, hz, by rw [e, ← x, e4]; omega⟩)
theorem app_out {x : Int} : ∀ {ss : List Sp} {fs : List Int} {p : Int}, Chn ws fs s r p ss → out ws (app a fs ss) x = out ws fs x + (if s = x then a else 0) - (if p = x then a else 0)
  | _, fs, _, .nil => by
    show out ws fs x = _
    omega
  | _, fs, p, .cons (st := st) (ss := ss) (q := q) h1 h2 h3 h4 c => by
    have n := (Chn.cons h1 h2 h3 h4 c).nd
    have c' := c.next (p := p) (v := fs.getD st.1.toNat 0 + st.2.1 * a) n h1
    rw [app_cons, app_out c']
    obtain ⟨j, w, f, e1, e2, e3, e4, e5, e6⟩ := h1.one
    rw [e5, e3, out_set ws fs j w f _ x e1 e2]
    rcases e6 with ⟨a1, a2, a3, a4, a5⟩ | ⟨a1, a2, a3, a4, a5⟩
    · rw [a1, Int.one_mul, a4, ← a2, h2]; omega
    · rw [a1, a4, ← a2, h2]
      have : -1 * a = -a := by omega
      rw [this]
      by_cases u : q = x <;> by_cases v : p = x <;> simp only [u, v, if_true, if_false] <;> omega
theorem app_bd : ∀ {ss : List Sp} {fs : List Int} {p : Int}, Chn ws fs s r p ss → Bd ws fs → 0 ≤ a → (∀ st ∈ ss, a ≤ st.2.2.2) → Bd ws (app a fs ss)
  | _, fs, _, .nil, b, _, _ => b
  | _, fs, p, .cons (st := st) (ss := ss) (q := q) h1 h2 h3 h4 c, b, a0, ha => by
    have n := (Chn.cons h1 h2 h3 h4 c).nd
    have c' := c.next (p := p) (v := fs.getD st.1.toNat 0 + st.2.1 * a) n h1
    rw [app_cons]
    refine app_bd c' ⟨by rw [List.length_set]; exact b.1, fun i w f k1 k2 => ?_⟩ a0 fun z hz => ha z (List.mem_cons_of_mem _ hz)
    obtain ⟨j, w', f', e1, e2, e3, e4, e5, e6⟩ := h1.one
    have ra := ha st (List.mem_cons_self ..)
    rw [e3] at k2
    by_cases z : j = i
    · subst z
      rw [List.getElem?_set_self (List.getElem?_eq_some_iff.mp e2).1, ← e3, e5] at k2
      cases k2
      rw [e1] at k1
      cases k1
      have := b.2 j w f' e1 e2
      rcases e6 with ⟨a1, a2, a3, a4, a5⟩ | ⟨a1, a2, a3, a4, a5⟩
      · rw [a1, Int.one_mul]; omega
      · rw [a1]; omega
    · rw [List.getElem?_set_ne z] at k2
      exact b.2 i w f k1 k2
/-- nothing flows into s or out of t -/
def Zr (ws : List Wy) (fs : List Int) (s t : Int) : Prop := ∀ (j : Nat) (w : Wy) (f : Int), ws[j]? = some w → fs[j]? = some f → wg w ≠ wt w → wt w = s ∨ wg w = t → f = 0
theorem app_zr {t : Int} : ∀ {ss : List Sp} {fs : List Int} {p : Int}, Chn ws fs s r p ss → r p ≤ r t → Zr ws fs s t → Zr ws (app a fs ss) s t
  | _, fs, _, .nil, _, z => z
  | _, fs, p, .cons (st := st) (ss := ss) (q := q) h1 h2 h3 h4 c, hp, z => by
    have n := (Chn.cons h1 h2 h3 h4 c).nd
    have c' := c.next (p := p) (v := fs.getD st.1.toNat 0 + st.2.1 * a) n h1
    rw [app_cons]
    refine app_zr c' (by omega) fun i w f k1 k2 k3 k4 => ?_
    obtain ⟨j, w', f', e1, e2, e3, e4, e5, e6⟩ := h1.one
    rw [e3] at k2
    by_cases y : j = i
    · subst y
      rw [e1] at k1
      cases k1
      exfalso
      have f0 := z j w f' e1 e2 k3 k4
      rcases e6 with ⟨a1, a2, a3, a4, a5⟩ | ⟨a1, a2, a3, a4, a5⟩
      · rcases k4 with k4 | k4
        · rw [a2, k4] at h2; rw [h2] at h4; omega
        · rw [a4] at k4; rw [k4] at h3; omega
      · omega
    · rw [List.getElem?_set_ne y] at k2
      exact z i w f k1 k2 k3 k4
/-! ### cuts -/
theorem sum_out : ∀ (ws : List Wy) (fs : List Int) (S : List Int), S.Nodup → fs.length = ws.length → (S.map (out ws fs)).sum = (List.zipWith (fun w f => (if wg w ∈ S then f else 0) - (if wt w ∈ S then f else 0)) ws fs).sum := by
  have one : ∀ (g f : Int) (S : List Int), S.Nodup → (S.map fun x => if g = x then f else 0).sum = if g ∈ S then f else 0 := by
    intro g f S n
    induction S with
    | nil => rfl
    | cons x S ih =>
      rw [List.nodup_cons] at n
      rw [List.map_cons, List.sum_cons, ih n.2]
      by_cases e : g = x
      · subst e
        rw [if_pos rfl, if_neg n.1, if_pos (List.mem_cons_self ..)]; omega
      · rw [if_neg e]
        by_cases m : g ∈ S
        · rw [if_pos m, if_pos (List.mem_cons_of_mem _ m)]; omega
        · rw [if_neg m, if_neg (fun z => (List.mem_cons.mp z).elim e m)]; omega
  intro ws
  induction ws with
  | nil =>
    intro fs S n h
    cases fs with
    | cons _ _ => simp at h
    | nil =>
      show (S.map fun _ => (0 : Int)).sum = 0
      induction S with
      | nil => rfl
      | cons x S ih => rw [List.map_cons, List.sum_cons, ih (List.nodup_cons.mp n).2]; rfl
  | cons w ws ih =>
    intro fs S n h
    cases fs with
    | nil => simp at h
    | cons f fs =>
      have e : (S.map (out (w :: ws) (f :: fs))).sum = (S.map fun x => if wg w = x then f else 0).sum - (S.map fun x => if wt w = x then f else 0).sum + (S.map (out ws fs)).sum := by
        clear n
        induction S with
        | nil => rfl
        | cons x S ih2 =>
          simp only [List.map_cons, List.sum_cons]
          rw [ih2]
          show (if wg w = x then f else 0) - (if wt w = x then f else 0) + out ws fs x + _ = _
          omega
      rw [e, one _ _ _ n, one _ _ _ n, ih fs S n (by simpa using h), List.zipWith_cons_cons, List.sum_cons]
/-- a side: closed for steps -/
structure Side (ws : List Wy) (fs : List Int) (s t : Int) (S : List Int) : Prop where
  nd : S.Nodup
  s : s ∈ S
  t : t ∉ S
  full : ∀ (j : Nat) (w : Wy) (f : Int), ws[j]? = some w → fs[j]? = some f → wg w ∈ S → wt w ∉ S → f = wc w
  none : ∀ (j : Nat) (w : Wy) (f : Int), ws[j]? = some w → fs[j]? = some f → wg w ∉ S → wt w ∈ S → f = 0
structure Flw (ws : List Wy) (fs : List Int) (s t : Int) (v : Int) : Prop where
  b : Bd ws fs
  c : ∀ x, x ≠ s → x ≠ t → out ws fs x = 0
  v : out ws fs s = v
theorem flw_sum {fs : List Int} {t v : Int} {S : List Int} (F : Flw ws fs s t v) (n : S.Nodup) (hs : s ∈ S) (ht : t ∉ S) : (S.map (out ws fs)).sum = v := by
  have key : ∀ S : List Int, S.Nodup → t ∉ S → (S.map (out ws fs)).sum = if s ∈ S then v else 0 := by
    intro S
    induction S with
    | nil => intro _ _; rfl
    | cons x S ih =>
      intro n ht
      rw [List.nodup_cons] at n
      rw [List.map_cons, List.sum_cons, ih n.2 fun z => ht (List.mem_cons_of_mem _ z)]
      by_cases e : s = x
      · subst e
        rw [F.v, if_neg n.1, if_pos (List.mem_cons_self ..)]; omega
      · rw [F.c x (Ne.symm e) fun z => ht (by rw [← z]; exact List.mem_cons_self ..)]
        by_cases m : s ∈ S
        · rw [if_pos m, if_pos (List.mem_cons_of_mem _ m)]; omega
        · rw [if_neg m, if_neg (fun z => (List.mem_cons.mp z).elim e m)]; omega
  rw [key S n ht, if_pos hs]
theorem cut_le {fs fs' : List Int} {t v v' : Int} {S : List Int} (F : Flw ws fs s t v) (C : Side ws fs s t S) (F' : Flw ws fs' s t v') : v' ≤ v := by
  rw [← flw_sum F C.nd C.s C.t, ← flw_sum F' C.nd C.s C.t, sum_out ws fs S C.nd F.b.1, sum_out ws fs' S C.nd F'.b.1]
  have key : ∀ (ws : List Wy) (fs fs' : List Int), fs.length = ws.length → fs'.length = ws.length → (∀ (j : Nat) (w : Wy) (f f' : Int), ws[j]? = some w → fs[j]? = some f → fs'[j]? = some f' →
      (if wg w ∈ S then f' else 0) - (if wt w ∈ S then f' else 0) ≤ (if wg w ∈ S then f else 0) - (if wt w ∈ S then f else 0)) →
      (List.zipWith (fun w f => (if wg w ∈ S then f else 0) - (if wt w ∈ S then f else 0)) ws fs').sum ≤ (List.zipWith (fun w f => (if wg w ∈ S then f else 0) - (if wt w ∈ S then f else 0)) ws fs).sum := by
    intro ws
    induction ws with
    | nil => intro fs fs' h1 h2 _; cases fs <;> cases fs' <;> simp at h1 h2 ⊢
    | cons w ws ih =>
      intro fs fs' h1 h2 h
      cases fs with
      | nil => simp at h1
      | cons f fs =>
        cases fs' with
        | nil => simp at h2
        | cons f' fs' =>
          have := ih fs fs' (by simpa using h1) (by simpa using h2) fun j w f f' a b c => h (j + 1) w f f' a b c
          have h0 := h 0 w f f' rfl rfl rfl
          simp only [List.zipWith_cons_cons, List.sum_cons]
          omega
  refine key ws fs fs' F.b.1 F'.b.1 fun j w f f' a b c => ?_
  have b1 := F.b.2 j w f a b
  have b2 := F'.b.2 j w f' a c
  by_cases m1 : wg w ∈ S <;> by_cases m2 : wt w ∈ S <;> simp only [m1, m2, if_true, if_false]
  · omega
  · have := C.full j w f a b m1 m2; omega
  · have := C.none j w f a b m1 m2; omega
  · omega
end
section
variable {h : DH} {P : KD} {R : KX} {a b c : Addr} {ws : List Wy} {fs : List Int} {s t p : Int}
theorem enumD_map {α : Type} {f : α → D} {xs : List α} : enumD (xs.map f) = ((List.range xs.length).zip xs).map fun q => D.tup [.int (q.1 : Nat), f q.2] := by
  unfold enumD
  rw [List.length_map, List.zip_map_right, List.map_map]
  rfl
theorem mem_enum {α : Type} {xs : List α} {q : Nat × α} : q ∈ (List.range xs.length).zip xs ↔ xs[q.1]? = some q.2 := by
  obtain ⟨i, x⟩ := q
  rw [List.mem_iff_getElem?]
  constructor
  · rintro ⟨j, e⟩
    rw [List.getElem?_zip_eq_some] at e
    obtain ⟨e1, e2⟩ := e
    have := List.getElem?_eq_some_iff.mp e1
    obtain ⟨l, e3⟩ := this
    rw [List.getElem_range] at e3
    simp only at e3 ⊢
    rw [← e3]; exact e2
  · intro e
    refine ⟨i, ?_⟩
    rw [List.getElem?_zip_eq_some]
    have l := (List.getElem?_eq_some_iff.mp e).1
    exact ⟨List.getElem?_range l, e⟩
theorem atI_i {xs : List Int} {j : Nat} {x : Int} (e : xs[j]? = some x) : L2.atI (xs.map D.int) (j : Int) = some (.int x) := atI_of rfl (by rw [List.getElem?_map, e]; rfl)
theorem steps_spec (ha : h a = some (.lst (ws.map dW))) (hb : h b = some (.lst (fs.map D.int))) (hl : fs.length = ws.length) (hw : ws.length ≤ 100)
    (ok : ∀ L : List Sp, (∀ st, st ∈ L ↔ Stp ws fs p st) → L.length ≤ 200 → kNew (L.map dS) P h) : sp_steps_from [.ref a, .ref b, .int p] h P R := by
  unfold sp_steps_from t_steps_from
  walk_at "au"
  refine go_newE fun q fq => ?_
  have naq := ne_new ha fq
  have nbq := ne_new hb fq
  walk_at "au"
  rw [enumD_map]
  refine for_ind (fun rem e h' => ∃ pre rest x4 x5, ∃ L : List Sp, (List.range ws.length).zip ws = pre ++ rest ∧ rem = rest.map (fun q => D.tup [.int (q.1 : Nat), dW q.2]) ∧ (∀ st, st ∈ L ↔ ∃ q ∈ pre, ∃ f, fs[q.1]? = some f ∧ ((st = ((q.1 : Int), 1, wt q.2, wc q.2 - f) ∧ wg q.2 = p ∧ f < wc q.2) ∨ (st = ((q.1 : Int), -1, wg q.2, f) ∧ wt q.2 = p ∧ 0 < f))) ∧ L.length ≤ 2 * pre.length ∧
      h' = up h q (.lst (L.map dS)) ∧ e = [some (.ref a), some (.ref b), some (.int p), some (.ref q), x4, x5]) (fun g r e h' X i next => ?_) (fun e h' i => ?_) _ _ _ ⟨[], _, none, none, [], rfl, rfl, fun st => by simp, Nat.le_refl _, rfl, rfl⟩
  · obtain ⟨pre, rest, x4, x5, L, ez, er, mL, lL, rfl, rfl⟩ := i
    cases rest with
    | nil => cases er
    | cons g rest =>
      obtain ⟨rfl, rfl⟩ := List.cons.inj er
      refine ⟨up_neq naq ha, ?_⟩
      have zl : pre.length + (rest.length + 1) = ws.length := by
        have := congrArg List.length ez
        simp at this; omega
      have gm : ws[g.1]? = some g.2 := mem_enum.mp (by rw [ez]; simp)
      have gl := (List.getElem?_eq_some_iff.mp gm).1
      obtain ⟨f, ef⟩ : ∃ f, fs[g.1]? = some f := ⟨_, List.getElem?_eq_getElem (by omega)⟩
      obtain ⟨gi, w⟩ := g
      simp only at gm gl ef
      have nx : ∀ L' : List Sp, (∀ st, st ∈ L' ↔ st ∈ L ∨ (st = ((gi : Int), 1, wt w, wc w - f) ∧ wg w = p ∧ f < wc w) ∨ (st = ((gi : Int), -1, wg w, f) ∧ wt w = p ∧ 0 < f)) → L'.length ≤ L.length + 2 →
          X [some (.ref a), some (.ref b), some (.int p), some (.ref q), some (.int (gi : Nat)), some (dW w)] (up h q (.lst (L'.map dS))) := fun L' m l => by
        refine next _ _ ⟨pre ++ [(gi, w)], rest, _, _, L', by rw [ez]; simp, rfl, fun st => ?_, by rw [List.length_append]; simp; omega, rfl, rfl⟩
        rw [m, mL]
        constructor
        · rintro (⟨q, hq, z⟩ | z)
          · exact ⟨q, List.mem_append_left _ hq, z⟩
          · exact ⟨(gi, w), List.mem_append_right _ (List.mem_singleton.mpr rfl), f, ef, z⟩
        · rintro ⟨q, hq, z⟩
          rcases List.mem_append.mp hq with hq | hq
          · exact .inl ⟨q, hq, z⟩
          · rw [List.mem_singleton.mp hq] at z
            obtain ⟨f', e', z⟩ := z
            simp only at e'
            rw [ef] at e'
            cases e'
            exact .inr z
      have lz : ∀ n : Nat, n ≤ L.length + 1 → n < sizeLine := fun n hn => small1000 (by omega)
      have ew : dW w = .tup [.int w.1, .int (wg w), .int (wt w), .tup [.int w.2.2.2.1.1, .int w.2.2.2.1.2.1, .int w.2.2.2.1.2.2], .int (wc w)] := rfl
      have hb' : ∀ L' : List Sp, up h q (.lst (L'.map dS)) b = some (.lst (fs.map D.int)) := fun _ => up_neq nbq hb
      simp only [ew] at nx ⊢
      walk_at "au"
      generalize hN : kNx _ _ = N
      have key : ∀ L' : List Sp, (∀ st, st ∈ L' ↔ st ∈ L ∨ (st = ((gi : Int), 1, wt w, wc w - f) ∧ wg w = p ∧ f < wc w)) → L'.length ≤ L.length + 1 →
          N [some (.ref a), some (.ref b), some (.int p), some (.ref q), some (.int (gi : Nat)), some (.tup [.int w.1, .int (wg w), .int (wt w), .tup [.int w.2.2.2.1.1, .int w.2.2.2.1.2.1, .int w.2.2.2.1.2.2], .int (wc w)])] (up h q (.lst (L'.map dS))) := by
        subst hN
        intro L' mL' lL'
        have hb2 := hb' L'
        walk_at "au"
        split
        · rename_i z1
          walk_at "au"
          refine go_at (atI_i ef) ?_
          walk_at "au"
          walk_at "br"
          split
          · rename_i z2
            walk_at "au"
            refine go_at (atI_i ef) ?_
            walk_at "au"
            refine ⟨lz _ lL', ?_⟩
            have := nx (L' ++ [((gi : Int), -1, wg w, f)]) (fun st => ?_) (by rw [List.length_append]; simp; omega)
            · rw [List.map_append] at this
              exact this
            · rw [List.mem_append, mL', List.mem_singleton]
              constructor
              · rintro ((z | z) | z)
                · exact .inl z
                · exact .inr (.inl z)
                · exact .inr (.inr ⟨z, of_decide_eq_true z1, z2⟩)
              · rintro (z | z | z)
                · exact .inl (.inl z)
                · exact .inl (.inr z)
                · exact .inr z.1
          · rename_i z2
            walk_at "au"
            refine nx L' (fun st => ?_) (by omega)
            rw [mL']
            constructor
            · rintro (z | z)
              · exact .inl z
              · exact .inr (.inl z)
            · rintro (z | z | z)
              · exact .inl z
              · exact .inr z
              · exact absurd z.2.2 z2
        · rename_i z1
          refine nx L' (fun st => ?_) (by omega)
          rw [mL']
          constructor
          · rintro (z | z)
            · exact .inl z
            · exact .inr (.inl z)
          · rintro (z | z | z)
            · exact .inl z
            · exact .inr z
            · exact absurd (decide_eq_true z.2.1) z1
      split
      · rename_i z1
        have hb2 := hb' L
        walk_at "au"
        refine go_at (atI_i ef) ?_
        walk_at "au"
        walk_at "br"
        split
        · rename_i z2
          walk_at "au"
          refine go_at (atI_i ef) ?_
          walk_at "au"
          refine ⟨lz _ (by omega), ?_⟩
          have := key (L ++ [((gi : Int), 1, wt w, wc w - f)]) (fun st => ?_) (by rw [List.length_append]; simp)
          · rw [List.map_append] at this
            exact this
          · rw [List.mem_append, List.mem_singleton]
            constructor
            · rintro (z | z)
              · exact .inl z
              · exact .inr ⟨z, of_decide_eq_true z1, z2⟩
            · rintro (z | z)
              · exact .inl z
              · exact .inr z.1
        · rename_i z2
          walk_at "au"
          refine key L (fun st => ?_) (by omega)
          exact ⟨.inl, fun z => z.elim id fun z => absurd z.2.2 z2⟩
      · rename_i z1
        refine key L (fun st => ?_) (by omega)
        exact ⟨.inl, fun z => z.elim id fun z => absurd (decide_eq_true z.2.1) z1⟩
  · obtain ⟨pre, rest, x4, x5, L, ez, er, mL, lL, rfl, rfl⟩ := i
    cases rest with
    | cons g rest => cases er
    | nil =>
      rw [List.append_nil] at ez
      refine ⟨up_neq naq ha, ?_⟩
      walk_at "au"
      refine fgt (ok L (fun st => ?_) ?_ q fq)
      · rw [mL]
        constructor
        · rintro ⟨q, hq, f, e1, e2⟩
          rw [← ez] at hq
          exact ⟨q.1, q.2, f, mem_enum.mp hq, e1, e2⟩
        · rintro ⟨j, w, f, e1, e2, e3⟩
          exact ⟨(j, w), by rw [← ez]; exact mem_enum.mpr e1, f, e2, e3⟩
      · have := congrArg List.length ez
        simp at this; omega
end
abbrev Ce := Int × Option (Int × Sp)
def dC : Option (Int × Sp) → D
  | none => .non
  | some e => .tup [.int e.1, dS e.2]
def kvC (e : Ce) : Key × D := (.inl e.1, dC e.2)
def ks (cm : List Ce) : List Int := cm.map (·.1)
/-- where the search came to: n parties are done -/
structure Cm (ws : List Wy) (fs : List Int) (s : Int) (cm : List Ce) (n : Nat) : Prop where
  nd : (ks cm).Nodup
  hd : ∃ rest : List Ce, cm = (s, none) :: rest ∧ ∀ e ∈ rest, e.2 ≠ none
  st : ∀ (i : Nat) (p q : Int) (st : Sp), cm[i]? = some (p, some (q, st)) → Stp ws fs q st ∧ st.2.2.1 = p ∧ ∃ j, j < i ∧ (ks cm)[j]? = some q
  cl : ∀ (i : Nat) (q : Int), i < n → (ks cm)[i]? = some q → ∀ st, Stp ws fs q st → st.2.2.1 ∈ ks cm
  pl : ∀ p ∈ ks cm, p = s ∨ ∃ w ∈ ws, p = wg w ∨ p = wt w
  nl : n ≤ cm.length
section
variable {ws : List Wy} {fs : List Int} {s t : Int} {cm : List Ce} {n : Nat}
theorem Cm.len (c : Cm ws fs s cm n) : cm.length ≤ 2 * ws.length + 1 := by
  have : (ks cm).length ≤ (s :: (ws.map wg ++ ws.map wt)).length := List.Nodup.length_le_of_subset c.nd fun p hp => by
    rcases c.pl p hp with e | ⟨w, hw, e | e⟩
    · rw [e]; exact List.mem_cons_self ..
    · rw [e]; exact List.mem_cons_of_mem _ (List.mem_append_left _ (List.mem_map.mpr ⟨w, hw, rfl⟩))
    · rw [e]; exact List.mem_cons_of_mem _ (List.mem_append_right _ (List.mem_map.mpr ⟨w, hw, rfl⟩))
  unfold ks at this
  simp at this
  omega
theorem Cm.new : Cm ws fs s [(s, none)] 0 := ⟨by simp [ks], ⟨[], rfl, fun _ z => by cases z⟩, fun i p q st e => by
  cases i with
  | zero => cases e
  | succ i => simp at e, fun i q h => by omega, fun p hp => by simp [ks] at hp; exact .inl hp, Nat.zero_le _⟩
theorem stp_pl {q : Int} {st : Sp} (h : Stp ws fs q st) : ∃ w ∈ ws, st.2.2.1 = wg w ∨ st.2.2.1 = wt w := by
  obtain ⟨j, w, f, e1, e2, e3, e4, e5, e6⟩ := h.one
  refine ⟨w, List.mem_of_getElem? e1, ?_⟩
  rcases e6 with ⟨_, a, _⟩ | ⟨_, a, _⟩
  · exact .inr a
  · exact .inl a
theorem Cm.add {i : Nat} {q : Int} {st : Sp} (c : Cm ws fs s cm n) (hq : (ks cm)[i]? = some q) (h : Stp ws fs q st) (hn : st.2.2.1 ∉ ks cm) : Cm ws fs s (cm ++ [(st.2.2.1, some (q, st))]) n := by
  have ek : ks (cm ++ [(st.2.2.1, some (q, st))]) = ks cm ++ [st.2.2.1] := by unfold ks; rw [List.map_append]; rfl
  have lk : (ks cm).length = cm.length := by unfold ks; rw [List.length_map]
  refine ⟨?_, ?_, fun k p q' st' e => ?_, fun k q' hk e st' h' => ?_, fun p hp => ?_, by have := c.nl; simp; omega⟩
  · rw [ek, List.nodup_append]
    refine ⟨c.nd, by simp, fun a ha b hb e => ?_⟩
    rw [List.mem_singleton.mp hb] at e
    exact hn (e ▸ ha)
  · obtain ⟨rest, e, hr⟩ := c.hd
    refine ⟨rest ++ [(st.2.2.1, some (q, st))], by rw [e]; rfl, fun x hx => ?_⟩
    rcases List.mem_append.mp hx with hx | hx
    · exact hr x hx
    · rw [List.mem_singleton.mp hx]; simp
  · by_cases z : k < cm.length
    · rw [List.getElem?_append_left z] at e
      obtain ⟨a, b, j, hj, ej⟩ := c.st k p q' st' e
      refine ⟨a, b, j, hj, ?_⟩
      rw [ek, List.getElem?_append_left (by rw [lk]; omega)]
      exact ej
    · have hk : k = cm.length := by
        have := (List.getElem?_eq_some_iff.mp e).1
        simp at this; omega
      subst hk
      rw [List.getElem?_append_right (Nat.le_refl _), Nat.sub_self] at e
      cases e
      refine ⟨h, rfl, i, ?_, ?_⟩
      · rw [← lk]; exact (List.getElem?_eq_some_iff.mp hq).1
      · rw [ek, List.getElem?_append_left (List.getElem?_eq_some_iff.mp hq).1]; exact hq
  · rw [ek] at e ⊢
    by_cases z : k < (ks cm).length
    · rw [List.getElem?_append_left z] at e
      exact List.mem_append_left _ (c.cl k q' hk e st' h')
    · have := c.nl; omega
  · rw [ek] at hp
    rcases List.mem_append.mp hp with hp | hp
    · exact c.pl p hp
    · rw [List.mem_singleton.mp hp]
      obtain ⟨w, hw, e⟩ := stp_pl h
      exact .inr ⟨w, hw, e⟩
end
theorem valC {cm : List Ce} {p : Int} {o : Option (Int × Sp)} (nd : (ks cm).Nodup) (m : (p, o) ∈ cm) : valD (cm.map kvC) (.inl p) = some (dC o) := by
  refine valD_mem ?_ (List.mem_map.mpr ⟨(p, o), m, rfl⟩)
  have e : (cm.map kvC).map (·.1) = (ks cm).map Sum.inl := by unfold ks; rw [List.map_map, List.map_map]; rfl
  rw [e]
  unfold List.Nodup at nd ⊢
  rw [List.pairwise_map]
  exact nd.imp fun n z => n (Sum.inl.inj z)
theorem valC_none {cm : List Ce} {p : Int} (h : p ∉ ks cm) : valD (cm.map kvC) (.inl p) = none := by
  refine valD_none fun z => ?_
  rw [List.map_map] at z
  obtain ⟨e, he, e2⟩ := List.mem_map.mp z
  exact h (List.mem_map.mpr ⟨e, he, Sum.inl.inj e2⟩)
theorem ks_mem {cm : List Ce} {p : Int} (h : p ∈ ks cm) : ∃ o, (p, o) ∈ cm := by
  obtain ⟨e, he, rfl⟩ := List.mem_map.mp h
  exact ⟨e.2, he⟩
section
variable {h : DH} {P : KD} {R : KX} {a b c : Addr} {ws : List Wy} {fs : List Int} {s t p : Int}
theorem reached_spec (ha : h a = some (.lst (ws.map dW))) (hb : h b = some (.lst (fs.map D.int))) (hl : fs.length = ws.length) (hw : ws.length ≤ 100)
    (ok : ∀ d cm H, h d = none → Sub h H → H d = some (.dK (cm.map kvC)) → Cm ws fs s cm cm.length → P (.ref d) H) : sp_reached [.ref a, .ref b, .int s] h P R := by
  unfold sp_reached t_reached
  walk_at "au"
  intro d fd
  have naq := ne_new ha fd
  have nbq := ne_new hb fd
  unfold kDict1
  walk_at "au"
  refine ⟨up_same, .inl s, rfl, ?_⟩
  walk_at "au"
  refine go_newE fun q fq => ?_
  obtain ⟨nqd, fq'⟩ := up_none fq
  walk_at "au"
  have S0 : Sub h (up (up h d (.dK [(Sum.inl s, D.non)])) q (.lst [.int s])) := Sub.over (Sub.new fd) fq'
  refine while_ind (fun m e h' => ∃ cm n x6 x7, m = 2 * ws.length + 2 - n ∧ Cm ws fs s cm n ∧ Sub h h' ∧ h' d = some (.dK (cm.map kvC)) ∧ h' q = some (.lst ((ks cm).map D.int)) ∧ e = [some (.ref a), some (.ref b), some (.int s), some (.ref d), some (.ref q), some (.int (n : Nat)), x6, x7])
    (fun m e h' X i next => ?_) _ _ _ ⟨[(s, none)], 0, _, _, rfl, Cm.new, S0, by rw [up_ne (Ne.symm nqd)]; exact up_same, up_same, rfl⟩
  obtain ⟨cm, n, x6, x7, rfl, C, S, hd, hq, rfl⟩ := i
  have CL := C.len
  have lk : (ks cm).length = cm.length := by unfold ks; rw [List.length_map]
  have ha := S _ _ ha
  have hb := S _ _ hb
  walk_at "au"
  walk_at "br"
  split
  · rename_i z
    obtain ⟨p, ep⟩ : ∃ p, (ks cm)[n]? = some p := ⟨_, List.getElem?_eq_getElem (by omega)⟩
    walk_at "au"
    refine go_at (atI_i ep) ?_
    walk_at "au"
    refine steps_spec ha hb hl hw fun L mL lL => go_new fun y h2 fy S2 hy => ?_
    walk_at "au"
    have hd2 := S2 _ _ hd
    have hq2 := S2 _ _ hq
    have S' := S.trans S2
    have nyd : y ≠ d := fun z => by rw [z, hd] at fy; cases fy
    have nyq : y ≠ q := fun z => by rw [z, hq] at fy; cases fy
    clear ha hb hd hq S S2 fy
    refine for_ind (fun rem e h' => ∃ cm' rest x7, rem = rest.map dS ∧ (∀ st ∈ rest, st ∈ L) ∧ (∀ st ∈ L, st ∈ rest ∨ st.2.2.1 ∈ ks cm') ∧ (∃ more, ks cm' = ks cm ++ more) ∧ Cm ws fs s cm' n ∧ Sub h h' ∧ h' d = some (.dK (cm'.map kvC)) ∧ h' q = some (.lst ((ks cm').map D.int)) ∧ h' y = some (.lst (L.map dS)) ∧ e = [some (.ref a), some (.ref b), some (.int s), some (.ref d), some (.ref q), some (.int (n : Nat)), some (.int p), x7])
      (fun g r e h' X i next2 => ?_) (fun e h' i => ?_) _ _ _ ⟨cm, L, _, rfl, fun _ z => z, fun _ z => .inl z, ⟨[], by simp⟩, C, S', hd2, hq2, hy, rfl⟩
    · obtain ⟨cm', rest, x7, er, rL, Lr, ⟨more, em⟩, C', S, hd, hq, hy, rfl⟩ := i
      cases rest with
      | nil => cases er
      | cons st rest =>
        obtain ⟨rfl, rfl⟩ := List.cons.inj er
        refine ⟨hy, ?_⟩
        have CL' := C'.len
        have lk' : (ks cm').length = cm'.length := by unfold ks; rw [List.length_map]
        have es : dS st = .tup [.int st.1, .int st.2.1, .int st.2.2.1, .int st.2.2.2] := rfl
        have epp : (ks cm')[n]? = some p := by rw [em, List.getElem?_append_left (by omega)]; exact ep
        rw [es]
        walk_at "au"
        by_cases mk : st.2.2.1 ∈ ks cm'
        · obtain ⟨o, ho⟩ := ks_mem mk
          refine go_ninDK hd key_int ?_
          rw [valC C'.nd ho]
          simp only [Option.isSome_some, Bool.not_true]
          walk_at "au"
          refine next2 _ _ ⟨cm', rest, _, rfl, fun z hz => rL z (List.mem_cons_of_mem _ hz), fun z hz => ?_, ⟨more, em⟩, C', S, hd, hq, hy, rfl⟩
          rcases Lr z hz with w | w
          · rcases List.mem_cons.mp w with w | w
            · rw [w]; exact .inr mk
            · exact .inl w
          · exact .inr w
        · refine go_ninDK hd key_int ?_
          rw [valC_none mk]
          simp only [Option.isSome_none, Bool.not_false]
          walk_at "au"
          have hs := (mL st).mp (rL st (List.mem_cons_self ..))
          have C2 := C'.add epp hs mk
          refine go_setK hd key_int (by rw [List.length_map]; exact small1000 (by omega)) ?_
          rw [putM_new (by intro z; rw [List.map_map] at z; obtain ⟨e, he, e2⟩ := List.mem_map.mp z; exact mk (List.mem_map.mpr ⟨e, he, Sum.inl.inj e2⟩))]
          have nqd2 : q ≠ d := nqd
          walk_at "au"
          refine go_appL (ds := (ks cm').map D.int) (by rw [up_ne nqd2]; exact hq) (by rw [List.length_map]; exact small1000 (by omega)) ?_
          have nqh : h q = none := fq'
          refine next2 _ _ ⟨cm' ++ [(st.2.2.1, some (p, st))], rest, _, rfl, fun z hz => rL z (List.mem_cons_of_mem _ hz), fun z hz => ?_, ⟨more ++ [st.2.2.1], by unfold ks at em ⊢; rw [List.map_append, em, List.append_assoc]; rfl⟩, C2, Sub.over (Sub.over S fd) nqh, ?_, ?_, ?_, rfl⟩
          · rcases Lr z hz with w | w
            · rcases List.mem_cons.mp w with w | w
              · rw [w]; right; unfold ks; rw [List.map_append]; exact List.mem_append_right _ (List.mem_singleton.mpr rfl)
              · exact .inl w
            · right; unfold ks at w ⊢; rw [List.map_append]; exact List.mem_append_left _ w
          · rw [up_ne (Ne.symm nqd2), up_same, List.map_append]; rfl
          · rw [up_same]; unfold ks; rw [List.map_append, List.map_append]; rfl
          · rw [up_ne nyq, up_ne nyd]; exact hy
    · obtain ⟨cm', rest, x7, er, rL, Lr, ⟨more, em⟩, C', S, hd, hq, hy, rfl⟩ := i
      cases rest with
      | cons st rest => cases er
      | nil =>
        refine ⟨hy, ?_⟩
        walk_at "au"
        have lk' : (ks cm').length = cm'.length := by unfold ks; rw [List.length_map]
        have epp : (ks cm')[n]? = some p := by rw [em, List.getElem?_append_left (by omega)]; exact ep
        have le' : n + 1 ≤ cm'.length := by rw [← lk', em, List.length_append]; omega
        refine next _ _ _ (by omega : 2 * ws.length + 2 - (n + 1) < 2 * ws.length + 2 - n) ⟨cm', n + 1, _, _, rfl, ⟨C'.nd, C'.hd, C'.st, fun i q hi e st hst => ?_, C'.pl, le'⟩, S, hd, hq, rfl⟩
        by_cases w : i < n
        · exact C'.cl i q w e st hst
        · have : i = n := by omega
          subst this
          rw [epp] at e
          cases e
          rcases Lr st ((mL st).mpr hst) with w | w
          · cases w
          · exact w
  · rename_i z
    walk_at "au"
    have en : n = cm.length := by have := C.nl; omega
    subst en
    exact fgt (ok d cm _ fd S hd C)
end
theorem idx_nd {q : Int} : ∀ {l : List Int} {i : Nat}, l.Nodup → l[i]? = some q → l.idxOf q = i
  | [], i, _, h => by cases h
  | a :: l, 0, _, h => by
    cases h
    exact List.idxOf_cons_self
  | a :: l, i + 1, n, h => by
    rw [List.nodup_cons] at n
    have m : q ∈ l := List.mem_of_getElem? (by simpa using h)
    have ne : a ≠ q := fun e => n.1 (e ▸ m)
    rw [List.idxOf_cons, beq_eq_false_iff_ne.mpr ne, idx_nd (i := i) n.2 (by simpa using h)]
    rfl
section
variable {h : DH} {P : KD} {R : KX} {a b c d y : Addr} {ws : List Wy} {fs : List Int} {s t p : Int} {cm : List Ce} {ss : List Sp} {r : Int → Nat}
theorem chain_spec (hd : h d = some (.dK (cm.map kvC))) (C : Cm ws fs s cm cm.length) (ht : t ∈ ks cm) (hw : ws.length ≤ 100) (ok : ∀ ss, Chn ws fs s (fun p => (ks cm).idxOf p) t ss → ss.length ≤ 300 → kNew (ss.map dS) P h) : sp_chain_to [.ref d, .int t] h P R := by
  have CL := C.len
  have lk : (ks cm).length = cm.length := by unfold ks; rw [List.length_map]
  obtain ⟨rs, ec, er⟩ := C.hd
  have s0 : (ks cm).idxOf s = 0 := by rw [ec]; simp [ks, List.idxOf_cons]
  unfold sp_chain_to t_chain_to
  walk_at "au"
  refine go_newE fun q fq => ?_
  have ndq := ne_new hd fq
  walk_at "au"
  refine while_ind (fun m e h' => ∃ acc p x4 x5, p ∈ ks cm ∧ m = (ks cm).idxOf p ∧ acc.length + m ≤ 201 ∧ (∀ ss', Chn ws fs s (fun p => (ks cm).idxOf p) p ss' → Chn ws fs s (fun p => (ks cm).idxOf p) t (acc ++ ss')) ∧ h' = up h q (.lst (acc.map dS)) ∧ e = [some (.ref d), some (.int t), some (.ref q), some (.int p), x4, x5])
    (fun m e h' X i next => ?_) _ _ _ ⟨[], t, _, _, ht, rfl, ?_, fun _ z => z, rfl, rfl⟩
  · obtain ⟨acc, p, x4, x5, hp, rfl, la, hc, rfl, rfl⟩ := i
    obtain ⟨o, ho⟩ := ks_mem hp
    have hd' : up h q (.lst (acc.map dS)) d = some (.dK (cm.map kvC)) := up_neq ndq hd
    walk_at "au"
    refine go_ixDK hd' key_int (valC C.nd ho) ?_
    walk_at "au"
    obtain ⟨i, ei⟩ := List.mem_iff_getElem?.mp ho
    cases o with
    | none =>
      try simp only [dC]
      walk_at "au"
      have ep : p = s := by
        rw [ec] at ho
        rcases List.mem_cons.mp ho with e | e
        · cases e; rfl
        · exact absurd rfl (er _ e)
      subst ep
      have := hc [] .nil
      rw [List.append_nil] at this
      exact fgt (ok acc this (by omega) q fq)
    | some z =>
      obtain ⟨z1, z2⟩ := z
      try simp only [dC]
      walk_at "au"
      refine go_ixDK hd' key_int (valC C.nd ho) ?_
      try simp only [dC]
      walk_at "au"
      obtain ⟨h1, h2, j, hj, ej⟩ := C.st i p z1 z2 ei
      have eip : (ks cm)[i]? = some p := by unfold ks; rw [List.getElem?_map, ei]; rfl
      have ip := idx_nd C.nd eip
      have iq := idx_nd C.nd ej
      refine ⟨small1000 (by omega), next _ _ _ (show (ks cm).idxOf z1 < (ks cm).idxOf p by omega) ⟨acc ++ [z2], z1, _, _, List.mem_of_getElem? ej, rfl, by rw [List.length_append]; simp; omega, fun ss' c => ?_, by rw [List.map_append]; rfl, rfl⟩⟩
      have := hc (z2 :: ss') (.cons h1 h2 (show (ks cm).idxOf z1 < (ks cm).idxOf p by omega) (show (ks cm).idxOf s < (ks cm).idxOf p by omega) c)
      rw [List.append_assoc]
      exact this
  · have := List.idxOf_lt_length_of_mem ht
    simp
    omega
theorem push_spec (hb : h b = some (.lst (fs.map D.int))) (hy : h y = some (.lst (ss.map dS))) (nby : b ≠ y) (c : Chn ws fs s r t ss) (hne : ss ≠ []) (hl : ss.length ≤ 300) (hfl : fs.length = ws.length)
    (ok : ∀ m H, 1 ≤ m → (∀ st ∈ ss, m ≤ st.2.2.2) → Sub h H → P (.int m) (up H b (.lst ((app m fs ss).map D.int)))) : sp_push [.ref b, .ref y] h P R := by
  unfold sp_push t_push
  walk_at "au"
  refine go_lcM (fun d => match d with
    | .tup [_, _, _, r] => r
    | _ => .non) (by rw [List.length_map]; exact le1000 (by omega)) (fun L acc hL => up_at hy hL) (fun L acc dd X hL hdd h3 hX => ?_) (go_new fun q h1 fq S1 hq => ?_)
  · obtain ⟨st, hr, rfl⟩ := List.mem_map.mp hdd
    have es : dS st = .tup [.int st.1, .int st.2.1, .int st.2.2.1, .int st.2.2.2] := rfl
    rw [es] at hX ⊢
    walk_at "au"
    exact hX
  have e1 : ((ss.map dS).map fun d => match d with
    | .tup [_, _, _, r] => r
    | _ => .non) = (ss.map fun st => st.2.2.2).map D.int := by
    rw [List.map_map, List.map_map]; rfl
  rw [e1] at hq
  walk_at "au"
  refine go_minL hq (by rw [List.length_map]; cases ss with
    | nil => exact absurd rfl hne
    | cons _ _ => simp) fun m m1 m2 => ?_
  have hm : 1 ≤ m := by
    obtain ⟨st, hst, e⟩ := List.mem_map.mp m1
    obtain ⟨q, k1, _⟩ := c.low st hst
    have := k1.room
    omega
  have hm2 : ∀ st ∈ ss, m ≤ st.2.2.2 := fun st hst => m2 _ (List.mem_map.mpr ⟨st, hst, rfl⟩)
  have hb1 := S1 _ _ hb
  have hy1 := S1 _ _ hy
  walk_at "au"
  refine for_ind (fun rem e h' => ∃ pre rest x3 x4 x5, ss = pre ++ rest ∧ rem = rest.map dS ∧ h' = up h1 b (.lst ((app m fs pre).map D.int)) ∧ e = [some (.ref b), some (.ref y), some (.int m), x3, x4, x5, none]) (fun g r e h' X i next => ?_) (fun e h' i => ?_) _ _ _ ⟨[], ss, _, _, _, rfl, rfl, (up_id hb1).symm, rfl⟩
  · obtain ⟨pre, rest, x3, x4, x5, ez, er, rfl, rfl⟩ := i
    cases rest with
    | nil => cases er
    | cons st rest =>
      obtain ⟨rfl, rfl⟩ := List.cons.inj er
      refine ⟨up_neq' nby hy1, ?_⟩
      have hst : st ∈ ss := by rw [ez]; simp
      obtain ⟨q', k1, _⟩ := c.low st hst
      obtain ⟨j, w, f, g1, g2, g3, g4, g5, g6⟩ := k1.one
      have jl : j < (app m fs pre).length := by rw [app_len]; exact (List.getElem?_eq_some_iff.mp g2).1
      obtain ⟨v, ev⟩ : ∃ v, (app m fs pre)[j]? = some v := ⟨_, List.getElem?_eq_getElem jl⟩
      have es : dS st = .tup [.int st.1, .int st.2.1, .int st.2.2.1, .int st.2.2.2] := rfl
      have sg : -1 ≤ st.2.1 ∧ st.2.1 ≤ 1 := by rcases g6 with ⟨e, _⟩ | ⟨e, _⟩ <;> rw [e] <;> decide
      rw [es]
      walk_at "au"
      rw [g4]
      refine go_at (atI_i ev) ?_
      walk_at "au"
      refine go_setL (j := j) up_same (by unfold ixN; rw [List.length_map, if_pos (by omega), if_pos (by omega)]; rfl) ?_
      rw [up_up]
      refine next _ _ ⟨pre ++ [st], rest, _, _, _, by rw [ez]; simp, rfl, ?_, rfl⟩
      have : app m fs (pre ++ [st]) = (app m fs pre).set j (v + st.2.1 * m) := by
        unfold app
        rw [List.foldl_append]
        show List.set (app m fs pre) st.1.toNat ((app m fs pre).getD st.1.toNat 0 + st.2.1 * m) = _
        rw [g3, List.getD_eq_getElem?_getD, ev]; rfl
      rw [this, List.map_set]
  · obtain ⟨pre, rest, x3, x4, x5, ez, er, rfl, rfl⟩ := i
    cases rest with
    | cons g rest => cases er
    | nil =>
      rw [List.append_nil] at ez
      subst ez
      refine ⟨up_neq' nby hy1, ?_⟩
      walk_at "au"
      exact fgt (ok m h1 hm hm2 S1)
end
section
variable {h : DH} {P : KD} {R : KX} {a b c d y : Addr} {ws : List Wy} {fs : List Int} {s t p v : Int} {cm : List Ce}
theorem out_zero {x : Int} : ∀ ws : List Wy, out ws (ws.map fun _ => (0 : Int)) x = 0
  | [] => rfl
  | w :: ws => by
    show (if wg w = x then 0 else 0) - (if wt w = x then 0 else 0) + out ws (ws.map fun _ => (0 : Int)) x = 0
    rw [out_zero ws]
    split <;> split <;> rfl
theorem side_of (C : Cm ws fs s cm cm.length) (b : Bd ws fs) (ht : t ∉ ks cm) : Side ws fs s t (ks cm) := by
  have lk : (ks cm).length = cm.length := by unfold ks; rw [List.length_map]
  have cl : ∀ q ∈ ks cm, ∀ st, Stp ws fs q st → st.2.2.1 ∈ ks cm := fun q hq => by
    obtain ⟨i, e⟩ := List.mem_iff_getElem?.mp hq
    exact C.cl i q (by rw [← lk]; exact (List.getElem?_eq_some_iff.mp e).1) e
  obtain ⟨rs, ec, er⟩ := C.hd
  refine ⟨C.nd, by rw [ec]; exact List.mem_cons_self .., ht, fun j w f e1 e2 m1 m2 => ?_, fun j w f e1 e2 m1 m2 => ?_⟩
  · have := b.2 j w f e1 e2
    by_cases z : f < wc w
    · exact absurd (cl _ m1 _ ⟨j, w, f, e1, e2, .inl ⟨rfl, rfl, z⟩⟩) m2
    · omega
  · have := b.2 j w f e1 e2
    by_cases z : 0 < f
    · exact absurd (cl _ m2 _ ⟨j, w, f, e1, e2, .inr ⟨rfl, rfl, z⟩⟩) m1
    · omega
theorem check_spec (ha : h a = some (.lst (ws.map dW))) (bad : 60 < ws.length ∨ s = t → R ⟨1, none⟩ h) (ok : ¬ (60 < ws.length ∨ s = t) → P .non h) : sp_check_flow [.ref a, .int s, .int t] h P R := by
  unfold sp_check_flow t_check_flow
  walk_at "au"
  walk_at "br"
  split
  · rename_i z
    walk_at "au"
    exact fgtX (bad (by omega))
  · rename_i z
    walk_at "au"
    exact fgt (ok (by omega))
theorem gf_spec (ha : h a = some (.lst (ws.map dW))) (hw : ws.length ≤ 100) (hc : ∀ w ∈ ws, 0 ≤ wc w) (hp8 : ∀ w ∈ ws, (1 ≤ wg w ∧ wg w ≤ 8) ∧ 1 ≤ wt w ∧ wt w ≤ 8) (hs : 1 ≤ s ∧ s ≤ 8) (bad : 60 < ws.length ∨ s = t → R ⟨1, none⟩ h)
    (ok : ¬ (60 < ws.length ∨ s = t) → ∀ v fs S b y H, Sub h H → H b = some (.lst (fs.map D.int)) → H y = some (.lst (S.map D.int)) → Flw ws fs s t v → Zr ws fs s t → Side ws fs s t S → S.Pairwise (· ≤ ·) → S.length ≤ 60 → P (.tup [.int v, .ref b, .ref y]) H) : sp_greatest_flow [.ref a, .int s, .int t] h P R := by
  unfold sp_greatest_flow t_greatest_flow
  walk_at "au"
  refine check_spec ha (fun z => fgtX (bad z)) fun nb => ?_
  have st : t ≠ s := fun e => nb (.inr e.symm)
  walk_at "au"
  refine go_lcM (fun _ => .int 0) (by rw [List.length_map]; exact le1000 (by omega)) (fun L acc hL => up_at ha hL) (fun L acc dd X hL hdd h3 hX => ?_) (go_new fun b h1 fb S1 hb => ?_)
  · walk_at "au"
    exact hX
  rw [show (ws.map dW).map (fun _ => D.int 0) = (ws.map fun _ => (0 : Int)).map D.int by rw [List.map_map, List.map_map]; rfl] at hb
  have ha1 := S1 _ _ ha
  walk_at "au"
  refine reached_spec ha1 hb (by rw [List.length_map]) hw fun d cm h2 fd S2 hd C => ?_
  walk_at "au"
  have C0 : (0 : Int) ≤ caps ws := by
    have := out_le (x := s) ws (ws.map fun _ => (0 : Int)) (fun j w f e1 e2 => by
      rw [List.getElem?_map, e1] at e2
      cases e2
      exact ⟨Int.le_refl _, hc w (List.mem_of_getElem? e1)⟩) hc
    rw [out_zero] at this
    exact this
  refine while_ind (fun m e h' => ∃ fs v d cm, m = (caps ws - v).toNat ∧ 0 ≤ v ∧ Flw ws fs s t v ∧ Zr ws fs s t ∧ Cm ws fs s cm cm.length ∧ Sub h h' ∧ h' b = some (.lst (fs.map D.int)) ∧ h' d = some (.dK (cm.map kvC)) ∧ e = [some (.ref a), some (.int s), some (.int t), some (.ref b), some (.int v), some (.ref d), none])
    (fun m e h' X i next => ?_) _ _ _ ⟨_, 0, d, cm, rfl, Int.le_refl _, ⟨⟨by rw [List.length_map], fun j w f e1 e2 => ?_⟩, fun x _ _ => out_zero ws, out_zero ws⟩, fun j w f e1 e2 _ _ => ?_, C, S1.trans S2, S2 _ _ hb, hd, rfl⟩
  · clear C hd S2 S1 hb ha1 fd
    obtain ⟨fs, v, d, cm, rfl, v0, F, Z, C, S, hb, hd, rfl⟩ := i
    have ha' := S _ _ ha
    have vle : v ≤ caps ws := by rw [← F.v]; exact out_le ws fs s F.b.2 hc
    walk_at "au"
    refine go_inDK hd key_int ?_
    by_cases mt : t ∈ ks cm
    · obtain ⟨o, ho⟩ := ks_mem mt
      rw [valC C.nd ho]
      simp only [Option.isSome_some]
      walk_at "au"
      refine chain_spec hd C mt hw fun ss c lss => go_new fun y h3 fy S3 hy => ?_
      walk_at "au"
      have hb3 := S3 _ _ hb
      have nby : b ≠ y := ne_new hb fy
      have hne : ss ≠ [] := fun e => by
        subst e
        cases c
        exact st rfl
      refine push_spec hb3 hy nby c hne lss F.b.1 fun m H hm hm2 S4 => ?_
      have S5 : Sub h (up H b (.lst ((app m fs ss).map D.int))) := Sub.over ((S.trans S3).trans S4) fb
      have B' := app_bd c F.b (show 0 ≤ m by omega) hm2
      have hb5 : up H b (.lst ((app m fs ss).map D.int)) b = some (.lst ((app m fs ss).map D.int)) := up_same
      have ha5 := S5 _ _ ha
      have F' : Flw ws (app m fs ss) s t (v + m) := ⟨B', fun x n1 n2 => by rw [app_out c, F.c x n1 n2, if_neg (Ne.symm n1), if_neg (Ne.symm n2)]; rfl, by rw [app_out c, F.v, if_pos rfl, if_neg st]; omega⟩
      have vle' : v + m ≤ caps ws := by rw [← F'.v]; exact out_le ws _ s B'.2 hc
      generalize up H b (.lst ((app m fs ss).map D.int)) = h5 at *
      clear S3 S4 hy hb3 fy
      walk_at "au"
      refine reached_spec ha5 hb5 B'.1 hw fun d2 cm2 h6 fd2 S6 hd2 C2 => ?_
      walk_at "au"
      exact next _ _ _ (show (caps ws - (v + m)).toNat < (caps ws - v).toNat by omega) ⟨_, v + m, d2, cm2, rfl, by omega, F', app_zr c (Nat.le_refl _) Z, C2, S5.trans S6, S6 _ _ hb5, hd2, rfl⟩
    · rw [valC_none mt]
      simp only [Option.isSome_none]
      walk_at "au"
      have l8 : (ks cm).length ≤ 8 := by
        have : (ks cm).length ≤ ([1, 2, 3, 4, 5, 6, 7, 8] : List Int).length := List.Nodup.length_le_of_subset C.nd fun p hp => by
          have : 1 ≤ p ∧ p ≤ 8 := by
            rcases C.pl p hp with e | ⟨w, hw, e | e⟩
            · rw [e]; exact hs
            · rw [e]; exact (hp8 w hw).1
            · rw [e]; exact (hp8 w hw).2
          rcases (by omega : p = 1 ∨ p = 2 ∨ p = 3 ∨ p = 4 ∨ p = 5 ∨ p = 6 ∨ p = 7 ∨ p = 8) with e | e | e | e | e | e | e | e <;> rw [e] <;> decide
        simpa using this
      unfold bSortedA
      simp only [hd]
      refine ⟨ks cm, by unfold ks; rw [List.map_map, List.map_map]; rfl, ?_, fun Z0 p1 p2 y fy => ?_⟩
      · omega
      · walk_at "au"
        have C1 := side_of C F.b mt
        refine fgt (ok nb v fs Z0 b y _ (S.trans (Sub.new fy)) (up_at hb fy) up_same F Z ⟨p1.nodup_iff.mpr C1.nd, p1.mem_iff.mpr C1.s, fun z => C1.t (p1.mem_iff.mp z), fun j w f e1 e2 m1 m2 => C1.full j w f e1 e2 (p1.mem_iff.mp m1) (fun z => m2 (p1.mem_iff.mpr z)), fun j w f e1 e2 m1 m2 => C1.none j w f e1 e2 (fun z => m1 (p1.mem_iff.mpr z)) (p1.mem_iff.mp m2)⟩ p2 (by rw [p1.length_eq]; omega))
  · rw [List.getElem?_map, e1] at e2
    cases e2
    exact ⟨Int.le_refl _, hc w (List.mem_of_getElem? e1)⟩
  · rw [List.getElem?_map, e1] at e2
    cases e2
    rfl
end
theorem out_snoc : ∀ (ws : List Wy) (fs : List Int) (w : Wy) (f x : Int), ws.length = fs.length → out (ws ++ [w]) (fs ++ [f]) x = out ws fs x + ((if wg w = x then f else 0) - (if wt w = x then f else 0))
  | [], [], w, f, x, _ => by
    show (if wg w = x then f else 0) - (if wt w = x then f else 0) + out [] [] x = out [] [] x + _
    omega
  | v :: ws, g :: fs, w, f, x, h => by
    have := out_snoc ws fs w f x (by simpa using h)
    show (if wg v = x then g else 0) - (if wt v = x then g else 0) + out (ws ++ [w]) (fs ++ [f]) x = (if wg v = x then g else 0) - (if wt v = x then g else 0) + out ws fs x + _
    rw [this]; omega
  | [], _ :: _, _, _, _, h => by simp at h
  | _ :: _, [], _, _, _, h => by simp at h
theorem out_take {ws : List Wy} {fs : List Int} {k : Nat} {w : Wy} {f x : Int} (hl : fs.length = ws.length) (e1 : ws[k]? = some w) (e2 : fs[k]? = some f) :
    out (ws.take (k + 1)) (fs.take (k + 1)) x = out (ws.take k) (fs.take k) x + ((if wg w = x then f else 0) - (if wt w = x then f else 0)) := by
  rw [List.take_add_one, List.take_add_one, e1, e2]
  have l1 := (List.getElem?_eq_some_iff.mp e1).1
  have l2 := (List.getElem?_eq_some_iff.mp e2).1
  exact out_snoc _ _ w f x (by rw [List.length_take, List.length_take]; omega)
/-- the sum over the places of those that c takes -/
theorem sum_pl {c : Wy → Bool} {fs : List Int} : ∀ (ws : List Wy) (fs0 pre : List Int), fs = pre ++ fs0 → fs0.length = ws.length →
    ((((List.range' pre.length ws.length).zip ws).filter fun q => c q.2).map fun q => fs.getD q.1 0).sum = (List.zipWith (fun w f => if c w = true then f else 0) ws fs0).sum
  | [], fs0, pre, _, _ => by simp
  | w :: ws, [], pre, _, h => by simp at h
  | w :: ws, f :: fs0, pre, e, h => by
    have ih := sum_pl (c := c) (fs := fs) ws fs0 (pre ++ [f]) (by rw [e]; simp) (by simpa using h)
    rw [List.length_append, List.length_singleton] at ih
    rw [List.length_cons, List.range'_succ, List.zip_cons_cons, List.filter_cons, List.zipWith_cons_cons, List.sum_cons, ← ih]
    have ef : fs.getD pre.length 0 = f := by
      rw [e, List.getD_eq_getElem?_getD, List.getElem?_append_right (Nat.le_refl _), Nat.sub_self]; rfl
    cases z : c w with
    | true =>
      simp [z]
      rw [← List.getD_eq_getElem?_getD]
      exact ef
    | false => simp [z]
theorem out_two : ∀ (ws : List Wy) (fs : List Int) (x : Int), fs.length = ws.length → (List.zipWith (fun w f => if decide (wg w = x) = true then f else 0) ws fs).sum - (List.zipWith (fun w f => if decide (wt w = x) = true then f else 0) ws fs).sum = out ws fs x
  | [], _, _, _ => rfl
  | w :: ws, [], x, h => by simp at h
  | w :: ws, f :: fs, x, h => by
    have ih := out_two ws fs x (by simpa using h)
    show _ = (if wg w = x then f else 0) - (if wt w = x then f else 0) + out ws fs x
    rw [← ih]
    simp only [List.zipWith_cons_cons, List.sum_cons, decide_eq_true_eq]
    omega
section
variable {h : DH} {P : KD} {R : KX} {a b c d y : Addr} {ws : List Wy} {fs : List Int} {s t p v : Int}
theorem surplus_spec (ha : h a = some (.lst (ws.map dW))) (hb : h b = some (.lst (fs.map D.int))) (hl : fs.length = ws.length) (hw : ws.length ≤ 100) (ok : P (.int (out ws fs p)) h) : sp_surplus [.ref a, .ref b, .int p] h P R := by
  have hz : ((List.range ws.length).zip ws).length ≤ sizeLine := by rw [List.length_zip, List.length_range, Nat.min_self]; exact le1000 (by omega)
  unfold sp_surplus t_surplus
  walk_at "au"
  rw [enumD_map]
  refine go_lcG (fun q : Nat × Wy => decide (wg q.2 = p)) (k := fun q => .int (fs.getD q.1 0)) hz (fun L acc hL => up_at ha hL) (fun L acc q X hL hq hac h1 h0 => ?_) (go_new fun l1 h1 f1 S1 e1 => ?_)
  · obtain ⟨i, w⟩ := q
    have ew : dW w = .tup [.int w.1, .int (wg w), .int (wt w), .tup [.int w.2.2.2.1.1, .int w.2.2.2.1.2.1, .int w.2.2.2.1.2.2], .int (wc w)] := rfl
    have gi := mem_enum.mp hq
    have gl := (List.getElem?_eq_some_iff.mp gi).1
    obtain ⟨f, ef⟩ : ∃ f, fs[i]? = some f := ⟨_, List.getElem?_eq_getElem (by simp only at gl; omega)⟩
    have hb' : up h L (.lst acc) b = some (.lst (fs.map D.int)) := up_at hb hL
    simp only [ew] at h1 h0 ⊢
    simp only [List.getD_eq_getElem?_getD, ef, Option.getD_some] at h1
    walk_at "au"
    walk_at "br"
    split
    · rename_i z
      walk_at "au"
      refine go_at (atI_i ef) ?_
      walk_at "au"
      exact h1 (decide_eq_true z)
    · rename_i z
      walk_at "au"
      exact ⟨up_same, h0 (decide_eq_false z)⟩
  have m1 : ∀ c : Wy → Bool, ((((List.range ws.length).zip ws).filter fun q => c q.2).map fun q => D.int (fs.getD q.1 0)) = ((((List.range ws.length).zip ws).filter fun q => c q.2).map fun q => fs.getD q.1 0).map D.int := fun c => by rw [List.map_map]; rfl
  have m2 : ∀ c : Wy → Bool, ((((List.range ws.length).zip ws).filter fun q => c q.2).map fun q => fs.getD q.1 0).sum = (List.zipWith (fun w f => if c w = true then f else 0) ws fs).sum := fun c => by
    have := sum_pl (c := c) (fs := fs) ws fs [] rfl hl
    rw [List.length_nil, ← List.range_eq_range'] at this
    exact this
  rw [m1 fun w => decide (wg w = p)] at e1
  rw [w_sumL e1, m2 fun w => decide (wg w = p)]
  have ha1 := S1 _ _ ha
  have hb1 := S1 _ _ hb
  walk_at "au"
  rw [enumD_map]
  refine go_lcG (fun q : Nat × Wy => decide (wt q.2 = p)) (k := fun q => .int (fs.getD q.1 0)) hz (fun L acc hL => up_at ha1 hL) (fun L acc q X hL hq hac h1 h0 => ?_) (go_new fun l2 h2 f2 S2 e2 => ?_)
  · obtain ⟨i, w⟩ := q
    have ew : dW w = .tup [.int w.1, .int (wg w), .int (wt w), .tup [.int w.2.2.2.1.1, .int w.2.2.2.1.2.1, .int w.2.2.2.1.2.2], .int (wc w)] := rfl
    have gi := mem_enum.mp hq
    have gl := (List.getElem?_eq_some_iff.mp gi).1
    obtain ⟨f, ef⟩ : ∃ f, fs[i]? = some f := ⟨_, List.getElem?_eq_getElem (by simp only at gl; omega)⟩
    have hb' := up_at (o := .lst acc) hb1 hL
    simp only [ew] at h1 h0 ⊢
    simp only [List.getD_eq_getElem?_getD, ef, Option.getD_some] at h1
    walk_at "au"
    walk_at "br"
    split
    · rename_i z
      walk_at "au"
      refine go_at (atI_i ef) ?_
      walk_at "au"
      exact h1 (decide_eq_true z)
    · rename_i z
      walk_at "au"
      exact ⟨up_same, h0 (decide_eq_false z)⟩
  rw [m1 fun w => decide (wt w = p)] at e2
  rw [w_sumL e2, m2 fun w => decide (wt w = p)]
  walk_at "au"
  rw [out_two ws fs p hl]
  exact fgtS (S1.trans S2) ok
end
/-- a flow, as the law and the program ask -/
def OK (ws : List Wy) (fs : List Int) (s t : Int) : Prop := Bd ws fs ∧ ∀ w ∈ ws, ∀ x, (x = wg w ∨ x = wt w) → x ≠ s → x ≠ t → out ws fs x = 0
section
variable {h : DH} {P : KD} {R : KX} {a b c d y : Addr} {ws : List Wy} {fs : List Int} {s t p v : Int}
theorem dW_eq {w : Wy} : dW w = .tup [.int w.1, .int (wg w), .int (wt w), .tup [.int w.2.2.2.1.1, .int w.2.2.2.1.2.1, .int w.2.2.2.1.2.2], .int (wc w)] := rfl
theorem w_notin2 {x i j : Int} : doNotIn (.int x) (.tup [.int i, .int j]) h P = P (.bl (!(decide (x = i) || decide (x = j)))) h := by
  have e : ([D.int i, D.int j].any fun y => eqF y (.int x)) = (decide (x = i) || decide (x = j)) := by
    have c : ∀ a b : Int, (a == b) = decide (b = a) := fun a b => by rw [Bool.eq_iff_iff, beq_iff_eq, decide_eq_true_eq]; exact eq_comm
    simp only [eqF, List.any_cons, List.any_nil, Bool.or_false, c]
  unfold doNotIn doInB
  rw [← e]
  exact propext ⟨fun z => z.2.2, fun z => ⟨rfl, rfl, z⟩⟩
theorem isflow_spec (ha : h a = some (.lst (ws.map dW))) (hb : h b = some (.lst (fs.map D.int))) (hw : ws.length ≤ 100) (ok : ∀ q, (q = true ↔ OK ws fs s t) → P (.bl q) h) : sp_is_flow [.ref a, .ref b, .int s, .int t] h P R := by
  unfold sp_is_flow t_is_flow
  walk_at "au"
  walk_at "br"
  split
  · rename_i z
    walk_at "au"
    exact fgt (ok false ⟨(fun w => nomatch w), fun w => by have := w.1.1; omega⟩)
  rename_i z
  have hl : fs.length = ws.length := by omega
  walk_at "au"
  rw [enumD_map]
  refine for_ind (fun rem e h' => ∃ pre rest x4 x5, (List.range ws.length).zip ws = pre ++ rest ∧ rem = rest.map (fun q => D.tup [.int (q.1 : Nat), dW q.2]) ∧ (∀ q ∈ pre, ∀ f, fs[q.1]? = some f → 0 ≤ f ∧ f ≤ wc q.2) ∧ h' = h ∧ e = [some (.ref a), some (.ref b), some (.int s), some (.int t), x4, x5, none, none])
    (fun g r e h' X i next => ?_) (fun e h' i => ?_) _ _ _ ⟨[], _, none, none, rfl, rfl, (fun _ z => by cases z), rfl, rfl⟩
  · obtain ⟨pre, rest, x4, x5, ez, er, hp, rfl, rfl⟩ := i
    cases rest with
    | nil => cases er
    | cons g rest =>
      obtain ⟨rfl, rfl⟩ := List.cons.inj er
      have gm : ws[g.1]? = some g.2 := mem_enum.mp (by rw [ez]; simp)
      have gl := (List.getElem?_eq_some_iff.mp gm).1
      obtain ⟨gi, w⟩ := g
      simp only at gm gl
      obtain ⟨f, ef⟩ : ∃ f, fs[gi]? = some f := ⟨_, List.getElem?_eq_getElem (by omega)⟩
      refine ⟨ha, ?_⟩
      simp only [dW_eq]
      walk_at "au"
      refine go_at (atI_i ef) ?_
      walk_at "au"
      walk_at "br"
      split
      · rename_i y
        walk_at "au"
        refine fgt (ok false ⟨(fun w => nomatch w), fun o => ?_⟩)
        have := o.1.2 gi w f gm ef
        omega
      · rename_i y
        walk_at "au"
        refine next _ _ ⟨pre ++ [(gi, w)], rest, _, _, by rw [ez]; simp, rfl, fun q hq f' e' => ?_, rfl, rfl⟩
        rcases List.mem_append.mp hq with hq | hq
        · exact hp q hq f' e'
        · rw [List.mem_singleton.mp hq] at e' ⊢
          simp only at e'
          rw [ef] at e'
          cases e'
          show 0 ≤ f ∧ f ≤ wc w
          omega
  · obtain ⟨pre, rest, x4, x5, ez, er, hp, rfl, rfl⟩ := i
    cases rest with
    | cons g rest => cases er
    | nil =>
      rw [List.append_nil] at ez
      subst ez
      refine ⟨ha, ?_⟩
      have B : Bd ws fs := ⟨hl, fun j w f e1 e2 => hp (j, w) (mem_enum.mpr e1) f e2⟩
      walk_at "au"
      refine go_lc2 (xs := ws) (f := dW) 200 (fun w => ([wg w, wt w].filter fun x => !(decide (x = s) || decide (x = t))).map D.int) (Nat.le_trans (flat_len (n := 2) (fun w => by rw [List.length_map]; exact List.length_filter_le _ _) ws) (by omega)) (fun L acc hL => up_at ha hL) (fun L acc w X hL hw2 hac hX => ?_) ?_
      · rw [dW_eq]
        walk_at "au"
        refine ⟨up_same, le1000 (by decide), ?_⟩
        rw [w_notin2]
        walk_at "au"
        cases e1 : (decide (wg w = s) || decide (wg w = t)) <;> cases e2 : (decide (wt w = s) || decide (wt w = t)) <;> simp only [List.filter_cons, List.filter_nil, e1, e2, Bool.not_true, Bool.not_false, if_true, Bool.false_eq_true, if_false, List.map_cons, List.map_nil, List.append_nil] at hX hac
        all_goals have ha2 := small1000 (show acc.length < 1000 by simp only [List.length_cons, List.length_nil] at hac; omega)
        all_goals have ha3 := small1000 (show (acc ++ [D.int (wg w)]).length < 1000 by rw [List.length_append]; simp only [List.length_cons, List.length_nil] at hac ⊢; omega)
        all_goals walk_at "au"
        · rw [w_notin2, e2]
          walk_at "au"
          rw [List.append_assoc]
          first | exact ⟨up_same, hX⟩ | exact ⟨up_same, up_same, hX⟩
        · rw [w_notin2, e2]
          walk_at "au"
          first | exact ⟨up_same, hX⟩ | exact ⟨up_same, up_same, hX⟩
        · refine ⟨up_same, ?_⟩
          walk_at "au"
          rw [w_notin2, e2]
          walk_at "au"
          first | exact ⟨up_same, hX⟩ | exact ⟨up_same, up_same, hX⟩
        · refine ⟨up_same, ?_⟩
          walk_at "au"
          rw [w_notin2, e2]
          walk_at "au"
          first | exact ⟨up_same, hX⟩ | exact ⟨up_same, up_same, hX⟩
      · rw [show (ws.flatMap fun w => ([wg w, wt w].filter fun x => !(decide (x = s) || decide (x = t))).map D.int) = (ws.flatMap fun w => [wg w, wt w].filter fun x => !(decide (x = s) || decide (x = t))).map D.int by
          rw [List.map_flatMap]]
        generalize eb : (ws.flatMap fun w => [wg w, wt w].filter fun x => !(decide (x = s) || decide (x = t))) = bt
        have mb : ∀ x, x ∈ bt ↔ ∃ w ∈ ws, (x = wg w ∨ x = wt w) ∧ x ≠ s ∧ x ≠ t := fun x => by
          rw [← eb, List.mem_flatMap]
          simp
        have lb : bt.length ≤ 200 := by rw [← eb]; exact Nat.le_trans (flat_len (n := 2) (fun w => List.length_filter_le _ _) ws) (by omega)
        refine go_new fun z h1 fz S1 hz => ?_
        have ha1 := S1 _ _ ha
        have hb1 := S1 _ _ hb
        walk_at "au"
        refine go_lcM (fun d => match d with
          | .int x => .bl (decide (out ws fs x = 0))
          | _ => .non) (by rw [List.length_map]; exact le1000 (by omega)) (fun L acc hL => up_at hz hL) (fun L acc dd X hL hdd h3 hX => ?_) (go_new fun l h2 fl S2 el => ?_)
        · obtain ⟨x, hx, rfl⟩ := List.mem_map.mp hdd
          walk_at "au"
          refine surplus_spec (up_at ha1 hL) (up_at hb1 hL) hl hw ?_
          walk_at "au"
          exact hX
        · have e1 : ((bt.map D.int).map fun d => match d with
            | .int x => .bl (decide (out ws fs x = 0))
            | _ => .non) = (bt.map fun x => decide (out ws fs x = 0)).map D.bl := by rw [List.map_map, List.map_map]; rfl
          rw [e1] at el
          rw [w_allL el]
          walk_at "au"
          refine fgtS (S1.trans S2) (ok _ ⟨fun q => ⟨B, fun w hw2 x e n1 n2 => ?_⟩, fun q => ?_⟩)
          · rw [List.all_map, List.all_eq_true] at q
            exact of_decide_eq_true (q x ((mb x).mpr ⟨w, hw2, e, n1, n2⟩))
          · rw [List.all_map, List.all_eq_true]
            intro x hx
            obtain ⟨w, hw2, e, n1, n2⟩ := (mb x).mp hx
            exact decide_eq_true (q.2 w hw2 x e n1 n2)
end
/-! ### walks along a flow -/
def hit (left : List Int) (x : Int) (q : Nat × Wy) : Bool := decide (wg q.2 = x) && decide (0 < left.getD q.1 0)
def frst (ws : List Wy) (left : List Int) (x : Int) : Option Nat := (((List.range ws.length).zip ws).find? (hit left x)).map (·.1)
def dN? : Option Nat → D
  | none => .non
  | some j => .int (j : Nat)
theorem frst_some {ws : List Wy} {left : List Int} {x : Int} {j : Nat} (e : frst ws left x = some j) : ∃ w, ws[j]? = some w ∧ wg w = x ∧ 0 < left.getD j 0 := by
  unfold frst at e
  obtain ⟨q, hq, rfl⟩ := Option.map_eq_some_iff.mp e
  have h1 := List.find?_some hq
  have h2 := mem_enum.mp (List.mem_of_find?_eq_some hq)
  unfold hit at h1
  rw [Bool.and_eq_true, decide_eq_true_eq, decide_eq_true_eq] at h1
  exact ⟨q.2, h2, h1.1, h1.2⟩
theorem frst_none {ws : List Wy} {left : List Int} {x : Int} (e : frst ws left x = none) {j : Nat} {w : Wy} (h : ws[j]? = some w) (hg : wg w = x) : left.getD j 0 ≤ 0 := by
  unfold frst at e
  rw [Option.map_eq_none_iff, List.find?_eq_none] at e
  have := e (j, w) (mem_enum.mpr h)
  unfold hit at this
  simp only [Bool.and_eq_true, decide_eq_true_eq, not_and] at this
  have := this hg
  omega
/-- nothing is made or lost but at s and t, nothing is below 0 -/
structure Cn (ws : List Wy) (left : List Int) (s t : Int) : Prop where
  n : left.length = ws.length
  p : ∀ j, 0 ≤ left.getD j 0
  c : ∀ x, x ≠ s → x ≠ t → out ws left x = 0
theorem Cn.of {ws : List Wy} {fs : List Int} {s t v : Int} (F : Flw ws fs s t v) : Cn ws fs s t := ⟨F.b.1, fun j => by
  rw [List.getD_eq_getElem?_getD]
  cases e : fs[j]? with
  | none => exact Int.le_refl _
  | some f =>
    have hj := (List.getElem?_eq_some_iff.mp e).1
    obtain ⟨w, ew⟩ : ∃ w, ws[j]? = some w := ⟨_, List.getElem?_eq_getElem (by rw [← F.b.1]; exact hj)⟩
    exact (F.b.2 j w f ew e).1, F.c⟩
/-- what flows in flows out -/
theorem out_neg {x : Int} : ∀ {ws : List Wy} {left : List Int}, left.length = ws.length → (∀ j, 0 ≤ left.getD j 0) → (∀ (j : Nat) (w : Wy), ws[j]? = some w → wg w = x → left.getD j 0 ≤ 0) →
    out ws left x ≤ 0 ∧ ∀ (j : Nat) (w : Wy), ws[j]? = some w → wt w = x → out ws left x ≤ -(left.getD j 0)
  | [], left, _, _, _ => ⟨Int.le_refl _, fun j w e => by cases e⟩
  | w :: ws, [], h, _, _ => by simp at h
  | w :: ws, f :: left, h, p, g => by
    obtain ⟨i1, i2⟩ := out_neg (ws := ws) (left := left) (x := x) (by simpa using h) (fun j => by have := p (j + 1); simpa using this) fun j w' e hg => by have := g (j + 1) w' (by simpa using e) hg; simpa using this
    have p0 : 0 ≤ f := by have := p 0; simpa using this
    have g0 : wg w = x → f ≤ 0 := fun z => by have := g 0 w rfl z; simpa using this
    have e : out (w :: ws) (f :: left) x = (if wg w = x then f else 0) - (if wt w = x then f else 0) + out ws left x := rfl
    have a1 : (if wg w = x then f else 0) ≤ 0 := by
      split
      · rename_i z; exact g0 z
      · omega
    have a2 : 0 ≤ (if wt w = x then f else 0) := by split <;> omega
    refine ⟨by rw [e]; omega, fun j w' ew hw => ?_⟩
    cases j with
    | zero =>
      cases ew
      rw [e, if_pos hw]
      simp only [List.getD_cons_zero]
      omega
    | succ j =>
      have := i2 j w' (by simpa using ew) hw
      rw [e]
      simp only [List.getD_cons_succ]
      omega
/-- one who was reached goes on -/
theorem Cn.on {ws : List Wy} {left : List Int} {s t x : Int} (C : Cn ws left s t) {j : Nat} {w : Wy} (e : ws[j]? = some w) (hw : wt w = x) (hl : 0 < left.getD j 0) (n1 : x ≠ s) (n2 : x ≠ t) : ∃ k, frst ws left x = some k := by
  cases z : frst ws left x with
  | some k => exact ⟨k, rfl⟩
  | none =>
    have := (out_neg C.n C.p fun j w e hg => frst_none z e hg).2 j w e hw
    rw [C.c x n1 n2] at this
    omega
def wk (ws : List Wy) (left : List Int) (t : Int) : Nat → List Nat → List Int → Int → List Nat × Option Nat
  | 0, ps, _, _ => (ps, none)
  | n + 1, ps, vs, x => match frst ws left x with
    | none => (ps, none)
    | some j => if (ws.map wt).getD j 0 = t then (ps ++ [j], none) else if (ws.map wt).getD j 0 ∈ vs then (ps ++ [j], some (vs.idxOf ((ws.map wt).getD j 0))) else wk ws left t n (ps ++ [j]) (vs ++ [(ws.map wt).getD j 0]) ((ws.map wt).getD j 0)
theorem wt_getD {ws : List Wy} {j : Nat} {w : Wy} (e : ws[j]? = some w) : (ws.map wt).getD j 0 = wt w := by rw [List.getD_eq_getElem?_getD, List.getElem?_map, e]; rfl
/-- a walk so far: places ps, parties vs, at x -/
structure Wk (ws : List Wy) (left : List Int) (s t : Int) (ps : List Nat) (vs : List Int) (x : Int) : Prop where
  len : vs.length = ps.length + 1
  nd : vs.Nodup
  hd : vs[0]? = some s
  lt : vs[ps.length]? = some x
  stp : ∀ (i j : Nat), ps[i]? = some j → ∃ w, ws[j]? = some w ∧ vs[i]? = some (wg w) ∧ vs[i + 1]? = some (wt w) ∧ 0 < left.getD j 0
  nt : ∀ v ∈ vs, v ≠ t
section
variable {ws : List Wy} {left : List Int} {s t x : Int} {ps : List Nat} {vs : List Int}
theorem Wk.new (st : s ≠ t) : Wk ws left s t [] [s] s := ⟨rfl, by simp, rfl, rfl, (fun i j e => by cases e), fun v hv => by rw [List.mem_singleton.mp hv]; exact st⟩
theorem Wk.psnd (W : Wk ws left s t ps vs x) : ps.Nodup := by
  refine List.pairwise_iff_getElem.mpr fun i j hi hj hij e => ?_
  obtain ⟨w1, a1, a2, _⟩ := W.stp i _ (List.getElem?_eq_getElem hi)
  obtain ⟨w2, b1, b2, _⟩ := W.stp j _ (List.getElem?_eq_getElem hj)
  rw [e, b1] at a1
  cases a1
  have h1 := idx_nd W.nd a2
  have h2 := idx_nd W.nd b2
  omega
theorem Wk.few (W : Wk ws left s t ps vs x) : ps.length ≤ ws.length := by
  have := List.Nodup.length_le_of_subset (l₂ := List.range ws.length) W.psnd fun j hj => by
    obtain ⟨i, e⟩ := List.mem_iff_getElem?.mp hj
    obtain ⟨w, a1, _⟩ := W.stp i j e
    exact List.mem_range.mpr (List.getElem?_eq_some_iff.mp a1).1
  simpa using this
theorem Wk.go (W : Wk ws left s t ps vs x) (C : Cn ws left s t) (h0 : ∃ k, frst ws left s = some k) : ∃ k, frst ws left x = some k := by
  cases z : ps.length with
  | zero =>
    have h1 := W.lt
    rw [z, W.hd] at h1
    cases h1
    exact h0
  | succ n =>
    obtain ⟨j, ej⟩ : ∃ j, ps[n]? = some j := ⟨_, List.getElem?_eq_getElem (by omega)⟩
    obtain ⟨w, a1, a2, a3, a4⟩ := W.stp n j ej
    have h1 := W.lt
    rw [z, a3] at h1
    cases h1
    refine C.on a1 rfl a4 (fun e => ?_) (W.nt _ (List.mem_of_getElem? a3))
    have h1 := idx_nd W.nd a3
    have h2 := idx_nd W.nd W.hd
    rw [e] at h1
    omega
theorem Wk.add {j : Nat} {w : Wy} (W : Wk ws left s t ps vs x) (e : ws[j]? = some w) (hg : wg w = x) (hl : 0 < left.getD j 0) (n1 : wt w ≠ t) (n2 : wt w ∉ vs) : Wk ws left s t (ps ++ [j]) (vs ++ [wt w]) (wt w) := by
  have hv := W.len
  refine ⟨by simp [hv], ?_, ?_, ?_, fun i k ei => ?_, fun v hvv => ?_⟩
  · rw [List.nodup_append]
    exact ⟨W.nd, by simp, fun a ha b hb e => n2 (by rw [← List.mem_singleton.mp hb, ← e]; exact ha)⟩
  · rw [List.getElem?_append_left (by omega)]; exact W.hd
  · rw [List.getElem?_append_right (by simp; omega)]; simp [hv]
  · by_cases z : i < ps.length
    · rw [List.getElem?_append_left z] at ei
      obtain ⟨w', a1, a2, a3, a4⟩ := W.stp i k ei
      exact ⟨w', a1, by rw [List.getElem?_append_left (by omega)]; exact a2, by rw [List.getElem?_append_left (by omega)]; exact a3, a4⟩
    · have hi : i = ps.length := by
        have := (List.getElem?_eq_some_iff.mp ei).1
        simp at this; omega
      subst hi
      rw [List.getElem?_append_right (Nat.le_refl _), Nat.sub_self] at ei
      cases ei
      refine ⟨w, e, ?_, ?_, hl⟩
      · rw [List.getElem?_append_left (by omega), hg]; exact W.lt
      · rw [List.getElem?_append_right (by omega), hv, Nat.sub_self]; rfl
  · rcases List.mem_append.mp hvv with z | z
    · exact W.nt v z
    · rw [List.mem_singleton.mp z]; exact n1
end
def Fin0 (ws : List Wy) (left : List Int) (s t : Int) (r : List Nat × Option Nat) : Prop := ∃ ps vs x j w, Wk ws left s t ps vs x ∧ frst ws left x = some j ∧ ws[j]? = some w ∧ r.1 = ps ++ [j] ∧ ((wt w = t ∧ r.2 = none) ∨ (wt w ≠ t ∧ wt w ∈ vs ∧ r.2 = some (vs.idxOf (wt w))))
section
variable {ws : List Wy} {left : List Int} {s t x : Int} {ps : List Nat} {vs : List Int}
/-- a turn of a walk -/
theorem wk_turn {n : Nat} (W : Wk ws left s t ps vs x) (C : Cn ws left s t) (h0 : ∃ k, frst ws left s = some k) : ∃ j w, frst ws left x = some j ∧ ws[j]? = some w ∧ wg w = x ∧ 0 < left.getD j 0 ∧
    ((wt w = t ∧ wk ws left t (n + 1) ps vs x = (ps ++ [j], none)) ∨ (wt w ≠ t ∧ wt w ∈ vs ∧ wk ws left t (n + 1) ps vs x = (ps ++ [j], some (vs.idxOf (wt w)))) ∨
      (wt w ≠ t ∧ wt w ∉ vs ∧ wk ws left t (n + 1) ps vs x = wk ws left t n (ps ++ [j]) (vs ++ [wt w]) (wt w) ∧ Wk ws left s t (ps ++ [j]) (vs ++ [wt w]) (wt w))) := by
  obtain ⟨j, ej⟩ := W.go C h0
  obtain ⟨w, ew, hg, hl⟩ := frst_some ej
  refine ⟨j, w, ej, ew, hg, hl, ?_⟩
  have e : wk ws left t (n + 1) ps vs x = if wt w = t then (ps ++ [j], none) else if wt w ∈ vs then (ps ++ [j], some (vs.idxOf (wt w))) else wk ws left t n (ps ++ [j]) (vs ++ [wt w]) (wt w) := by
    show (match frst ws left x with
      | none => (ps, none)
      | some j => if (ws.map wt).getD j 0 = t then (ps ++ [j], none) else if (ws.map wt).getD j 0 ∈ vs then (ps ++ [j], some (vs.idxOf ((ws.map wt).getD j 0))) else wk ws left t n (ps ++ [j]) (vs ++ [(ws.map wt).getD j 0]) ((ws.map wt).getD j 0)) = _
    rw [ej]
    simp only [wt_getD ew]
  by_cases a : wt w = t
  · exact .inl ⟨a, by rw [e, if_pos a]⟩
  · by_cases b : wt w ∈ vs
    · exact .inr (.inl ⟨a, b, by rw [e, if_neg a, if_pos b]⟩)
    · exact .inr (.inr ⟨a, b, by rw [e, if_neg a, if_neg b], W.add ew hg hl a b⟩)
theorem wk_fin (C : Cn ws left s t) (h0 : ∃ k, frst ws left s = some k) : ∀ (n : Nat) {ps : List Nat} {vs : List Int} {x : Int}, Wk ws left s t ps vs x → ws.length + 1 ≤ n + ps.length → Fin0 ws left s t (wk ws left t n ps vs x)
  | 0, ps, vs, x, W, h => by have := W.few; omega
  | n + 1, ps, vs, x, W, h => by
    obtain ⟨j, w, e1, e2, e3, e4, e5⟩ := wk_turn (n := n) W C h0
    rcases e5 with ⟨a, e⟩ | ⟨a, b, e⟩ | ⟨a, b, e, W'⟩
    · exact ⟨ps, vs, x, j, w, W, e1, e2, by rw [e], .inl ⟨a, by rw [e]⟩⟩
    · exact ⟨ps, vs, x, j, w, W, e1, e2, by rw [e], .inr ⟨a, b, by rw [e]⟩⟩
    · rw [e]
      exact wk_fin C h0 n W' (by rw [List.length_append]; simp; omega)
end
def dE (w : Wy) : D := .tup [.int (wg w), .int (wt w)]
section
variable {h : DH} {P : KD} {R : KX} {a b c d y : Addr} {ws : List Wy} {fs left : List Int} {s t x v : Int}
theorem frst_pre {pre rest : List (Nat × Wy)} (ez : (List.range ws.length).zip ws = pre ++ rest) (hp : ∀ q ∈ pre, hit left x q = false) : frst ws left x = (rest.find? (hit left x)).map (·.1) := by
  unfold frst
  rw [ez, List.find?_append, List.find?_eq_none.mpr fun q hq => by rw [hp q hq]; simp]
  rfl
theorem wayon_spec (ha : h a = some (.lst (ws.map dW))) (hb : h b = some (.lst (left.map D.int))) (hl : left.length = ws.length) (ok : P (dN? (frst ws left x)) h) : sp_way_on [.ref a, .ref b, .int x] h P R := by
  unfold sp_way_on t_way_on
  walk_at "au"
  rw [enumD_map]
  refine for_ind (fun rem e h' => ∃ pre rest x3 x4, (List.range ws.length).zip ws = pre ++ rest ∧ rem = rest.map (fun q => D.tup [.int (q.1 : Nat), dW q.2]) ∧ (∀ q ∈ pre, hit left x q = false) ∧ h' = h ∧ e = [some (.ref a), some (.ref b), some (.int x), x3, x4])
    (fun g r e h' X i next => ?_) (fun e h' i => ?_) _ _ _ ⟨[], _, none, none, rfl, rfl, (fun _ z => by cases z), rfl, rfl⟩
  · obtain ⟨pre, rest, x3, x4, ez, er, hp, rfl, rfl⟩ := i
    cases rest with
    | nil => cases er
    | cons g rest =>
      obtain ⟨rfl, rfl⟩ := List.cons.inj er
      have gm : ws[g.1]? = some g.2 := mem_enum.mp (by rw [ez]; simp)
      have gl := (List.getElem?_eq_some_iff.mp gm).1
      obtain ⟨gi, w⟩ := g
      simp only at gm gl
      obtain ⟨f, ef⟩ : ∃ f, left[gi]? = some f := ⟨_, List.getElem?_eq_getElem (by omega)⟩
      have ef2 : left.getD gi 0 = f := by rw [List.getD_eq_getElem?_getD, ef]; rfl
      have no : hit left x (gi, w) = false → ∀ x3 x4, X [some (.ref a), some (.ref b), some (.int x), x3, x4] h' := fun z x3 x4 => next _ _ ⟨pre ++ [(gi, w)], rest, _, _, by rw [ez]; simp, rfl, fun q hq => by
        rcases List.mem_append.mp hq with hq | hq
        · exact hp q hq
        · rw [List.mem_singleton.mp hq]; exact z, rfl, rfl⟩
      unfold hit at no
      simp only [ef2] at no
      refine ⟨ha, ?_⟩
      simp only [dW_eq]
      walk_at "au"
      split
      · rename_i z1
        walk_at "au"
        refine go_at (atI_i ef) ?_
        walk_at "au"
        walk_at "br"
        split
        · rename_i z2
          walk_at "au"
          rw [frst_pre ez hp, List.find?_cons] at ok
          unfold hit at ok
          simp only [ef2, z1, decide_eq_true z2, Bool.and_self] at ok
          exact fgt ok
        · rename_i z2
          walk_at "au"
          exact no (by rw [decide_eq_false z2, Bool.and_false]) _ _
      · rename_i z1
        exact no (by rw [Bool.eq_false_iff.mpr z1, Bool.false_and]) _ _
  · obtain ⟨pre, rest, x3, x4, ez, er, hp, rfl, rfl⟩ := i
    cases rest with
    | cons g rest => cases er
    | nil =>
      refine ⟨ha, ?_⟩
      walk_at "au"
      rw [frst_pre ez hp] at ok
      exact fgt ok
theorem zip_at {ws : List Wy} {k : Nat} {w : Wy} (e : ws[k]? = some w) : ((List.range ws.length).zip ws)[k]? = some (k, w) := by
  rw [List.getElem?_zip_eq_some]
  exact ⟨List.getElem?_range (List.getElem?_eq_some_iff.mp e).1, e⟩
theorem lfirst_spec (ha : h a = some (.lst (ws.map dE))) (hb : h b = some (.lst (left.map D.int))) (hl : left.length = ws.length) (hw : ws.length ≤ 100) (ok : P (dN? (frst ws left x)) h) : sp_law_first [.ref a, .ref b, .int x] h P R := by
  unfold sp_law_first t_law_first
  walk_at "au"
  rw [Int.toNat_natCast]
  refine for_rng (fun k e h' => ∃ x3 pre rest, (List.range ws.length).zip ws = pre ++ rest ∧ pre.length = k ∧ (∀ q ∈ pre, hit left x q = false) ∧ h' = h ∧ e = [some (.ref a), some (.ref b), some (.int x), x3]) (fun k e h' X hk i next => ?_) (fun e h' i => ?_) _ _ ⟨none, [], _, rfl, rfl, (fun _ z => by cases z), rfl, rfl⟩
  · obtain ⟨x3, pre, rest, ez, el, hp, rfl, rfl⟩ := i
    obtain ⟨w, ew⟩ : ∃ w, ws[k]? = some w := ⟨_, List.getElem?_eq_getElem hk⟩
    have z0 := zip_at ew
    rw [ez, List.getElem?_append_right (by omega), el, Nat.sub_self] at z0
    cases rest with
    | nil => cases z0
    | cons g rest =>
      have eg : g = (k, w) := by simpa using z0
      subst eg
      obtain ⟨f, ef⟩ : ∃ f, left[k]? = some f := ⟨_, List.getElem?_eq_getElem (by omega)⟩
      have eW : (ws.map dE)[k]? = some (dE w) := by rw [List.getElem?_map, ew]; rfl
      have ef2 : left.getD k 0 = f := by rw [List.getD_eq_getElem?_getD, ef]; rfl
      have no : hit left x (k, w) = false → ∀ x3, X [some (.ref a), some (.ref b), some (.int x), x3] h' := fun z x3 => next _ _ ⟨_, pre ++ [(k, w)], rest, by rw [ez]; simp, by simp [el], fun q hq => by
        rcases List.mem_append.mp hq with hq | hq
        · exact hp q hq
        · rw [List.mem_singleton.mp hq]; exact z, rfl, rfl⟩
      unfold hit at no
      simp only [ef2] at no
      walk_at "au"
      refine go_at (atI_of rfl eW) ?_
      unfold dE
      walk_at "au"
      split
      · rename_i z1
        walk_at "au"
        refine go_at (atI_i ef) ?_
        walk_at "au"
        walk_at "br"
        split
        · rename_i z2
          walk_at "au"
          rw [frst_pre ez hp, List.find?_cons] at ok
          unfold hit at ok
          simp only [ef2, z1, decide_eq_true z2, Bool.and_self] at ok
          exact fgt ok
        · rename_i z2
          walk_at "au"
          exact no (by rw [decide_eq_false z2, Bool.and_false]) _
      · rename_i z1
        exact no (by rw [Bool.eq_false_iff.mpr z1, Bool.false_and]) _
  · obtain ⟨x3, pre, rest, ez, el, hp, rfl, rfl⟩ := i
    walk_at "au"
    have lr : rest = [] := by
      have := congrArg List.length ez
      simp at this
      exact List.length_eq_zero_iff.mp (by omega)
    subst lr
    rw [frst_pre ez hp] at ok
    exact fgt ok
theorem walk_spec (ha : h a = some (.lst (ws.map dW))) (hb : h b = some (.lst (left.map D.int))) (hw : ws.length ≤ 100) (C : Cn ws left s t) (st : s ≠ t) (h0 : ∃ k, frst ws left s = some k)
    (ok : ∀ p H, Sub h H → h p = none → H p = some (.lst ((wk ws left t (ws.length + 1) [] [s] s).1.map fun j : Nat => D.int j)) → P (.tup [.ref p, dN? (wk ws left t (ws.length + 1) [] [s] s).2]) H) : sp_walk [.ref a, .ref b, .int s, .int t] h P R := by
  unfold sp_walk t_walk
  walk_at "au"
  refine go_newE fun q fq => ?_
  walk_at "au"
  refine go_newE fun v fv => ?_
  obtain ⟨nvq, fv'⟩ := up_none fv
  walk_at "au"
  have S0 : Sub h (up (up h q (.lst [])) v (.lst [.int s])) := Sub.over (Sub.new fq) fv'
  refine while_ind (fun m e h' => ∃ ps vs x x7, ((∃ n, m = n + 1 ∧ n + ps.length = ws.length + 1 ∧ Wk ws left s t ps vs x ∧ wk ws left t (ws.length + 1) [] [s] s = wk ws left t n ps vs x) ∨ (x = t ∧ wk ws left t (ws.length + 1) [] [s] s = (ps, none))) ∧ Sub h h' ∧ h' q = some (.lst (ps.map fun j : Nat => D.int j)) ∧ h' v = some (.lst (vs.map D.int)) ∧ e = [some (.ref a), some (.ref b), some (.int s), some (.int t), some (.ref q), some (.ref v), some (.int x), x7])
    (fun m e h' X i next => ?_) (ws.length + 2) _ _ ⟨[], [s], s, none, .inl ⟨ws.length + 1, rfl, rfl, Wk.new st, rfl⟩, S0, by rw [up_ne (Ne.symm nvq)]; exact up_same, up_same, rfl⟩
  obtain ⟨ps, vs, x, x7, hx, S, hq, hv, rfl⟩ := i
  have ha := S _ _ ha
  have hb := S _ _ hb
  rcases hx with ⟨n, rfl, en, W, e⟩ | ⟨rfl, e⟩
  · have xt : x ≠ t := W.nt x (List.mem_of_getElem? W.lt)
    have few := W.few
    have vl := W.len
    cases n with
    | zero => omega
    | succ m =>
      walk_at "au"
      rw [decide_eq_false xt]
      walk_at "au"
      obtain ⟨j, w, e1, e2, e3, e4, e5⟩ := wk_turn (n := m) W C h0
      refine wayon_spec ha hb C.n ?_
      rw [e1]
      simp only [dN?]
      walk_at "au"
      refine go_appL hq (by rw [List.length_map]; exact small1000 (by omega)) ?_
      have eW : (ws.map dW)[j]? = some (dW w) := by rw [List.getElem?_map, e2]; rfl
      have S1 : Sub h (up h' q (.lst (ps.map (fun j : Nat => D.int j) ++ [D.int (j : Nat)]))) := Sub.over S fq
      have hq1 : up h' q (.lst (ps.map (fun j : Nat => D.int j) ++ [D.int (j : Nat)])) q = some (.lst ((ps ++ [j]).map fun j : Nat => D.int j)) := by rw [up_same, List.map_append]; rfl
      have hv1 : up h' q (.lst (ps.map (fun j : Nat => D.int j) ++ [D.int (j : Nat)])) v = some (.lst (vs.map D.int)) := by rw [up_ne nvq]; exact hv
      generalize up h' q (.lst (ps.map (fun j : Nat => D.int j) ++ [D.int (j : Nat)])) = h1 at *
      have ha1 : h1 a = some (.lst (ws.map dW)) := S1 _ _ (by assumption)
      walk_at "au"
      refine go_at (atI_of rfl eW) ?_
      rw [dW_eq]
      walk_at "au"
      rw [da_int.inL (by decide) hv1]
      have nx : ∀ x7, ((∃ n, m + 1 = n + 1 ∧ n + (ps ++ [j]).length = ws.length + 1 ∧ Wk ws left s t (ps ++ [j]) (vs ++ [wt w]) (wt w) ∧ wk ws left t (ws.length + 1) [] [s] s = wk ws left t n (ps ++ [j]) (vs ++ [wt w]) (wt w)) ∨ (wt w = t ∧ wk ws left t (ws.length + 1) [] [s] s = (ps ++ [j], none))) →
          X [some (.ref a), some (.ref b), some (.int s), some (.int t), some (.ref q), some (.ref v), some (.int (wt w)), x7] (up h1 v (.lst (vs.map D.int ++ [D.int (wt w)]))) := fun x7 z =>
        next (m + 1) _ _ (by omega) ⟨ps ++ [j], vs ++ [wt w], wt w, x7, z, Sub.over S1 fv', by rw [up_ne (Ne.symm nvq)]; exact hq1, by rw [up_same, List.map_append]; rfl, rfl⟩
      rcases e5 with ⟨g1, g2⟩ | ⟨g1, g2, g3⟩ | ⟨g1, g2, g3, W'⟩
      · have : wt w ∉ vs := fun z => W.nt _ z g1
        rw [decide_eq_false this]
        walk_at "au"
        refine go_appL hv1 (by rw [List.length_map]; exact small1000 (by omega)) ?_
        exact nx _ (.inr ⟨g1, by rw [e, g2]⟩)
      · rw [decide_eq_true g2]
        walk_at "au"
        rw [decide_eq_false g1]
        walk_at "au"
        refine ⟨vs, vs.idxOf (wt w), hv1, ?_, fun k hk ek => ?_, ?_⟩
        · obtain ⟨i, ei⟩ := List.mem_iff_getElem?.mp g2
          rw [idx_nd W.nd ei]; exact ei
        · have := idx_nd W.nd ek
          omega
        · walk_at "au"
          have := ok q h1 S1 fq (by rw [e, g3]; exact hq1)
          rw [e, g3] at this
          exact fgt this
      · rw [decide_eq_false g2]
        walk_at "au"
        refine go_appL hv1 (by rw [List.length_map]; exact small1000 (by omega)) ?_
        exact nx _ (.inl ⟨m, rfl, by rw [List.length_append]; simp; omega, W', by rw [e, g3]⟩)
  · walk_at "au"
    have := ok q h' S fq (by rw [e]; exact hq)
    rw [e] at this
    exact fgt this
end
def tl (r : List Nat × Option Nat) : List Nat := match r.2 with
  | none => r.1
  | some k => r.1.drop k
section
variable {h : DH} {P : KD} {R : KX} {a b c d y : Addr} {ws : List Wy} {fs left : List Int} {s t x v : Int}
theorem lwalk_spec (ha : h a = some (.lst (ws.map dE))) (hb : h b = some (.lst (left.map D.int))) (hw : ws.length ≤ 100) (C : Cn ws left s t) (st : s ≠ t) (h0 : ∃ k, frst ws left s = some k)
    (ok : ∀ p H, Sub h H → h p = none → H p = some (.lst ((tl (wk ws left t (ws.length + 1) [] [s] s)).map fun j : Nat => D.int j)) → P (.tup [.ref p, .bl (wk ws left t (ws.length + 1) [] [s] s).2.isNone]) H) : sp_law_walk [.ref a, .ref b, .int s, .int t] h P R := by
  unfold sp_law_walk t_law_walk
  walk_at "au"
  refine go_newE fun q fq => ?_
  walk_at "au"
  refine go_newE fun v fv => ?_
  obtain ⟨nvq, fv'⟩ := up_none fv
  have S0 : Sub h (up (up h q (.lst [])) v (.lst [.int s])) := Sub.over (Sub.new fq) fv'
  have hq0 : up (up h q (.lst [])) v (.lst [.int s]) q = some (.lst []) := by rw [up_ne (Ne.symm nvq)]; exact up_same
  have hv0 : up (up h q (.lst [])) v (.lst [.int s]) v = some (.lst [.int s]) := up_same
  generalize up (up h q (.lst [])) v (.lst [.int s]) = h0' at *
  have ha0 := S0 _ _ ha
  walk_at "au"
  rw [show ((ws.length : Nat) : Int) + 2 = ((ws.length + 2 : Nat) : Int) by omega, Int.toNat_natCast]
  refine for_rng (fun k e h' => ∃ ps vs x x6 x7 x8, ps.length = k ∧ Wk ws left s t ps vs x ∧ (∃ n, n + k = ws.length + 1 ∧ wk ws left t (ws.length + 1) [] [s] s = wk ws left t n ps vs x) ∧ Sub h h' ∧ h' q = some (.lst (ps.map fun j : Nat => D.int j)) ∧ h' v = some (.lst (vs.map D.int)) ∧ e = [some (.ref a), some (.ref b), some (.int s), some (.int t), some (.ref q), some (.ref v), x6, x7, x8])
    (fun k e h' X hk i next => ?_) (fun e h' i => ?_) _ _ ⟨[], [s], s, none, none, none, rfl, Wk.new st, ⟨_, rfl, rfl⟩, S0, hq0, hv0, rfl⟩
  · obtain ⟨ps, vs, x, x6, x7, x8, el, W, ⟨n, en, e⟩, S, hq, hv, rfl⟩ := i
    have few := W.few
    have vl := W.len
    have ha := S _ _ ha
    have hb := S _ _ hb
    cases n with
    | zero => omega
    | succ m =>
      walk_at "au"
      refine go_at (atI_of (j := ps.length) (by omega) (by rw [List.getElem?_map, W.lt]; rfl)) ?_
      walk_at "au"
      obtain ⟨j, w, e1, e2, e3, e4, e5⟩ := wk_turn (n := m) W C h0
      refine lfirst_spec ha hb C.n hw ?_
      rw [e1]
      simp only [dN?]
      walk_at "au"
      refine go_appL hq (by rw [List.length_map]; exact small1000 (by omega)) ?_
      have eW : (ws.map dE)[j]? = some (dE w) := by rw [List.getElem?_map, e2]; rfl
      have S1 : Sub h (up h' q (.lst (ps.map (fun j : Nat => D.int j) ++ [D.int (j : Nat)]))) := Sub.over S fq
      have hq1 : up h' q (.lst (ps.map (fun j : Nat => D.int j) ++ [D.int (j : Nat)])) q = some (.lst ((ps ++ [j]).map fun j : Nat => D.int j)) := by rw [up_same, List.map_append]; rfl
      have hv1 : up h' q (.lst (ps.map (fun j : Nat => D.int j) ++ [D.int (j : Nat)])) v = some (.lst (vs.map D.int)) := by rw [up_ne nvq]; exact hv
      generalize up h' q (.lst (ps.map (fun j : Nat => D.int j) ++ [D.int (j : Nat)])) = h1 at *
      have ha1 : h1 a = some (.lst (ws.map dE)) := S1 _ _ (by assumption)
      walk_at "au"
      refine go_at (atI_of rfl eW) ?_
      unfold dE
      walk_at "au"
      rcases e5 with ⟨g1, g2⟩ | ⟨g1, g2, g3⟩ | ⟨g1, g2, g3, W'⟩
      · rw [decide_eq_true g1]
        walk_at "au"
        have := ok q h1 S1 fq (by rw [e, g2]; exact hq1)
        rw [e, g2] at this
        exact fgt this
      · rw [decide_eq_false g1]
        walk_at "au"
        rw [da_int.inL (by decide) hv1, decide_eq_true g2]
        walk_at "au"
        refine ⟨vs, vs.idxOf (wt w), hv1, ?_, fun k hk ek => ?_, ?_⟩
        · obtain ⟨i, ei⟩ := List.mem_iff_getElem?.mp g2
          rw [idx_nd W.nd ei]; exact ei
        · have := idx_nd W.nd ek
          omega
        · walk_at "au"
          rw [cut_from (by omega), Int.toNat_natCast]
          refine go_new fun p h2 fp S2 hp => ?_
          walk_at "au"
          have := ok p h2 (S1.trans S2) (sub_none S1 fp) (by rw [e, g3]; show h2 p = some (.lst (((ps ++ [j]).drop (vs.idxOf (wt w))).map fun j : Nat => D.int j)); rw [List.map_drop]; exact hp)
          rw [e, g3] at this
          exact fgt this
      · rw [decide_eq_false g1]
        walk_at "au"
        rw [da_int.inL (by decide) hv1, decide_eq_false g2]
        walk_at "au"
        refine go_appL hv1 (by rw [List.length_map]; exact small1000 (by omega)) ?_
        exact next _ _ ⟨ps ++ [j], vs ++ [wt w], wt w, _, _, _, by rw [List.length_append, el]; rfl, W', ⟨m, by omega, by rw [e, g3]⟩, Sub.over S1 fv', by rw [up_ne (Ne.symm nvq)]; exact hq1, by rw [up_same, List.map_append]; rfl, rfl⟩
  · obtain ⟨ps, vs, x, x6, x7, x8, el, W, ⟨n, en, e⟩, S, hq, hv, rfl⟩ := i
    omega
end
def mn : List Int → Int
  | [] => 0
  | a :: l => if l = [] then a else min a (mn l)
theorem mn_ok : ∀ {l : List Int}, l ≠ [] → mn l ∈ l ∧ ∀ y ∈ l, mn l ≤ y
  | [], h => absurd rfl h
  | a :: l, _ => by
    unfold mn
    by_cases e : l = []
    · subst e
      rw [if_pos rfl]
      exact ⟨List.mem_singleton.mpr rfl, fun y hy => by rw [List.mem_singleton.mp hy]; exact Int.le_refl _⟩
    · rw [if_neg e]
      obtain ⟨h1, h2⟩ := mn_ok e
      refine ⟨?_, fun y hy => ?_⟩
      · rcases (by omega : min a (mn l) = a ∨ min a (mn l) = mn l) with z | z
        · rw [z]; exact List.mem_cons_self ..
        · rw [z]; exact List.mem_cons_of_mem _ h1
      · rcases List.mem_cons.mp hy with z | z
        · rw [z]; omega
        · have := h2 y z; omega
theorem mn_eq {l : List Int} {m : Int} (h1 : m ∈ l) (h2 : ∀ y ∈ l, m ≤ y) : mn l = m := by
  obtain ⟨a, b⟩ := mn_ok (l := l) fun e => by rw [e] at h1; cases h1
  have := b m h1
  have := h2 _ a
  omega
def sub (m : Int) (left : List Int) (js : List Nat) : List Int := js.foldl (fun l j => l.set j (l.getD j 0 - m)) left
theorem sub_len {m : Int} : ∀ {js : List Nat} {left : List Int}, (sub m left js).length = left.length
  | [], left => rfl
  | j :: js, left => by
    show (sub m _ js).length = _
    rw [sub_len, List.length_set]
theorem sub_get {m : Int} {i : Nat} : ∀ {js : List Nat} {left : List Int}, js.Nodup → (∀ j ∈ js, j < left.length) → (sub m left js).getD i 0 = if i ∈ js then left.getD i 0 - m else left.getD i 0
  | [], left, _, _ => by simp [sub]
  | j :: js, left, n, hl => by
    rw [List.nodup_cons] at n
    have jl := hl j (List.mem_cons_self ..)
    show (sub m (left.set j (left.getD j 0 - m)) js).getD i 0 = _
    rw [sub_get n.2 fun k hk => by rw [List.length_set]; exact hl k (List.mem_cons_of_mem _ hk)]
    by_cases e : i = j
    · subst e
      rw [if_neg n.1, if_pos (List.mem_cons_self ..), List.getD_eq_getElem?_getD, List.getElem?_set_self jl]; rfl
    · have e2 : (left.set j (left.getD j 0 - m)).getD i 0 = left.getD i 0 := by
        rw [List.getD_eq_getElem?_getD, List.getElem?_set_ne (Ne.symm e), ← List.getD_eq_getElem?_getD]
      rw [e2]
      by_cases k : i ∈ js
      · rw [if_pos k, if_pos (List.mem_cons_of_mem _ k)]
      · rw [if_neg k, if_neg fun z => (List.mem_cons.mp z).elim e k]
/-- a chain of places -/
def Ch (ws : List Wy) : Int → List Nat → Int → Prop
  | x, [], y => x = y
  | x, j :: js, y => ∃ w, ws[j]? = some w ∧ wg w = x ∧ Ch ws (wt w) js y
theorem Ch.app {ws : List Wy} {z : Int} : ∀ {js ks : List Nat} {x y : Int}, Ch ws x js y → Ch ws y ks z → Ch ws x (js ++ ks) z
  | [], ks, x, y, a, b => by rw [show x = y from a]; exact b
  | j :: js, ks, x, y, a, b => by
    obtain ⟨w, e, g, c⟩ := a
    exact ⟨w, e, g, c.app b⟩
theorem out_sub {ws : List Wy} {m z : Int} : ∀ {js : List Nat} {left : List Int} {x y : Int}, Ch ws x js y → left.length = ws.length → out ws (sub m left js) z = out ws left z - (if x = z then m else 0) + (if y = z then m else 0)
  | [], left, x, y, c, _ => by
    rw [show x = y from c]
    show out ws left z = _
    omega
  | j :: js, left, x, y, c, hl => by
    obtain ⟨w, e, g, c⟩ := c
    obtain ⟨f, ef⟩ : ∃ f, left[j]? = some f := ⟨_, List.getElem?_eq_getElem (by rw [hl]; exact (List.getElem?_eq_some_iff.mp e).1)⟩
    show out ws (sub m (left.set j (left.getD j 0 - m)) js) z = _
    rw [out_sub c (by rw [List.length_set]; exact hl), show left.getD j 0 = f by rw [List.getD_eq_getElem?_getD, ef]; rfl, show f - m = f + (-m) by omega, out_set ws left j w f (-m) z e ef, g]
    by_cases a : x = z <;> by_cases b : wt w = z <;> simp only [a, b, if_true, if_false] <;> omega
section
variable {ws : List Wy} {left : List Int} {s t x : Int} {ps : List Nat} {vs : List Int}
/-- the places from the i-th on are a chain -/
theorem Wk.chain (W : Wk ws left s t ps vs x) : ∀ (n i : Nat) (v : Int), i + n = ps.length → vs[i]? = some v → Ch ws v (ps.drop i) x
  | 0, i, v, hi, hv => by
    rw [List.drop_of_length_le (by omega)]
    have := W.lt
    rw [show ps.length = i by omega, hv] at this
    exact Option.some.inj this
  | n + 1, i, v, hi, hv => by
    have il : i < ps.length := by omega
    rw [List.drop_eq_getElem_cons il]
    obtain ⟨w, a1, a2, a3, a4⟩ := W.stp i _ (List.getElem?_eq_getElem il)
    rw [hv] at a2
    exact ⟨w, a1, (Option.some.inj a2).symm, W.chain n (i + 1) (wt w) (by omega) a3⟩
/-- what a turn takes off: places js from y0 to y1 -/
structure Tn (ws : List Wy) (left : List Int) (js : List Nat) (y0 y1 : Int) : Prop where
  ne : js ≠ []
  nd : js.Nodup
  ch : Ch ws y0 js y1
  l : ∀ j ∈ js, j < ws.length ∧ 0 < left.getD j 0
theorem Fin0.turn {r : List Nat × Option Nat} (F : Fin0 ws left s t r) : ∃ y0 y1, Tn ws left (tl r) y0 y1 ∧ ((r.2 = none ∧ y0 = s ∧ y1 = t) ∨ (r.2 ≠ none ∧ y0 = y1)) := by
  obtain ⟨ps, vs, x, j, w, W, e1, e2, e3, e4⟩ := F
  obtain ⟨w', a1, a2, a3⟩ := frst_some e1
  rw [e2] at a1
  cases a1
  have nd : (ps ++ [j]).Nodup := by
    rw [List.nodup_append]
    refine ⟨W.psnd, by simp, fun i hi k hk e => ?_⟩
    rw [List.mem_singleton.mp hk] at e
    subst e
    obtain ⟨n, en⟩ := List.mem_iff_getElem?.mp hi
    obtain ⟨w', b1, b2, _⟩ := W.stp n _ en
    rw [e2] at b1
    cases b1
    have h1 := idx_nd W.nd b2
    have h2 := idx_nd W.nd W.lt
    rw [a2] at h1
    have := (List.getElem?_eq_some_iff.mp en).1
    omega
  have lj : ∀ i ∈ ps ++ [j], i < ws.length ∧ 0 < left.getD i 0 := fun i hi => by
    rcases List.mem_append.mp hi with hi | hi
    · obtain ⟨n, en⟩ := List.mem_iff_getElem?.mp hi
      obtain ⟨w', b1, _, _, b4⟩ := W.stp n i en
      exact ⟨(List.getElem?_eq_some_iff.mp b1).1, b4⟩
    · rw [List.mem_singleton.mp hi]
      exact ⟨(List.getElem?_eq_some_iff.mp e2).1, a3⟩
  have c1 : Ch ws x [j] (wt w) := ⟨w, e2, a2, rfl⟩
  rcases e4 with ⟨h1, h2⟩ | ⟨h1, h2, h3⟩
  · refine ⟨s, t, ?_, .inl ⟨h2, rfl, rfl⟩⟩
    have : tl r = ps ++ [j] := by unfold tl; rw [h2]; exact e3
    rw [this]
    have c0 := W.chain ps.length 0 s (by omega) W.hd
    rw [List.drop_zero] at c0
    rw [h1] at c1
    exact ⟨by simp, nd, c0.app c1, lj⟩
  · refine ⟨wt w, wt w, ?_, .inr ⟨by rw [h3]; simp, rfl⟩⟩
    obtain ⟨i, ei⟩ := List.mem_iff_getElem?.mp h2
    have ii := idx_nd W.nd ei
    have il := (List.getElem?_eq_some_iff.mp ei).1
    have vl := W.len
    have : tl r = ps.drop i ++ [j] := by
      unfold tl
      rw [h3, e3, ii]
      exact List.drop_append_of_le_length (by omega)
    rw [this]
    have c0 := W.chain (ps.length - i) i (wt w) (by omega) ei
    have sl : (ps.drop i ++ [j]).Sublist (ps ++ [j]) := List.Sublist.append (List.drop_sublist i ps) (List.Sublist.refl _)
    exact ⟨by simp, nd.sublist sl, c0.app c1, fun k hk => lj k (sl.subset hk)⟩
/-- what a turn leaves -/
def amt (left : List Int) (js : List Nat) : Int := mn (js.map fun j => left.getD j 0)
theorem Tn.amtT {js : List Nat} {y0 y1 : Int} (T : Tn ws left js y0 y1) : 1 ≤ amt left js ∧ (∀ j ∈ js, amt left js ≤ left.getD j 0) ∧ ∃ j ∈ js, left.getD j 0 = amt left js := by
  have ne : (js.map fun j => left.getD j 0) ≠ [] := fun e => T.ne (List.map_eq_nil_iff.mp e)
  obtain ⟨h1, h2⟩ := mn_ok ne
  obtain ⟨j, hj, e⟩ := List.mem_map.mp h1
  have := (T.l j hj).2
  show 1 ≤ mn _ ∧ (∀ j ∈ js, mn _ ≤ left.getD j 0) ∧ ∃ j ∈ js, left.getD j 0 = mn _
  exact ⟨by omega, fun j hj => h2 _ (List.mem_map.mpr ⟨j, hj, rfl⟩), j, hj, e⟩
theorem Tn.cn {js : List Nat} {y0 y1 : Int} (T : Tn ws left js y0 y1) (C : Cn ws left s t) (hy : (y0 = s ∧ y1 = t) ∨ y0 = y1) : Cn ws (sub (amt left js) left js) s t := by
  obtain ⟨a1, a2, _⟩ := T.amtT
  refine ⟨by rw [sub_len]; exact C.n, fun j => ?_, fun z n1 n2 => ?_⟩
  · rw [sub_get T.nd fun k hk => by rw [C.n]; exact (T.l k hk).1]
    split
    · rename_i hj
      have := a2 j hj; omega
    · exact C.p j
  · rw [out_sub T.ch C.n, C.c z n1 n2]
    rcases hy with ⟨e1, e2⟩ | e
    · rw [e1, e2, if_neg (Ne.symm n1), if_neg (Ne.symm n2)]; rfl
    · rw [e]; omega
/-- how many places are left -/
def pos (left : List Int) : Nat := left.countP fun x => decide (0 < x)
theorem pos_le : ∀ {l l' : List Int}, l.length = l'.length → (∀ j, 0 < l'.getD j 0 → 0 < l.getD j 0) → pos l' ≤ pos l ∧ ((∃ j, 0 < l.getD j 0 ∧ ¬ 0 < l'.getD j 0) → pos l' < pos l)
  | [], [], _, _ => ⟨Nat.le_refl _, fun ⟨j, a, _⟩ => by simp at a⟩
  | [], _ :: _, h, _ => by simp at h
  | _ :: _, [], h, _ => by simp at h
  | a :: l, b :: l', h, g => by
    obtain ⟨i1, i2⟩ := pos_le (l := l) (l' := l') (by simpa using h) fun j hj => by have := g (j + 1); simpa using this (by simpa using hj)
    have g0 : 0 < b → 0 < a := fun z => by have := g 0; simpa using this (by simpa using z)
    have ea : pos (a :: l) = pos l + if 0 < a then 1 else 0 := by unfold pos; rw [List.countP_cons]; simp
    have eb : pos (b :: l') = pos l' + if 0 < b then 1 else 0 := by unfold pos; rw [List.countP_cons]; simp
    rw [ea, eb]
    refine ⟨?_, fun ⟨j, ja, jb⟩ => ?_⟩
    · by_cases z : 0 < b
      · rw [if_pos z, if_pos (g0 z)]; omega
      · rw [if_neg z]; omega
    · cases j with
      | zero =>
        simp only [List.getD_cons_zero] at ja jb
        rw [if_pos ja, if_neg jb]; omega
      | succ j =>
        simp only [List.getD_cons_succ] at ja jb
        have := i2 ⟨j, ja, jb⟩
        by_cases z : 0 < b
        · rw [if_pos z, if_pos (g0 z)]; omega
        · rw [if_neg z]; omega
theorem Tn.posT {js : List Nat} {y0 y1 : Int} (T : Tn ws left js y0 y1) (hl : left.length = ws.length) : pos (sub (amt left js) left js) < pos left := by
  obtain ⟨a1, a2, k, hk, ek⟩ := T.amtT
  have g := fun i => sub_get (m := amt left js) (i := i) T.nd fun k hk => by rw [hl]; exact (T.l k hk).1
  refine (pos_le (by rw [sub_len]) fun j hj => ?_).2 ⟨k, (T.l k hk).2, ?_⟩
  · rw [g] at hj
    split at hj
    · rename_i z
      exact (T.l j z).2
    · exact hj
  · rw [g, if_pos hk]; omega
/-- the shares -/
def shr (ws : List Wy) (s t : Int) : Nat → List Int → List (List Nat × Int) → List (List Nat × Int)
  | 0, _, acc => acc
  | n + 1, left, acc => match frst ws left s with
    | none => acc
    | some _ => shr ws s t n (sub (amt left (tl (wk ws left t (ws.length + 1) [] [s] s))) left (tl (wk ws left t (ws.length + 1) [] [s] s)))
      (if (wk ws left t (ws.length + 1) [] [s] s).2.isNone = true then acc ++ [(tl (wk ws left t (ws.length + 1) [] [s] s), amt left (tl (wk ws left t (ws.length + 1) [] [s] s)))] else acc)
end
theorem out_none {x : Int} : ∀ {ws : List Wy} {fs : List Int}, (∀ w ∈ ws, wg w ≠ x ∧ wt w ≠ x) → out ws fs x = 0
  | [], _, _ => rfl
  | w :: ws, [], _ => rfl
  | w :: ws, f :: fs, h => by
    show (if wg w = x then f else 0) - (if wt w = x then f else 0) + out ws fs x = 0
    rw [out_none fun w hw => h w (List.mem_cons_of_mem _ hw), if_neg (h w (List.mem_cons_self ..)).1, if_neg (h w (List.mem_cons_self ..)).2]; rfl
theorem OK.cn {ws : List Wy} {fs : List Int} {s t : Int} (o : OK ws fs s t) : Cn ws fs s t := by
  refine ⟨o.1.1, fun j => ?_, fun x n1 n2 => ?_⟩
  · rw [List.getD_eq_getElem?_getD]
    cases e : fs[j]? with
    | none => exact Int.le_refl _
    | some f =>
      have hj := (List.getElem?_eq_some_iff.mp e).1
      obtain ⟨w, ew⟩ : ∃ w, ws[j]? = some w := ⟨_, List.getElem?_eq_getElem (by rw [← o.1.1]; exact hj)⟩
      exact (o.1.2 j w f ew e).1
  · by_cases z : ∃ w ∈ ws, x = wg w ∨ x = wt w
    · obtain ⟨w, hw, e⟩ := z
      exact o.2 w hw x e n1 n2
    · exact out_none fun w hw => ⟨fun e => z ⟨w, hw, .inl e.symm⟩, fun e => z ⟨w, hw, .inr e.symm⟩⟩
def dSh (q : List Nat × Int) : D := .tup [.tup (q.1.map fun j : Nat => D.int j), .int q.2]
section
variable {h : DH} {P : KD} {R : KX} {a b c d y : Addr} {ws : List Wy} {fs left : List Int} {s t x v : Int} {js : List Nat}
theorem lift_spec (hb : h b = some (.lst (left.map D.int))) (hy : h y = some (.lst (js.map fun j : Nat => D.int j))) (nby : b ≠ y) (ne : js ≠ []) (hl : js.length ≤ 300) (hj : ∀ j ∈ js, j < left.length)
    (ok : ∀ H, Sub h H → P (.int (amt left js)) (up H b (.lst ((sub (amt left js) left js).map D.int)))) : sp_lift [.ref b, .ref y] h P R := by
  have gd : ∀ {l : List Int} {j : Nat}, j < l.length → l[j]? = some (l.getD j 0) := fun {l j} hj => by
    rw [List.getD_eq_getElem?_getD, List.getElem?_eq_getElem hj]; rfl
  unfold sp_lift t_lift
  walk_at "au"
  refine go_lcM (fun d => match d with
    | .int j => .int (left.getD j.toNat 0)
    | _ => .non) (by rw [List.length_map]; exact le1000 (by omega)) (fun L acc hL => up_at hy hL) (fun L acc dd X hL hdd h3 hX => ?_) (go_new fun q h1 fq S1 hq => ?_)
  · obtain ⟨j, hr, rfl⟩ := List.mem_map.mp hdd
    have hb' : up h L (.lst acc) b = some (.lst (left.map D.int)) := up_at hb hL
    simp only [Int.toNat_natCast] at hX
    walk_at "au"
    refine go_at (atI_i (gd (hj j hr))) ?_
    walk_at "au"
    exact hX
  have e1 : ((js.map fun j : Nat => D.int j).map fun d => match d with
    | .int j => .int (left.getD j.toNat 0)
    | _ => .non) = (js.map fun j => left.getD j 0).map D.int := by
    rw [List.map_map, List.map_map]
    refine List.map_congr_left fun j _ => ?_
    show D.int (left.getD (Int.toNat (j : Nat)) 0) = _
    rw [Int.toNat_natCast]; rfl
  rw [e1] at hq
  walk_at "au"
  refine go_minL hq (by rw [List.length_map]; cases js with
    | nil => exact absurd rfl ne
    | cons _ _ => simp) fun m m1 m2 => ?_
  have em : amt left js = m := mn_eq m1 m2
  rw [em] at ok
  have hb1 := S1 _ _ hb
  have hy1 := S1 _ _ hy
  walk_at "au"
  refine for_ind (fun rem e h' => ∃ pre rest x3, js = pre ++ rest ∧ rem = rest.map (fun j : Nat => D.int j) ∧ h' = up h1 b (.lst ((sub m left pre).map D.int)) ∧ e = [some (.ref b), some (.ref y), some (.int m), x3]) (fun g r e h' X i next => ?_) (fun e h' i => ?_) _ _ _ ⟨[], js, none, rfl, rfl, (up_id hb1).symm, rfl⟩
  · obtain ⟨pre, rest, x3, ez, er, rfl, rfl⟩ := i
    cases rest with
    | nil => cases er
    | cons j rest =>
      obtain ⟨rfl, rfl⟩ := List.cons.inj er
      refine ⟨up_neq' nby hy1, ?_⟩
      have jl : j < (sub m left pre).length := by rw [sub_len]; exact hj j (by rw [ez]; simp)
      walk_at "au"
      refine go_at (atI_i (gd jl)) ?_
      walk_at "au"
      refine go_setL (j := j) up_same (by unfold ixN; rw [List.length_map, if_pos (by omega), if_pos (by omega)]; rfl) ?_
      rw [up_up]
      refine next _ _ ⟨pre ++ [j], rest, _, by rw [ez]; simp, rfl, ?_, rfl⟩
      have : sub m left (pre ++ [j]) = (sub m left pre).set j ((sub m left pre).getD j 0 - m) := by
        unfold sub
        rw [List.foldl_append]; rfl
      rw [this, List.map_set]
  · obtain ⟨pre, rest, x3, ez, er, rfl, rfl⟩ := i
    cases rest with
    | cons g rest => cases er
    | nil =>
      rw [List.append_nil] at ez
      subst ez
      refine ⟨up_neq' nby hy1, ?_⟩
      walk_at "au"
      exact fgt (ok h1 S1)
theorem peel_spec (ha : h a = some (.lst (ws.map dW))) (hb : h b = some (.lst (fs.map D.int))) (hw : ws.length ≤ 50) (bad : ¬ OK ws fs s t ∨ s = t → R ⟨1, none⟩ h)
    (ok : OK ws fs s t → s ≠ t → ∀ p H, Sub h H → h p = none → H p = some (.lst ((shr ws s t 60 fs []).map dSh)) → P (.ref p) H) : sp_peel [.ref a, .ref b, .int s, .int t] h P R := by
  unfold sp_peel t_peel
  walk_at "au"
  refine check_spec ha (fun z => fgtX (bad (z.elim (fun z => by omega) .inr))) fun nb => ?_
  have st : s ≠ t := fun e => nb (.inr e)
  walk_at "au"
  refine isflow_spec ha hb (by omega) fun q hq => ?_
  cases q with
  | false =>
    walk_at "au"
    exact fgtX (bad (.inl fun o => by have := hq.mpr o; cases this))
  | true =>
    have o := hq.mp rfl
    walk_at "au"
    refine go_new fun b2 h1 fb2 S1 hb2 => ?_
    walk_at "au"
    refine go_newE fun p fp => ?_
    have npb : p ≠ b2 := fun z => by rw [z, hb2] at fp; cases fp
    have fbp : h b2 = none := fb2
    have fpp : h p = none := sub_none S1 fp
    have hp0 : up h1 p (.lst []) p = some (.lst []) := up_same
    have hb0 : up h1 p (.lst []) b2 = some (.lst (fs.map D.int)) := by rw [up_ne (Ne.symm npb)]; exact hb2
    have S0 : Sub h (up h1 p (.lst [])) := S1.trans (Sub.new fp)
    generalize up h1 p (.lst []) = h2 at *
    walk_at "au"
    have gp : ∀ {l : List Int} {j : Nat}, 0 < l.getD j 0 → 1 ≤ pos l := fun {l j} hj => by
      unfold pos
      refine List.countP_pos_iff.mpr ⟨l.getD j 0, ?_, decide_eq_true hj⟩
      rw [List.getD_eq_getElem?_getD] at hj ⊢
      cases e : l[j]? with
      | none => rw [e] at hj; exact absurd hj (by decide)
      | some v => exact List.mem_of_getElem? e
    have p60 : pos fs ≤ 60 := by
      have := List.countP_le_length (p := fun x : Int => decide (0 < x)) (l := fs)
      have := o.1.1
      unfold pos; omega
    refine while_ind (fun m e h' => ∃ left acc x6 x7, pos left ≤ m ∧ acc.length + m ≤ 60 ∧ Cn ws left s t ∧ shr ws s t 60 fs [] = shr ws s t m left acc ∧ Sub h h' ∧ h' b2 = some (.lst (left.map D.int)) ∧ h' p = some (.lst (acc.map dSh)) ∧ e = [some (.ref a), some (.ref b), some (.int s), some (.int t), some (.ref b2), some (.ref p), x6, x7])
      (fun m e h' X i next => ?_) 60 _ _ ⟨fs, [], none, none, p60, by simp, o.cn, rfl, S0, hb0, hp0, rfl⟩
    clear hp0 hb0 S0
    obtain ⟨left, acc, x6, x7, pm, am, C, e, S, hb, hp, rfl⟩ := i
    have ha := S _ _ ha
    walk_at "au"
    refine wayon_spec ha hb C.n ?_
    cases ef : frst ws left s with
    | none =>
      simp only [dN?]
      walk_at "au"
      have : shr ws s t m left acc = acc := by
        cases m with
        | zero => rfl
        | succ m => simp only [shr, ef]
      exact fgt (ok o st p h' S fpp (by rw [e, this]; exact hp))
    | some k0 =>
      simp only [dN?]
      walk_at "au"
      obtain ⟨w0, _, _, l0⟩ := frst_some ef
      have m1 := gp l0
      cases m with
      | zero => omega
      | succ m =>
        have F := wk_fin C ⟨k0, ef⟩ (ws.length + 1) (Wk.new st) (by omega)
        obtain ⟨y0, y1, T, hy⟩ := F.turn
        have es : shr ws s t (m + 1) left acc = shr ws s t m (sub (amt left (tl (wk ws left t (ws.length + 1) [] [s] s))) left (tl (wk ws left t (ws.length + 1) [] [s] s)))
            (if (wk ws left t (ws.length + 1) [] [s] s).2.isNone = true then acc ++ [(tl (wk ws left t (ws.length + 1) [] [s] s), amt left (tl (wk ws left t (ws.length + 1) [] [s] s)))] else acc) := by simp only [shr, ef]
        have C' := T.cn C (hy.elim (fun z => .inl z.2) fun z => .inr z.2)
        have P' := T.posT C.n
        have lj : (tl (wk ws left t (ws.length + 1) [] [s] s)).length ≤ 60 := by
          have := List.Nodup.length_le_of_subset (l₂ := List.range ws.length) T.nd fun j hj => List.mem_range.mpr (T.l j hj).1
          simp at this; omega
        refine walk_spec ha hb (by omega) C st ⟨k0, ef⟩ fun q h3 S3 fq hq => ?_
        rw [es] at e
        clear es F
        generalize er : wk ws left t (ws.length + 1) [] [s] s = r at *
        have hb3 := S3 _ _ hb
        have hp3 := S3 _ _ hp
        have nbq : b2 ≠ q := ne_new hb fq
        have lleft : left.length = ws.length := C.n
        cases e2 : r.2 with
        | none =>
          have et : tl r = r.1 := by unfold tl; rw [e2]
          rw [et] at T C' P' lj e
          simp only [e2, Option.isNone_none, if_true] at e
          simp only [dN?]
          walk_at "au"
          refine lift_spec hb3 hq nbq T.ne (by omega) (fun j hj => by rw [lleft]; exact (T.l j hj).1) fun H S4 => ?_
          have S5 : Sub h (up H b2 (.lst ((sub (amt left r.1) left r.1).map D.int))) := Sub.over ((S.trans S3).trans S4) fbp
          have hb5 : up H b2 (.lst ((sub (amt left r.1) left r.1).map D.int)) b2 = some (.lst ((sub (amt left r.1) left r.1).map D.int)) := up_same
          have hp5 : up H b2 (.lst ((sub (amt left r.1) left r.1).map D.int)) p = some (.lst (acc.map dSh)) := by rw [up_ne npb]; exact S4 _ _ hp3
          generalize up H b2 (.lst ((sub (amt left r.1) left r.1).map D.int)) = h5 at *
          walk_at "au"
          refine go_appL hp5 (by rw [List.length_map]; exact small1000 (by omega)) ?_
          refine next m _ _ (Nat.lt_succ_self m) ⟨_, acc ++ [(r.1, amt left r.1)], _, _, by omega, by rw [List.length_append]; simp; omega, C', e, Sub.over S5 fpp, by rw [up_ne (Ne.symm npb)]; exact hb5, by rw [up_same, List.map_append]; rfl, rfl⟩
        | some k =>
          have et : tl r = r.1.drop k := by unfold tl; rw [e2]
          rw [et] at T C' P' lj e
          simp only [e2, Option.isNone_some, Bool.false_eq_true, if_false] at e
          simp only [dN?]
          walk_at "au"
          rw [cut_from (by omega), Int.toNat_natCast, ← List.map_drop]
          refine go_new fun z h4 fz S4 hz => ?_
          have hb4 := S4 _ _ hb3
          refine lift_spec hb4 hz (ne_new hb3 fz) T.ne (by omega) (fun j hj => by rw [lleft]; exact (T.l j hj).1) fun H S5 => ?_
          walk_at "au"
          refine next m _ _ (Nat.lt_succ_self m) ⟨_, acc, _, _, by omega, by omega, C', e, Sub.over (((S.trans S3).trans S4).trans S5) fbp, up_same, by rw [up_ne npb]; exact S5 _ _ (S4 _ _ hp3), rfl⟩
end
section
variable {h : DH} {P : KD} {R : KX} {a b c d y : Addr} {ws : List Wy} {fs left : List Int} {s t x v : Int} {js : List Nat}
theorem lshares_spec (ha : h a = some (.lst (ws.map dE))) (hb : h b = some (.lst (fs.map D.int))) (hw : ws.length ≤ 50) (st : s ≠ t) (C0 : Cn ws fs s t)
    (ok : ∀ p H, Sub h H → h p = none → H p = some (.lst ((shr ws s t 60 fs []).map dSh)) → P (.ref p) H) : sp_law_shares [.ref a, .ref b, .int s, .int t] h P R := by
  have gd : ∀ {l : List Int} {j : Nat}, j < l.length → l[j]? = some (l.getD j 0) := fun {l j} hj => by
    rw [List.getD_eq_getElem?_getD, List.getElem?_eq_getElem hj]; rfl
  have gp : ∀ {l : List Int} {j : Nat}, 0 < l.getD j 0 → 1 ≤ pos l := fun {l j} hj => by
    unfold pos
    refine List.countP_pos_iff.mpr ⟨l.getD j 0, ?_, decide_eq_true hj⟩
    rw [List.getD_eq_getElem?_getD] at hj ⊢
    cases e : l[j]? with
    | none => rw [e] at hj; exact absurd hj (by decide)
    | some v => exact List.mem_of_getElem? e
  have p60 : pos fs ≤ 60 := by
    have := List.countP_le_length (p := fun x : Int => decide (0 < x)) (l := fs)
    have := C0.n
    unfold pos; omega
  unfold sp_law_shares t_law_shares
  walk_at "au"
  refine go_new fun b2 h1 fb2 S1 hb2 => ?_
  walk_at "au"
  refine go_newE fun p fp => ?_
  have npb : p ≠ b2 := fun z => by rw [z, hb2] at fp; cases fp
  have fbp : h b2 = none := fb2
  have fpp : h p = none := sub_none S1 fp
  have hp0 : up h1 p (.lst []) p = some (.lst []) := up_same
  have hb0 : up h1 p (.lst []) b2 = some (.lst (fs.map D.int)) := by rw [up_ne (Ne.symm npb)]; exact hb2
  have S0 : Sub h (up h1 p (.lst [])) := S1.trans (Sub.new fp)
  generalize up h1 p (.lst []) = h2 at *
  walk_at "au"
  rw [show (Int.toNat 60) = 60 from rfl]
  refine for_rng (fun k e h' => ∃ left acc m x6 x7 x8 x9 x10, m + k = 60 ∧ pos left ≤ m ∧ acc.length ≤ k ∧ Cn ws left s t ∧ shr ws s t 60 fs [] = shr ws s t m left acc ∧ Sub h h' ∧ h' b2 = some (.lst (left.map D.int)) ∧ h' p = some (.lst (acc.map dSh)) ∧ e = [some (.ref a), some (.ref b), some (.int s), some (.int t), some (.ref b2), some (.ref p), x6, x7, x8, x9, x10])
    (fun k e h' X hk i next => ?_) (fun e h' i => ?_) _ _ ⟨fs, [], 60, none, none, none, none, none, rfl, p60, by simp, C0, rfl, S0, hb0, hp0, rfl⟩
  · clear hp0 hb0 S0
    obtain ⟨left, acc, m, x6, x7, x8, x9, x10, mk, pm, am, C, e, S, hb, hp, rfl⟩ := i
    have ha := S _ _ ha
    walk_at "au"
    refine lfirst_spec ha hb C.n (by omega) ?_
    cases ef : frst ws left s with
    | none =>
      simp only [dN?]
      walk_at "au"
      have : shr ws s t m left acc = acc := by
        cases m with
        | zero => rfl
        | succ m => simp only [shr, ef]
      exact fgt (ok p h' S fpp (by rw [e, this]; exact hp))
    | some k0 =>
      simp only [dN?]
      walk_at "au"
      obtain ⟨w0, _, _, l0⟩ := frst_some ef
      have m1 := gp l0
      cases m with
      | zero => omega
      | succ m =>
        have F := wk_fin C ⟨k0, ef⟩ (ws.length + 1) (Wk.new st) (by omega)
        obtain ⟨y0, y1, T, hy⟩ := F.turn
        have es : shr ws s t (m + 1) left acc = shr ws s t m (sub (amt left (tl (wk ws left t (ws.length + 1) [] [s] s))) left (tl (wk ws left t (ws.length + 1) [] [s] s)))
            (if (wk ws left t (ws.length + 1) [] [s] s).2.isNone = true then acc ++ [(tl (wk ws left t (ws.length + 1) [] [s] s), amt left (tl (wk ws left t (ws.length + 1) [] [s] s)))] else acc) := by simp only [shr, ef]
        have C' := T.cn C (hy.elim (fun z => .inl z.2) fun z => .inr z.2)
        have P' := T.posT C.n
        have lj : (tl (wk ws left t (ws.length + 1) [] [s] s)).length ≤ 60 := by
          have := List.Nodup.length_le_of_subset (l₂ := List.range ws.length) T.nd fun j hj => List.mem_range.mpr (T.l j hj).1
          simp at this; omega
        refine lwalk_spec ha hb (by omega) C st ⟨k0, ef⟩ fun q h3 S3 fq hq => ?_
        rw [es] at e
        clear es F
        generalize er : wk ws left t (ws.length + 1) [] [s] s = r at *
        generalize ejs : tl r = js at *
        have hb3 := S3 _ _ hb
        have hp3 := S3 _ _ hp
        have nbq : b2 ≠ q := ne_new hb fq
        have npq : p ≠ q := ne_new hp fq
        have lleft : left.length = ws.length := C.n
        have hj : ∀ j ∈ js, j < left.length := fun j hj => by rw [lleft]; exact (T.l j hj).1
        walk_at "au"
        refine go_lcM (fun d => match d with
          | .int j => .int (left.getD j.toNat 0)
          | _ => .non) (by rw [List.length_map]; exact le1000 (by omega)) (fun L acc hL => up_at hq hL) (fun L acc dd X hL hdd h3 hX => ?_) (go_new fun z h4 fz S4 hz => ?_)
        · obtain ⟨j, hr, rfl⟩ := List.mem_map.mp hdd
          have hb' := up_at (o := .lst acc) hb3 hL
          simp only [Int.toNat_natCast] at hX
          walk_at "au"
          refine go_at (atI_i (gd (hj j hr))) ?_
          walk_at "au"
          exact hX
        have e1 : ((js.map fun j : Nat => D.int j).map fun d => match d with
          | .int j => .int (left.getD j.toNat 0)
          | _ => .non) = (js.map fun j => left.getD j 0).map D.int := by
          rw [List.map_map, List.map_map]
          refine List.map_congr_left fun j _ => ?_
          show D.int (left.getD (Int.toNat (j : Nat)) 0) = _
          rw [Int.toNat_natCast]; rfl
        rw [e1] at hz
        walk_at "au"
        refine go_minL hz (by rw [List.length_map]; have := T.ne; cases js with
          | nil => exact absurd rfl this
          | cons _ _ => simp) fun mm mm1 mm2 => ?_
        have em : amt left js = mm := mn_eq mm1 mm2
        rw [em] at e C' P'
        have hb4 := S4 _ _ hb3
        have hq4 := S4 _ _ hq
        have hp4 := S4 _ _ hp3
        have S5 := (S.trans S3).trans S4
        clear hb3 hq hp3 hz hb hp S S3 S4 ha
        walk_at "au"
        refine for_ind (fun rem e h' => ∃ pre rest x10, js = pre ++ rest ∧ rem = rest.map (fun j : Nat => D.int j) ∧ h' = up h4 b2 (.lst ((sub mm left pre).map D.int)) ∧ e = [some (.ref a), some (.ref b), some (.int s), some (.int t), some (.ref b2), some (.ref p), some (.int (k : Nat)), some (.ref q), some (.bl r.2.isNone), some (.int mm), x10]) (fun g rr e h' X2 i next2 => ?_) (fun e h' i => ?_) _ _ _ ⟨[], js, _, rfl, rfl, (up_id hb4).symm, rfl⟩
        · obtain ⟨pre, rest, x10, ez, err, rfl, rfl⟩ := i
          cases rest with
          | nil => cases err
          | cons j rest =>
            obtain ⟨rfl, rfl⟩ := List.cons.inj err
            refine ⟨up_neq' nbq hq4, ?_⟩
            have jl : j < (sub mm left pre).length := by rw [sub_len]; exact hj j (by rw [ez]; simp)
            walk_at "au"
            refine go_at (atI_i (gd jl)) ?_
            walk_at "au"
            refine go_setL (j := j) up_same (by unfold ixN; rw [List.length_map, if_pos (by omega), if_pos (by omega)]; rfl) ?_
            rw [up_up]
            refine next2 _ _ ⟨pre ++ [j], rest, _, by rw [ez]; simp, rfl, ?_, rfl⟩
            have : sub mm left (pre ++ [j]) = (sub mm left pre).set j ((sub mm left pre).getD j 0 - mm) := by
              unfold sub
              rw [List.foldl_append]; rfl
            rw [this, List.map_set]
        · obtain ⟨pre, rest, x10, ez, err, rfl, rfl⟩ := i
          cases rest with
          | cons g rest => cases err
          | nil =>
            rw [List.append_nil] at ez
            subst ez
            refine ⟨up_neq' nbq hq4, ?_⟩
            have S6 : Sub h (up h4 b2 (.lst ((sub mm left js).map D.int))) := Sub.over S5 fbp
            have hb6 : up h4 b2 (.lst ((sub mm left js).map D.int)) b2 = some (.lst ((sub mm left js).map D.int)) := up_same
            have hp6 : up h4 b2 (.lst ((sub mm left js).map D.int)) p = some (.lst (acc.map dSh)) := by rw [up_ne npb]; exact hp4
            have hq6 : up h4 b2 (.lst ((sub mm left js).map D.int)) q = some (.lst (js.map fun j : Nat => D.int j)) := up_neq' nbq hq4
            generalize up h4 b2 (.lst ((sub mm left js).map D.int)) = h6 at *
            walk_at "au"
            cases e2 : r.2.isNone with
            | false =>
              simp only [e2, Bool.false_eq_true, if_false] at e
              walk_at "br"
              walk_at "au"
              exact next _ _ ⟨_, acc, m, _, _, _, _, _, by omega, by omega, by omega, C', e, S6, hb6, hp6, rfl⟩
            | true =>
              simp only [e2, if_true] at e
              walk_at "br"
              walk_at "au"
              refine go_appL hp6 (by rw [List.length_map]; exact small1000 (by omega)) ?_
              exact next _ _ ⟨_, acc ++ [(js, mm)], m, _, _, _, _, _, by omega, by omega, (by rw [List.length_append]; simp; omega), C', e, Sub.over S6 fpp, by rw [up_ne (Ne.symm npb)]; exact hb6, by rw [up_same, List.map_append]; rfl, rfl⟩
  · obtain ⟨left, acc, m, x6, x7, x8, x9, x10, mk, pm, am, C, e, S, hb, hp, rfl⟩ := i
    have : m = 0 := by omega
    subst this
    walk_at "au"
    exact fgt (ok p h' S fpp (by rw [e]; exact hp))
end
/-! ### what the shares are -/
/-- a way from x to t over no party twice, none of those in vs -/
def Pth (ws : List Wy) (t : Int) : Int → List Int → List Nat → Prop
  | x, _, [] => x = t
  | x, vs, j :: js => ∃ w, ws[j]? = some w ∧ wg w = x ∧ x ∉ vs ∧ x ≠ t ∧ Pth ws t (wt w) (vs ++ [x]) js
section
variable {ws : List Wy} {left : List Int} {s t x : Int} {ps : List Nat} {vs : List Int}
theorem Wk.pth {j : Nat} {w : Wy} (W : Wk ws left s t ps vs x) (e : ws[j]? = some w) (hg : wg w = x) (ht : wt w = t) : ∀ (n i : Nat) (v : Int), i + n = ps.length → vs[i]? = some v → Pth ws t v (vs.take i) (ps.drop i ++ [j])
  | 0, i, v, hi, hv => by
    rw [List.drop_of_length_le (by omega)]
    have h1 := W.lt
    rw [show ps.length = i by omega, hv] at h1
    have hx := Option.some.inj h1
    refine ⟨w, e, by rw [hg, hx], fun z => ?_, W.nt _ (List.mem_of_getElem? hv), ht⟩
    obtain ⟨k, hk, ek⟩ := List.mem_iff_getElem.mp z
    simp only [List.length_take, List.getElem_take] at hk ek
    have h2 := idx_nd W.nd hv
    have h3 := idx_nd W.nd (show vs[k]? = some v by rw [List.getElem?_eq_getElem (by omega), ek])
    omega
  | n + 1, i, v, hi, hv => by
    have il : i < ps.length := by omega
    have vl := W.len
    rw [List.drop_eq_getElem_cons il]
    obtain ⟨w', a1, a2, a3, a4⟩ := W.stp i _ (List.getElem?_eq_getElem il)
    have a2' := a2
    rw [hv] at a2'
    refine ⟨w', a1, (Option.some.inj a2').symm, fun z => ?_, W.nt _ (List.mem_of_getElem? hv), ?_⟩
    · obtain ⟨k, hk, ek⟩ := List.mem_iff_getElem.mp z
      simp only [List.length_take, List.getElem_take] at hk ek
      have h2 := idx_nd W.nd hv
      have h3 := idx_nd W.nd (show vs[k]? = some v by rw [List.getElem?_eq_getElem (by omega), ek])
      omega
    · have := W.pth e hg ht n (i + 1) (wt w') (by omega) a3
      rw [List.take_add_one, hv] at this
      exact this
/-- a share that goes all the way is a path -/
theorem Fin0.pth {r : List Nat × Option Nat} (F : Fin0 ws left s t r) (h : r.2 = none) : Pth ws t s [] (tl r) := by
  obtain ⟨ps, vs, x, j, w, W, e1, e2, e3, e4⟩ := F
  rcases e4 with ⟨h1, h2⟩ | ⟨_, _, h3⟩
  · obtain ⟨w', a1, a2, a3⟩ := frst_some e1
    rw [e2] at a1
    cases a1
    have : tl r = ps ++ [j] := by unfold tl; rw [h2]; exact e3
    rw [this]
    exact W.pth e2 a2 h1 ps.length 0 s (by omega) W.hd
  · rw [h] at h3; cases h3
/-- what the shares load -/
def lds (n : Nat) (sh : List (List Nat × Int)) : List Int := sh.foldl (fun l q => sub (-q.2) l q.1) (List.replicate n 0)
theorem lds_len {n : Nat} : ∀ {sh : List (List Nat × Int)}, (lds n sh).length = n := fun {sh} => by
  have : ∀ (sh : List (List Nat × Int)) (l : List Int), (sh.foldl (fun l q => sub (-q.2) l q.1) l).length = l.length := fun sh => by
    induction sh with
    | nil => intro l; rfl
    | cons q sh i => intro l; rw [List.foldl_cons, i, sub_len]
  unfold lds
  rw [this, List.length_replicate]
structure Good (ws : List Wy) (fs : List Int) (s t : Int) (sh : List (List Nat × Int)) : Prop where
  p : ∀ q ∈ sh, q.1 ≠ [] ∧ q.1.Nodup ∧ Pth ws t s [] q.1 ∧ 1 ≤ q.2
  l : ∀ j : Nat, (lds ws.length sh).getD j 0 ≤ fs.getD j 0
theorem shr_ind {Q : List Int → List (List Nat × Int) → Prop}
    (step : ∀ left acc r, Cn ws left s t → Fin0 ws left s t r → Q left acc → Q (sub (amt left (tl r)) left (tl r)) (if r.2.isNone = true then acc ++ [(tl r, amt left (tl r))] else acc)) (st : s ≠ t) :
    ∀ (n : Nat) (left : List Int) (acc : List (List Nat × Int)), Cn ws left s t → pos left ≤ n → Q left acc → ∃ left', Cn ws left' s t ∧ frst ws left' s = none ∧ Q left' (shr ws s t n left acc)
  | 0, left, acc, C, h, q => by
    cases ef : frst ws left s with
    | none => exact ⟨left, C, ef, q⟩
    | some k =>
      obtain ⟨w0, _, _, l0⟩ := frst_some ef
      have : 1 ≤ pos left := by
        unfold pos
        refine List.countP_pos_iff.mpr ⟨left.getD k 0, ?_, decide_eq_true l0⟩
        rw [List.getD_eq_getElem?_getD] at l0 ⊢
        cases e : left[k]? with
        | none => rw [e] at l0; exact absurd l0 (by decide)
        | some v => exact List.mem_of_getElem? e
      omega
  | n + 1, left, acc, C, h, q => by
    cases ef : frst ws left s with
    | none =>
      refine ⟨left, C, ef, ?_⟩
      simp only [shr, ef]
      exact q
    | some k =>
      have F := wk_fin C ⟨k, ef⟩ (ws.length + 1) (Wk.new st) (by omega)
      obtain ⟨y0, y1, T, hy⟩ := F.turn
      have C' := T.cn C (hy.elim (fun z => .inl z.2) fun z => .inr z.2)
      have P' := T.posT C.n
      obtain ⟨left', h1, h2, h3⟩ := shr_ind step st n _ _ C' (by omega) (step left acc _ C F q)
      refine ⟨left', h1, h2, ?_⟩
      simp only [shr, ef]
      exact h3
theorem pos60 {fs : List Int} (h : fs.length ≤ 60) : pos fs ≤ 60 := by
  have := List.countP_le_length (p := fun x : Int => decide (0 < x)) (l := fs)
  unfold pos; omega
theorem rep_get {n j : Nat} : (List.replicate n (0 : Int)).getD j 0 = 0 := by
  rw [List.getD_eq_getElem?_getD, List.getElem?_replicate]
  split <;> rfl
theorem lds_snoc {n : Nat} {sh : List (List Nat × Int)} {q : List Nat × Int} : lds n (sh ++ [q]) = sub (-q.2) (lds n sh) q.1 := by
  unfold lds
  rw [List.foldl_append]; rfl
theorem shr_good {fs : List Int} (C : Cn ws fs s t) (st : s ≠ t) (hw : ws.length ≤ 60) : Good ws fs s t (shr ws s t 60 fs []) := by
  have step : ∀ left acc r, Cn ws left s t → Fin0 ws left s t r → ((∀ q ∈ acc, q.1 ≠ [] ∧ q.1.Nodup ∧ Pth ws t s [] q.1 ∧ 1 ≤ q.2) ∧ (∀ j : Nat, (lds ws.length acc).getD j 0 + left.getD j 0 ≤ fs.getD j 0)) →
      (∀ q ∈ (if r.2.isNone = true then acc ++ [(tl r, amt left (tl r))] else acc), q.1 ≠ [] ∧ q.1.Nodup ∧ Pth ws t s [] q.1 ∧ 1 ≤ q.2) ∧ (∀ j : Nat, (lds ws.length (if r.2.isNone = true then acc ++ [(tl r, amt left (tl r))] else acc)).getD j 0 + (sub (amt left (tl r)) left (tl r)).getD j 0 ≤ fs.getD j 0) := fun left acc r C F q => by
    obtain ⟨q1, q2⟩ := q
    obtain ⟨y0, y1, T, hy⟩ := F.turn
    obtain ⟨a1, a2, _⟩ := T.amtT
    have lj : ∀ j ∈ tl r, j < ws.length := fun j hj => (T.l j hj).1
    cases e2 : r.2 with
    | none =>
      rw [Option.isNone_none, if_pos rfl]
      refine ⟨fun q hq => ?_, fun j => ?_⟩
      · rcases List.mem_append.mp hq with hq | hq
        · exact q1 q hq
        · rw [List.mem_singleton.mp hq]
          exact ⟨T.ne, T.nd, F.pth e2, a1⟩
      · rw [lds_snoc, sub_get T.nd fun k hk => by rw [lds_len]; exact lj k hk, sub_get T.nd fun k hk => by rw [C.n]; exact lj k hk]
        have := q2 j
        simp only
        split <;> omega
    | some k =>
      rw [Option.isNone_some, if_neg (by decide)]
      refine ⟨q1, fun j => ?_⟩
      rw [sub_get T.nd fun k hk => by rw [C.n]; exact lj k hk]
      have := q2 j
      split <;> omega
  obtain ⟨left', h1, _, h2, h3⟩ := shr_ind (Q := fun left acc => (∀ q ∈ acc, q.1 ≠ [] ∧ q.1.Nodup ∧ Pth ws t s [] q.1 ∧ 1 ≤ q.2) ∧ (∀ j : Nat, (lds ws.length acc).getD j 0 + left.getD j 0 ≤ fs.getD j 0)) step st 60 fs [] C (pos60 (by rw [C.n]; exact hw)) ⟨fun _ z => (by cases z), fun j => by rw [show lds ws.length [] = List.replicate ws.length 0 from rfl, rep_get]; omega⟩
  exact ⟨h2, fun j => by have := h3 j; have := h1.p j; omega⟩
theorem out_zero' {x : Int} : ∀ {ws : List Wy} {left : List Int}, left.length = ws.length → (∀ (j : Nat) (w : Wy), ws[j]? = some w → wg w = x ∨ wt w = x → left.getD j 0 = 0) → out ws left x = 0
  | [], left, _, _ => rfl
  | w :: ws, [], h, _ => by simp at h
  | w :: ws, f :: left, h, g => by
    have i := out_zero' (ws := ws) (left := left) (x := x) (by simpa using h) fun j w' e hg => by have := g (j + 1) w' (by simpa using e) hg; simpa using this
    have g0 : wg w = x ∨ wt w = x → f = 0 := fun z => by have := g 0 w rfl z; simpa using this
    show (if wg w = x then f else 0) - (if wt w = x then f else 0) + out ws left x = 0
    rw [i]
    by_cases a : wg w = x <;> by_cases b : wt w = x <;> simp only [a, b, if_true, if_false, true_or, or_true] at g0 ⊢ <;> (try have := g0 trivial) <;> omega
/-- for a flow that nothing leads into its source, the shares bring all of it -/
theorem shr_sum {fs : List Int} {v : Int} (F : Flw ws fs s t v) (Z : Zr ws fs s t) (st : s ≠ t) (hw : ws.length ≤ 60) : ((shr ws s t 60 fs []).map (·.2)).sum = v := by
  have C := Cn.of F
  have step : ∀ left acc r, Cn ws left s t → Fin0 ws left s t r → ((acc.map (·.2)).sum + out ws left s = v ∧ ∀ j : Nat, left.getD j 0 ≤ fs.getD j 0) →
      ((if r.2.isNone = true then acc ++ [(tl r, amt left (tl r))] else acc).map (·.2)).sum + out ws (sub (amt left (tl r)) left (tl r)) s = v ∧ ∀ j : Nat, (sub (amt left (tl r)) left (tl r)).getD j 0 ≤ fs.getD j 0 := fun left acc r C F q => by
    obtain ⟨q1, q2⟩ := q
    obtain ⟨y0, y1, T, hy⟩ := F.turn
    obtain ⟨a1, a2, _⟩ := T.amtT
    have lj : ∀ j ∈ tl r, j < ws.length := fun j hj => (T.l j hj).1
    refine ⟨?_, fun j => ?_⟩
    · rw [out_sub T.ch C.n]
      rcases hy with ⟨e, e1, e2⟩ | ⟨e, e1⟩
      · rw [e, Option.isNone_none, if_pos rfl, List.map_append, List.sum_append, e1, e2, if_pos rfl, if_neg (Ne.symm st)]
        show _ + (amt left (tl r) + 0) + _ = v
        omega
      · rw [if_neg (by cases er : r.2 with
          | none => exact absurd er e
          | some k => simp), e1]
        omega
    · rw [sub_get T.nd fun k hk => by rw [C.n]; exact lj k hk]
      have := q2 j
      split <;> omega
  obtain ⟨left', h1, h0, h2, h3⟩ := shr_ind (Q := fun left acc => (acc.map (·.2)).sum + out ws left s = v ∧ ∀ j : Nat, left.getD j 0 ≤ fs.getD j 0) step st 60 fs [] C (pos60 (by rw [C.n]; exact hw)) ⟨by rw [F.v]; simp, fun j => Int.le_refl _⟩
  have : out ws left' s = 0 := out_zero' h1.n fun j w e hg => by
    have p := h1.p j
    by_cases z : wg w = s
    · have := frst_none h0 e z; omega
    · have ht : wt w = s := hg.resolve_left z
      obtain ⟨f, ef⟩ : ∃ f, fs[j]? = some f := ⟨_, List.getElem?_eq_getElem (by rw [F.b.1]; exact (List.getElem?_eq_some_iff.mp e).1)⟩
      have := Z j w f e ef (fun q => z (by rw [q, ht])) (.inl ht)
      have := h3 j
      rw [List.getD_eq_getElem?_getD (l := fs), ef] at this
      simp only [Option.getD_some] at this
      omega
  omega
end
theorem rep_flat {α : Type} (x : α) : ∀ k, (List.replicate k [x]).flatten = List.replicate k x
  | 0 => rfl
  | k + 1 => by rw [List.replicate_succ, List.flatten_cons, rep_flat x k, List.replicate_succ]; rfl
theorem go_zeros {h : DH} {K : KD} {z : Addr} {n : Nat} (hz : h z = some (.lst [D.int 0])) (hn : n ≤ 1000) (ok : ∀ q, h q = none → K (.ref q) (up h q (.lst ((List.replicate n (0 : Int)).map D.int)))) : doMul (.ref z) (.int (n : Nat)) h K := by
  unfold doMul doRepL
  simp only [hz]
  refine ⟨by omega, by omega, by rw [Int.toNat_natCast]; exact le1000 (by simp; omega), fun q fq => ?_⟩
  rw [Int.toNat_natCast, rep_flat, show List.replicate n (D.int 0) = (List.replicate n (0 : Int)).map D.int by rw [List.map_replicate]]
  exact ok q fq
theorem Pth.lt {ws : List Wy} {t : Int} : ∀ {js : List Nat} {x : Int} {vs : List Int}, Pth ws t x vs js → ∀ j ∈ js, j < ws.length
  | [], _, _, _, j, hj => by cases hj
  | k :: js, x, vs, p, j, hj => by
    obtain ⟨w, e, _, _, _, p'⟩ := p
    rcases List.mem_cons.mp hj with z | z
    · rw [z]; exact (List.getElem?_eq_some_iff.mp e).1
    · exact p'.lt j z
section
variable {h : DH} {P : KD} {R : KX} {a b c d y : Addr} {ws : List Wy} {fs left : List Int} {s t x v : Int} {sh : List (List Nat × Int)}
theorem law_good_spec (ha : h a = some (.lst (ws.map dE))) (hb : h b = some (.lst (fs.map D.int))) (hy : h y = some (.lst (sh.map dSh))) (hl : fs.length = ws.length) (hw : ws.length ≤ 60)
    (G : Good ws fs s t sh) (ok : P (.bl true) h) : sp_law_good [.ref a, .ref b, .ref y, .int s, .int t] h P R := by
  have gd : ∀ {l : List Int} {j : Nat}, j < l.length → l[j]? = some (l.getD j 0) := fun {l j} hj => by
    rw [List.getD_eq_getElem?_getD, List.getElem?_eq_getElem hj]; rfl
  unfold sp_law_good t_law_good
  walk_at "au"
  refine go_new fun z h1 fz S1 hz => ?_
  have ha1 := S1 _ _ ha
  walk_at "au"
  refine go_zeros hz (by omega) fun q fq => ?_
  have hq0 : up h1 q (.lst ((List.replicate ws.length (0 : Int)).map D.int)) q = some (.lst ((lds ws.length []).map D.int)) := up_same
  have fqh : h q = none := sub_none S1 fq
  have S0 : Sub h (up h1 q (.lst ((List.replicate ws.length (0 : Int)).map D.int))) := S1.trans (Sub.new fq)
  generalize up h1 q (.lst ((List.replicate ws.length (0 : Int)).map D.int)) = h2 at *
  clear hz ha1 fz
  walk_at "au"
  refine for_ind (fun rem e h' => ∃ pre rest x6 x7 x8 x9 x10, sh = pre ++ rest ∧ rem = rest.map dSh ∧ Sub h h' ∧ h' q = some (.lst ((lds ws.length pre).map D.int)) ∧ e = [some (.ref a), some (.ref b), some (.ref y), some (.int s), some (.int t), some (.ref q), x6, x7, x8, x9, x10, none])
    (fun g r e h' X i next => ?_) (fun e h' i => ?_) _ _ _ ⟨[], sh, none, none, none, none, none, rfl, rfl, S0, hq0, rfl⟩
  · clear hq0 S0
    obtain ⟨pre, rest, x6, x7, x8, x9, x10, ez, er, S, hq, rfl⟩ := i
    cases rest with
    | nil => cases er
    | cons g rest =>
      obtain ⟨rfl, rfl⟩ := List.cons.inj er
      obtain ⟨js, m⟩ := g
      obtain ⟨g1, g2, g3, g4⟩ := G.p (js, m) (by rw [ez]; simp)
      simp only at g1 g2 g3 g4
      have lj : js.length ≤ 60 := by
        have := List.Nodup.length_le_of_subset (l₂ := List.range ws.length) g2 fun j hj => List.mem_range.mpr (g3.lt j hj)
        simp at this; omega
      have ha' := S _ _ ha
      have hb' := S _ _ hb
      refine ⟨S _ _ hy, ?_⟩
      simp only [dSh]
      walk_at "au"
      rw [if_neg (by simp; omega)]
      cases js with
      | nil => exact absurd rfl g1
      | cons j0 js =>
        obtain ⟨w0, e0, c0, -⟩ := id g3
        have eE : (ws.map dE)[j0]? = some (dE w0) := by rw [List.getElem?_map, e0]; rfl
        walk_at "au"
        refine go_at (atI_of rfl eE) ?_
        simp only [dE, c0]
        walk_at "au"
        refine go_newE fun v fv => ?_
        have nvq : q ≠ v := ne_new hq fv
        have fvh : h v = none := sub_none S fv
        have S1 : Sub h (up h' v (.lst [])) := S.trans (Sub.new fv)
        have hq1 : up h' v (.lst []) q = some (.lst ((lds ws.length pre).map D.int)) := up_at hq fv
        have hv1 : up h' v (.lst []) v = some (.lst (([] : List Int).map D.int)) := up_same
        generalize up h' v (.lst []) = h3 at *
        clear ha' hb' hq fv S eE e0 c0 w0
        walk_at "au"
        generalize ejj : j0 :: js = jj at *
        rw [show D.int (j0 : Nat) :: js.map (fun j : Nat => D.int j) = jj.map (fun j : Nat => D.int j) by rw [← ejj]; rfl]
        clear ejj js j0
        refine for_ind (fun rem e h' => ∃ p2 r2 vs x x11, jj = p2 ++ r2 ∧ rem = r2.map (fun j : Nat => D.int j) ∧ vs.length = p2.length ∧ Pth ws t x vs r2 ∧ Sub h h' ∧ h' q = some (.lst ((sub (-m) (lds ws.length pre) p2).map D.int)) ∧ h' v = some (.lst (vs.map D.int)) ∧ e = [some (.ref a), some (.ref b), some (.ref y), some (.int s), some (.int t), some (.ref q), some (.tup (jj.map fun j : Nat => D.int j)), some (.int m), some (.int x), some (.ref v), x11, none])
          (fun g rr e h' X2 i next2 => ?_) (fun e h' i => ?_) _ _ _ ⟨[], jj, [], s, _, rfl, rfl, rfl, g3, S1, hq1, hv1, rfl⟩
        · clear hq1 hv1 S1
          obtain ⟨p2, r2, vs, x, x11, ez2, er2, lv, pt, S, hq, hv, rfl⟩ := i
          cases r2 with
          | nil => cases er2
          | cons j r2 =>
            obtain ⟨rfl, rfl⟩ := List.cons.inj er2
            obtain ⟨w, e1, e2, e3, e4, e5⟩ := pt
            have eE : (ws.map dE)[j]? = some (dE w) := by rw [List.getElem?_map, e1]; rfl
            have ha' := S _ _ ha
            have lp : p2.length < 60 := by rw [ez2] at lj; simp at lj; omega
            walk_at "au"
            refine go_at (atI_of rfl eE) ?_
            simp only [dE, e2]
            walk_at "au"
            rw [da_int.inL (by decide) hv, decide_eq_false e3]
            walk_at "au"
            rw [decide_eq_false e4]
            walk_at "au"
            refine go_appL hv (by rw [List.length_map]; exact small1000 (by omega)) ?_
            have S2 : Sub h (up h' v (.lst (vs.map D.int ++ [D.int x]))) := Sub.over S fvh
            have hq2 : up h' v (.lst (vs.map D.int ++ [D.int x])) q = some (.lst ((sub (-m) (lds ws.length pre) p2).map D.int)) := by rw [up_ne nvq]; exact hq
            have hv2 : up h' v (.lst (vs.map D.int ++ [D.int x])) v = some (.lst ((vs ++ [x]).map D.int)) := by rw [up_same, List.map_append]; rfl
            generalize up h' v (.lst (vs.map D.int ++ [D.int x])) = h4 at *
            have ha4 := S2 _ _ ha
            clear ha' hq hv S
            walk_at "au"
            refine go_at (atI_of rfl eE) ?_
            simp only [dE]
            walk_at "au"
            have jl : j < (sub (-m) (lds ws.length pre) p2).length := by rw [sub_len, lds_len]; exact (List.getElem?_eq_some_iff.mp e1).1
            refine go_at (atI_i (gd jl)) ?_
            walk_at "au"
            refine go_setL (j := j) hq2 (by unfold ixN; rw [List.length_map, if_pos (by omega), if_pos (by omega)]; rfl) ?_
            have eS : sub (-m) (lds ws.length pre) (p2 ++ [j]) = (sub (-m) (lds ws.length pre) p2).set j ((sub (-m) (lds ws.length pre) p2).getD j 0 + m) := by
              show (p2 ++ [j]).foldl _ _ = _
              rw [List.foldl_append]
              show ((sub (-m) (lds ws.length pre) p2).set j _) = _
              rw [show ∀ z : Int, z - -m = z + m by intro z; omega]
              rfl
            refine next2 _ _ ⟨p2 ++ [j], r2, vs ++ [x], wt w, _, by rw [ez2]; simp, rfl, by simp [lv], e5, Sub.over S2 fqh, by rw [up_same, eS, List.map_set], by rw [up_ne (Ne.symm nvq)]; exact hv2, rfl⟩
        · obtain ⟨p2, r2, vs, x, x11, ez2, er2, lv, pt, S, hq, hv, rfl⟩ := i
          cases r2 with
          | cons j r2 => cases er2
          | nil =>
            rw [List.append_nil] at ez2
            subst ez2
            have xt : x = t := pt
            subst xt
            walk_at "au"
            refine next _ _ ⟨pre ++ [(jj, m)], rest, _, _, _, _, _, by rw [ez]; simp, rfl, S, by rw [lds_snoc]; exact hq, rfl⟩
  · clear hq0 S0
    obtain ⟨pre, rest, x6, x7, x8, x9, x10, ez, er, S, hq, rfl⟩ := i
    cases rest with
    | cons g rest => cases er
    | nil =>
      rw [List.append_nil] at ez
      subst ez
      refine ⟨S _ _ hy, ?_⟩
      have ha' := S _ _ ha
      have hb' := S _ _ hb
      walk_at "au"
      rw [Int.toNat_natCast]
      refine for_rng (fun k e g => ∃ x12, g = h' ∧ e = [some (.ref a), some (.ref b), some (.ref y), some (.int s), some (.int t), some (.ref q), x6, x7, x8, x9, x10, x12]) (fun k e g X hk i next => ?_) (fun e g i => ?_) _ _ ⟨none, rfl, rfl⟩
      · obtain ⟨x12, rfl, rfl⟩ := i
        have k1 : k < (lds ws.length sh).length := by rw [lds_len]; exact hk
        have k2 : k < fs.length := by omega
        have := G.l k
        walk_at "au"
        refine go_at (atI_i (gd k1)) ?_
        walk_at "au"
        refine go_at (atI_i (gd k2)) ?_
        walk_at "au"
        rw [decide_eq_false (by omega)]
        walk_at "au"
        exact next _ _ ⟨_, rfl, rfl⟩
      · obtain ⟨x12, rfl, rfl⟩ := i
        walk_at "au"
        exact fgtS S ok
end
theorem Ch.lt {ws : List Wy} {y : Int} : ∀ {js : List Nat} {x : Int}, Ch ws x js y → ∀ j ∈ js, j < ws.length
  | [], _, _, j, hj => by cases hj
  | k :: js, x, c, j, hj => by
    obtain ⟨w, e, _, c'⟩ := c
    rcases List.mem_cons.mp hj with z | z
    · rw [z]; exact (List.getElem?_eq_some_iff.mp e).1
    · exact c'.lt j z
def mkP (r n : Int) : Wy := (0, 1 + r % n, 1 + r / n % n, (0, 0, 0), 0)
section
variable {h : DH} {P : KD} {R : KX} {a b c d y : Addr} {ws : List Wy} {fs left : List Int} {s t x v : Int} {sh : List (List Nat × Int)}
theorem lref_spec (ha : h a = some (.lst (ws.map dW))) (hb : h b = some (.lst (fs.map D.int))) (hw : ws.length ≤ 50) (bad : ¬ OK ws fs s t ∨ s = t) (ok : P (.bl true) h) : sp_law_refused [.ref a, .ref b, .int s, .int t] h P R := by
  unfold sp_law_refused t_law_refused
  walk_at "au"
  refine peel_spec ha hb hw (fun _ => ?_) fun o n => (bad.elim (fun z => absurd o z) fun z => absurd z n)
  refine ⟨true, rfl, fun _ x hx => ?_, fun z => nomatch z⟩
  walk_at "au"
  exact fgt ok
theorem lpairs_spec {xs : List Int} {m : Nat} {n : Int} (ha : h a = some (.lst (xs.map D.int))) (hx : ∀ x ∈ xs, 0 ≤ x) (hm : m ≤ xs.length) (hm2 : m ≤ 100) (hn : 2 ≤ n ∧ n ≤ 6) (ok : kNew (((xs.take m).map fun r => mkP r n).map dE) P h) : sp_law_pairs [.ref a, .int (m : Nat), .int n] h P R := by
  unfold sp_law_pairs t_law_pairs
  walk_at "au"
  refine go_newE fun q fq => ?_
  have naq := ne_new ha fq
  walk_at "au"
  rw [Int.toNat_natCast]
  refine for_rng (fun k e h' => ∃ x4 x5, h' = up h q (.lst (((xs.take k).map fun r => mkP r n).map dE)) ∧ e = [some (.ref a), some (.int (m : Nat)), some (.int n), some (.ref q), x4, x5]) (fun k e h' X hk i next => ?_) (fun e h' i => ?_) _ _ ⟨_, _, rfl, rfl⟩
  · obtain ⟨x4, x5, rfl, rfl⟩ := i
    obtain ⟨r, er⟩ : ∃ r, xs[k]? = some r := ⟨_, List.getElem?_eq_getElem (by omega)⟩
    have r0 := hx r (List.mem_of_getElem? er)
    have ha' : up h q (.lst (((xs.take k).map fun r => mkP r n).map dE)) a = some (.lst (xs.map D.int)) := up_neq naq ha
    walk_at "au"
    refine go_at (atI_i er) ?_
    walk_at "au"
    refine ⟨by rw [List.length_take]; exact small1000 (by omega), next _ _ ⟨_, _, ?_, rfl⟩⟩
    rw [List.take_add_one, er]
    simp
    rfl
  · obtain ⟨x4, x5, rfl, rfl⟩ := i
    walk_at "au"
    exact fgt (ok q fq)
theorem lpath_spec {row : Int} (ha : h a = some (.lst (ws.map dE))) (hw : ws.length ≤ 60) (r0 : 0 ≤ row) (ok : ∀ (js : List Nat) p H, (js = [] ∨ Ch ws s js t) → Sub h H → h p = none → H p = some (.lst (js.map fun j : Nat => D.int j)) → P (.ref p) H) : sp_law_path [.ref a, .int s, .int t, .int row] h P R := by
  unfold sp_law_path t_law_path
  walk_at "au"
  refine go_newE fun q fq => ?_
  have S0 : Sub h (up h q (.lst [])) := Sub.new fq
  have hq0 : up h q (.lst []) q = some (.lst (([] : List Nat).map fun j : Nat => D.int j)) := up_same
  generalize up h q (.lst []) = h1 at *
  walk_at "au"
  rw [show Int.toNat 8 = 8 from rfl]
  refine for_rng (fun k e h' => ∃ ps x x6 x7 x8, ps.length = k ∧ Ch ws s ps x ∧ Sub h h' ∧ h' q = some (.lst (ps.map fun j : Nat => D.int j)) ∧ e = [some (.ref a), some (.int s), some (.int t), some (.int row), some (.ref q), some (.int x), x6, x7, x8, none]) (fun k e h' X hk i next => ?_) (fun e h' i => ?_) _ _ ⟨[], s, _, _, _, rfl, rfl, S0, hq0, rfl⟩
  · clear hq0 S0
    obtain ⟨ps, x, x6, x7, x8, lp, c, S, hq, rfl⟩ := i
    have ha' := S _ _ ha
    walk_at "au"
    unfold rangeD
    refine go_lcG (fun k : Nat => decide ((ws.map wg).getD k 0 = x)) (k := fun k : Nat => .int k) (by rw [List.length_range, Int.toNat_natCast]; exact le1000 (by omega)) (fun L acc hL => trivial) (fun L acc j X2 hL hj hac y1 y0 => ?_) (go_new fun z h2 fz S2 hz => ?_)
    · rw [Int.toNat_natCast, List.mem_range] at hj
      obtain ⟨w, ew⟩ : ∃ w, ws[j]? = some w := ⟨_, List.getElem?_eq_getElem hj⟩
      have eE : (ws.map dE)[j]? = some (dE w) := by rw [List.getElem?_map, ew]; rfl
      have eg : (ws.map wg).getD j 0 = wg w := by rw [List.getD_eq_getElem?_getD, List.getElem?_map, ew]; rfl
      rw [eg] at y1 y0
      have ha2 := up_at (o := .lst acc) ha' hL
      simp only [Int.zero_add]
      walk_at "au"
      refine go_at (atI_of rfl eE) ?_
      simp only [dE]
      walk_at "au"
      cases e : decide (wg w = x) with
      | false =>
        walk_at "au"
        exact ⟨up_same, y0 e⟩
      | true =>
        walk_at "au"
        exact y1 e
    · generalize eF : (List.range (Int.toNat (ws.length : Nat))).filter (fun k : Nat => decide ((ws.map wg).getD k 0 = x)) = F at hz
      have mF : ∀ j ∈ F, ∃ w, ws[j]? = some w ∧ wg w = x := fun j hj => by
        rw [← eF, List.mem_filter, Int.toNat_natCast, List.mem_range] at hj
        obtain ⟨w, ew⟩ : ∃ w, ws[j]? = some w := ⟨_, List.getElem?_eq_getElem hj.1⟩
        refine ⟨w, ew, ?_⟩
        have := of_decide_eq_true hj.2
        rw [List.getD_eq_getElem?_getD, List.getElem?_map, ew] at this
        exact this
      have S' := S.trans S2
      have hq2 := S2 _ _ hq
      walk_at "au"
      by_cases F0 : F.length = 0
      · rw [decide_eq_true (show ((F.length : Nat) : Int) = 0 by omega)]
        walk_at "au"
        refine go_newE fun p fp => ?_
        exact fgt (ok [] p _ (.inl rfl) (S'.trans (Sub.new fp)) (sub_none S' fp) up_same)
      · rw [decide_eq_false (show ¬ ((F.length : Nat) : Int) = 0 by omega)]
        walk_at "au"
        obtain ⟨i, ei⟩ : ∃ i : Nat, row / (7 * (k : Nat) + 1) % (F.length : Nat) = (i : Int) := ⟨_, (Int.toNat_of_nonneg (Int.emod_nonneg _ (by omega))).symm⟩
        have il : i < F.length := by
          have := Int.emod_lt_of_pos (row / (7 * (k : Nat) + 1)) (show (0 : Int) < (F.length : Nat) by omega)
          omega
        obtain ⟨j, ej⟩ : ∃ j, F[i]? = some j := ⟨_, List.getElem?_eq_getElem il⟩
        obtain ⟨w, ew, eg⟩ := mF j (List.mem_of_getElem? ej)
        have eE : (ws.map dE)[j]? = some (dE w) := by rw [List.getElem?_map, ew]; rfl
        refine go_at (atI_of (j := i) ei (by rw [List.getElem?_map, ej]; rfl)) ?_
        walk_at "au"
        refine go_appL hq2 (by rw [List.length_map]; exact small1000 (by omega)) ?_
        have S3 : Sub h (up h2 q (.lst (ps.map (fun j : Nat => D.int j) ++ [D.int (j : Nat)]))) := Sub.over S' fq
        have hq3 : up h2 q (.lst (ps.map (fun j : Nat => D.int j) ++ [D.int (j : Nat)])) q = some (.lst ((ps ++ [j]).map fun j : Nat => D.int j)) := by rw [up_same, List.map_append]; rfl
        have c' : Ch ws s (ps ++ [j]) (wt w) := c.app ⟨w, ew, eg, rfl⟩
        generalize up h2 q (.lst (ps.map (fun j : Nat => D.int j) ++ [D.int (j : Nat)])) = h3 at *
        have ha3 := S3 _ _ ha
        walk_at "au"
        refine go_at (atI_of rfl eE) ?_
        simp only [dE]
        walk_at "au"
        by_cases z : wt w = t
        · rw [decide_eq_true z]
          walk_at "au"
          exact fgt (ok (ps ++ [j]) q h3 (.inr (by rw [← z]; exact c')) S3 fq hq3)
        · rw [decide_eq_false z]
          walk_at "au"
          exact next _ _ ⟨ps ++ [j], wt w, _, _, _, by simp [lp], c', S3, hq3, rfl⟩
  · obtain ⟨ps, x, x6, x7, x8, lp, c, S, hq, rfl⟩ := i
    walk_at "au"
    refine go_newE fun p fp => ?_
    exact fgt (ok [] p _ (.inl rfl) (S.trans (Sub.new fp)) (sub_none S fp) up_same)
end
theorem sub_ge {m : Int} (hm : 0 ≤ m) {i : Nat} : ∀ {js : List Nat} {left : List Int}, left.getD i 0 ≤ (sub (-m) left js).getD i 0
  | [], left => Int.le_refl _
  | j :: js, left => by
    show _ ≤ (sub (-m) (left.set j (left.getD j 0 - -m)) js).getD i 0
    refine Int.le_trans ?_ (sub_ge hm)
    by_cases e : j = i
    · subst e
      rw [List.getD_eq_getElem?_getD (l := left.set _ _)]
      by_cases jl : j < left.length
      · rw [List.getElem?_set_self jl]
        show _ ≤ left.getD j 0 - -m
        omega
      · rw [List.getElem?_eq_none (by rw [List.length_set]; omega), List.getD_eq_getElem?_getD, List.getElem?_eq_none (by omega)]; exact Int.le_refl _
    · rw [List.getD_eq_getElem?_getD (l := left.set _ _), List.getElem?_set_ne e, ← List.getD_eq_getElem?_getD]; exact Int.le_refl _
theorem Cn.pour {ws : List Wy} {fs : List Int} {s t y0 y1 m : Int} {js : List Nat} (C : Cn ws fs s t) (hm : 0 ≤ m) (c : js = [] ∨ Ch ws y0 js y1) (hy : (y0 = s ∧ y1 = t) ∨ y0 = y1) : Cn ws (sub (-m) fs js) s t := by
  refine ⟨by rw [sub_len]; exact C.n, fun j => Int.le_trans (C.p j) (sub_ge hm), fun x n1 n2 => ?_⟩
  rcases c with e | c
  · subst e; exact C.c x n1 n2
  · rw [out_sub c C.n, C.c x n1 n2]
    rcases hy with ⟨e1, e2⟩ | e
    · rw [e1, e2, if_neg (Ne.symm n1), if_neg (Ne.symm n2)]; rfl
    · rw [e]; omega
theorem Cn.zero {ws : List Wy} {s t : Int} : Cn ws (List.replicate ws.length 0) s t := by
  refine ⟨List.length_replicate, fun j => by rw [rep_get]; exact Int.le_refl _, fun x _ _ => out_zero' List.length_replicate fun j w e _ => rep_get⟩
section
variable {h : DH} {P : KD} {R : KX} {a b c d y : Addr} {ws : List Wy} {fs left : List Int} {s t x v : Int} {sh : List (List Nat × Int)}
theorem lflows_spec {rs : List Int} (ha : h a = some (.lst (ws.map dE))) (hd : h d = some (.lst (rs.map D.int))) (hw : ws.length ≤ 60) (r0 : ∀ r ∈ rs, 0 ≤ r)
    (ok : ∀ fs p H, Cn ws fs s t → Sub h H → h p = none → H p = some (.lst (fs.map D.int)) → P (.ref p) H) : sp_law_flows [.ref a, .int s, .int t, .ref d] h P R := by
  have gd : ∀ {l : List Int} {j : Nat}, j < l.length → l[j]? = some (l.getD j 0) := fun {l j} hj => by
    rw [List.getD_eq_getElem?_getD, List.getElem?_eq_getElem hj]; rfl
  unfold sp_law_flows t_law_flows
  walk_at "au"
  refine go_new fun z h1 fz S1 hz => ?_
  have ha1 := S1 _ _ ha
  walk_at "au"
  refine go_zeros hz (by omega) fun q fq => ?_
  have hq0 : up h1 q (.lst ((List.replicate ws.length (0 : Int)).map D.int)) q = some (.lst ((List.replicate ws.length (0 : Int)).map D.int)) := up_same
  have fqh : h q = none := sub_none S1 fq
  have S0 : Sub h (up h1 q (.lst ((List.replicate ws.length (0 : Int)).map D.int))) := S1.trans (Sub.new fq)
  have C0 : Cn ws (List.replicate ws.length 0) s t := Cn.zero
  generalize up h1 q (.lst ((List.replicate ws.length (0 : Int)).map D.int)) = h2 at *
  generalize List.replicate ws.length (0 : Int) = fs0 at *
  clear hz ha1 fz
  have hd2 := S0 _ _ hd
  walk_at "au"
  refine for_ind (fun rem e h' => ∃ rest fs x5 x6 x7 x8 x9, rem = rest.map D.int ∧ (∀ r ∈ rest, 0 ≤ r) ∧ Cn ws fs s t ∧ Sub h h' ∧ h' q = some (.lst (fs.map D.int)) ∧ e = [some (.ref a), some (.int s), some (.int t), some (.ref d), some (.ref q), x5, x6, x7, x8, x9])
    (fun g rr e h' X i next => ?_) (fun e h' i => ?_) _ _ _ ⟨rs, fs0, none, none, none, none, none, rfl, r0, C0, S0, hq0, rfl⟩
  · clear hq0 S0 C0
    obtain ⟨rest, fs, x5, x6, x7, x8, x9, er, rp, C, S, hq, rfl⟩ := i
    cases rest with
    | nil => cases er
    | cons r rest =>
      obtain ⟨rfl, rfl⟩ := List.cons.inj er
      have rz := rp r (List.mem_cons_self ..)
      have ha' := S _ _ ha
      refine ⟨S _ _ hd, ?_⟩
      walk_at "au"
      generalize hN : kNx _ _ = N
      have key : ∀ y0 y1, ((y0 = s ∧ y1 = t) ∨ y0 = y1) → N [some (.ref a), some (.int s), some (.int t), some (.ref d), some (.ref q), some (.int r), some (.int (1 + r % 5)), some (.int y0), some (.int y1), x9] h' := by
        subst hN
        intro y0 y1 hy
        walk_at "au"
        refine lpath_spec ha' hw (by omega) fun js p h3 c S3 fp hp => ?_
        have hq3 := S3 _ _ hq
        have npq : p ≠ q := Ne.symm (ne_new hq fp)
        have m0 : 0 ≤ r % 5 := Int.emod_nonneg _ (by decide)
        have C' := C.pour (show (0 : Int) ≤ 1 + r % 5 by omega) c hy
        generalize 1 + r % 5 = m at *
        have jl : ∀ j ∈ js, j < fs.length := fun j hj => by
          rw [C.n]
          exact c.elim (fun z => by rw [z] at hj; cases hj) fun z => z.lt j hj
        have S4 := S.trans S3
        clear S S3 ha' hq
        walk_at "au"
        refine for_ind (fun rem e h' => ∃ pre r2 x9, js = pre ++ r2 ∧ rem = r2.map (fun j : Nat => D.int j) ∧ h' = up h3 q (.lst ((sub (-m) fs pre).map D.int)) ∧ e = [some (.ref a), some (.int s), some (.int t), some (.ref d), some (.ref q), some (.int r), some (.int m), some (.int y0), some (.int y1), x9]) (fun g rr e h' X2 i next2 => ?_) (fun e h' i => ?_) _ _ _ ⟨[], js, _, rfl, rfl, (up_id hq3).symm, rfl⟩
        · obtain ⟨pre, r2, x9, ez, err, rfl, rfl⟩ := i
          cases r2 with
          | nil => cases err
          | cons j r2 =>
            obtain ⟨rfl, rfl⟩ := List.cons.inj err
            refine ⟨up_neq' (Ne.symm npq) hp, ?_⟩
            have j1 : j < (sub (-m) fs pre).length := by rw [sub_len]; exact jl j (by rw [ez]; simp)
            walk_at "au"
            refine go_at (atI_i (gd j1)) ?_
            walk_at "au"
            refine go_setL (j := j) up_same (by unfold ixN; rw [List.length_map, if_pos (by omega), if_pos (by omega)]; rfl) ?_
            rw [up_up]
            refine next2 _ _ ⟨pre ++ [j], r2, _, by rw [ez]; simp, rfl, ?_, rfl⟩
            have eS : sub (-m) fs (pre ++ [j]) = (sub (-m) fs pre).set j ((sub (-m) fs pre).getD j 0 + m) := by
              show (pre ++ [j]).foldl _ _ = _
              rw [List.foldl_append]
              show ((sub (-m) fs pre).set j _) = _
              rw [show ∀ z : Int, z - -m = z + m by intro z; omega]
              rfl
            rw [eS, List.map_set]
        · obtain ⟨pre, r2, x9, ez, err, rfl, rfl⟩ := i
          cases r2 with
          | cons g r2 => cases err
          | nil =>
            rw [List.append_nil] at ez
            subst ez
            refine ⟨up_neq' (Ne.symm npq) hp, ?_⟩
            exact next _ _ ⟨rest, _, _, _, _, _, _, rfl, fun r hr => rp r (List.mem_cons_of_mem _ hr), C', Sub.over S4 fqh, up_same, rfl⟩
      walk_at "br"
      split
      · walk_at "au"
        exact key _ _ (.inr rfl)
      · walk_at "au"
        exact key _ _ (.inl ⟨rfl, rfl⟩)
  · obtain ⟨rest, fs, x5, x6, x7, x8, x9, er, rp, C, S, hq, rfl⟩ := i
    refine ⟨S _ _ hd, ?_⟩
    walk_at "au"
    exact fgt (ok fs q h' C S fqh hq)
end
theorem da_nat : Da (fun k : Nat => D.int (k : Nat)) (fun k => PyData.int (k : Nat)) 0 := ⟨fun h m a _ => by cases m <;> rfl, fun a b => by
  simp only [PyData.eqv, beq_iff_eq]; omega⟩
theorem da_Sh : Da dSh (fun x => PyData.tuple [PyData.tuple (x.1.map fun k : Nat => PyData.int (k : Nat)), PyData.int x.2]) 2 := Da.pair (Da.tupL da_nat) da_int
theorem out_congr {x : Int} : ∀ {ws ws' : List Wy} {fs : List Int}, ws.map dE = ws'.map dE → out ws fs x = out ws' fs x
  | [], [], _, _ => rfl
  | [], _ :: _, _, e => by cases e
  | _ :: _, [], _, e => by cases e
  | w :: ws, w' :: ws', [], e => rfl
  | w :: ws, w' :: ws', f :: fs, e => by
    rw [List.map_cons, List.map_cons] at e
    obtain ⟨e1, e2⟩ := List.cons.inj e
    unfold dE at e1
    injection e1 with e1
    injection e1 with g1 e1
    injection e1 with g2 _
    injection g1 with g1
    injection g2 with g2
    show (if wg w = x then f else 0) - (if wt w = x then f else 0) + out ws fs x = (if wg w' = x then f else 0) - (if wt w' = x then f else 0) + out ws' fs x
    rw [g1, g2, out_congr e2]
theorem Cn.congr {ws ws' : List Wy} {fs : List Int} {s t : Int} (C : Cn ws fs s t) (e : ws.map dE = ws'.map dE) : Cn ws' fs s t := by
  have := congrArg List.length e
  rw [List.length_map, List.length_map] at this
  exact ⟨by rw [← this]; exact C.n, C.p, fun x n1 n2 => by rw [← out_congr (fs := fs) e]; exact C.c x n1 n2⟩
theorem Cn.ok {ws : List Wy} {fs : List Int} {s t : Int} (C : Cn ws fs s t) (hc : ∀ (j : Nat) (w : Wy), ws[j]? = some w → fs.getD j 0 ≤ wc w) : OK ws fs s t := by
  refine ⟨⟨C.n, fun j w f ew ef => ?_⟩, fun w _ x _ n1 n2 => C.c x n1 n2⟩
  have h1 := C.p j
  have h2 := hc j w ew
  have : fs.getD j 0 = f := by rw [List.getD_eq_getElem?_getD, ef]; rfl
  omega
theorem mkP_ok {r n : Int} (hn : 2 ≤ n ∧ n ≤ 6) : (1 ≤ wg (mkP r n) ∧ wg (mkP r n) ≤ 8) ∧ 1 ≤ wt (mkP r n) ∧ wt (mkP r n) ≤ 8 := by
  have h1 := Int.emod_nonneg r (show n ≠ 0 by omega)
  have h2 := Int.emod_lt_of_pos r (show 0 < n by omega)
  have h3 := Int.emod_nonneg (r / n) (show n ≠ 0 by omega)
  have h4 := Int.emod_lt_of_pos (r / n) (show 0 < n by omega)
  refine ⟨⟨?_, ?_⟩, ?_, ?_⟩
  · show 1 ≤ 1 + r % n; omega
  · show 1 + r % n ≤ 8; omega
  · show 1 ≤ 1 + r / n % n; omega
  · show 1 + r / n % n ≤ 8; omega
theorem shr_len {ws : List Wy} {s t : Int} : ∀ {n : Nat} {left : List Int} {acc : List (List Nat × Int)}, (shr ws s t n left acc).length ≤ acc.length + n
  | 0, left, acc => Nat.le_refl _
  | n + 1, left, acc => by
    unfold shr
    split
    · omega
    · refine Nat.le_trans shr_len ?_
      split
      · rw [List.length_append]; simp; omega
      · omega
def mkY (k : Nat) (w : Wy) (c : Int) : Wy := ((k : Nat), wg w, wt w, (0, 0, 0), c)
theorem law_ok : LawOk 63 sp_law := by
  intro ns hl
  have gd : ∀ {l : List Int} {j : Nat}, j < l.length → l[j]? = some (l.getD j 0) := fun {l j} hj => by
    rw [List.getD_eq_getElem?_getD, List.getElem?_eq_getElem hj]; rfl
  unfold sp_law t_law
  walk_at "au"
  refine law_rows_spec (n := 22) (by decide) fun xs hx h0 => go_new fun p h1 fp S1 hp => ?_
  have ex : ∀ j, j < 22 → ∃ x, xs[j]? = some x ∧ 0 ≤ x := fun j hj => ⟨_, List.getElem?_eq_getElem (by omega), h0 _ (List.getElem_mem _)⟩
  obtain ⟨c12, e12, z12⟩ := ex 12 (by omega)
  obtain ⟨c20, e20, z20⟩ := ex 20 (by omega)
  obtain ⟨c21, e21, z21⟩ := ex 21 (by omega)
  walk_at "au"
  refine go_at (atI_i e12) ?_
  walk_at "au"
  refine go_at (atI_i e12) ?_
  walk_at "au"
  generalize en : 2 + c12 % 4 = n
  have hn : 2 ≤ n ∧ n ≤ 6 := by omega
  obtain ⟨m, em⟩ : ∃ m : Nat, 1 + c12 / 4 % 12 = (m : Int) := ⟨(1 + c12 / 4 % 12).toNat, by omega⟩
  have m1 : 1 ≤ m := by omega
  have m12 : m ≤ 12 := by omega
  rw [em]
  refine lpairs_spec hp h0 (by omega) (by omega) hn (go_new fun a h2 fa S2 ha => ?_)
  generalize ew : (xs.take m).map (fun r => mkP r n) = W at ha
  have lW : W.length = m := by rw [← ew, List.length_map, List.length_take]; omega
  have hp8 : ∀ w ∈ W, (1 ≤ wg w ∧ wg w ≤ 8) ∧ 1 ≤ wt w ∧ wt w ≤ 8 := fun w hw => by
    rw [← ew] at hw
    obtain ⟨r, hr, rfl⟩ := List.mem_map.mp hw
    exact mkP_ok hn
  clear ew
  have hp2 := S2 _ _ hp
  walk_at "au"
  refine go_at (atI_i e12) ?_
  walk_at "au"
  generalize es : 1 + c12 / 48 % n = s
  have s0 : 0 ≤ c12 / 48 % n := Int.emod_nonneg _ (by omega)
  have s1 : c12 / 48 % n < n := Int.emod_lt_of_pos _ (by omega)
  have hs : 1 ≤ s ∧ s ≤ 8 := by omega
  have hs2 : s ≤ n := by omega
  refine go_at (atI_i e12) ?_
  walk_at "au"
  generalize et : 1 + (s + c12 / 240 % (n - 1)) % n = t
  have u0 : 0 ≤ c12 / 240 % (n - 1) := Int.emod_nonneg _ (by omega)
  have u1 : c12 / 240 % (n - 1) < n - 1 := Int.emod_lt_of_pos _ (by omega)
  have t0 : 0 ≤ (s + c12 / 240 % (n - 1)) % n := Int.emod_nonneg _ (by omega)
  have t1 : (s + c12 / 240 % (n - 1)) % n < n := Int.emod_lt_of_pos _ (by omega)
  have st : ¬ s = t := by
    generalize c12 / 240 % (n - 1) = u at *
    intro e
    have : (s + u) % n = s - 1 := by omega
    have d := Int.emod_add_mul_ediv (s + u) n
    rw [this] at d
    have e2 : n * ((s + u) / n) = u + 1 := by omega
    rcases (by omega : (s + u) / n ≤ 0 ∨ 1 ≤ (s + u) / n) with k | k
    · have := Int.mul_le_mul_of_nonneg_left k (show 0 ≤ n by omega)
      omega
    · have := Int.mul_le_mul_of_nonneg_left k (show 0 ≤ n by omega)
      omega
  refine go_at (atI_i e20) ?_
  walk_at "au"
  refine go_new fun d h3 fd S3 hd => ?_
  have ha3 := S3 _ _ ha
  rw [cut_mid (by omega) (by omega), ← List.map_drop, ← List.map_take] at hd
  have hp3 := S3 _ _ hp2
  refine lflows_spec ha3 hd (by omega) (fun r hr => h0 r (List.mem_of_mem_drop (List.mem_of_mem_take hr))) fun fs b h4 C S4 fb hb => ?_
  have ha4 := S4 _ _ ha3
  have hp4 := S4 _ _ hp3
  clear ha3 hp3 hd hp2 ha hp
  walk_at "au"
  refine go_newE fun y fy => ?_
  have nay := ne_new ha4 fy
  have npy := ne_new hp4 fy
  have nby := ne_new hb fy
  walk_at "au"
  rw [Int.toNat_natCast]
  have fl : fs.length = W.length := C.n
  refine for_rng (fun k e h' => ∃ pre : List Wy, ∃ x8, pre.length = k ∧ pre.map dE = (W.take k).map dE ∧ (∀ (j : Nat) (w : Wy), pre[j]? = some w → fs.getD j 0 ≤ wc w) ∧ (∀ w ∈ pre, (1 ≤ wg w ∧ wg w ≤ 8) ∧ 1 ≤ wt w ∧ wt w ≤ 8) ∧ h' = up h4 y (.lst (pre.map dW)) ∧ e = [some (.rol (ns.map D.int)), some (.ref p), some (.int n), some (.ref a), some (.int s), some (.int t), some (.ref b), some (.ref y), x8, none, none, none, none, none, none, none, none]) (fun k e h' X hk i next => ?_) (fun e h' i => ?_) _ _ ⟨[], none, rfl, rfl, (fun j w z => by simp at z), (fun w z => by cases z), rfl, rfl⟩
  · obtain ⟨pre, x8, lp, ep, gp, g8, rfl, rfl⟩ := i
    have ha' : up h4 y (.lst (pre.map dW)) a = some (.lst (W.map dE)) := up_neq nay ha4
    have hp' : up h4 y (.lst (pre.map dW)) p = some (.lst (xs.map D.int)) := up_neq npy hp4
    have hb' : up h4 y (.lst (pre.map dW)) b = some (.lst (fs.map D.int)) := up_neq nby hb
    obtain ⟨w, ew⟩ : ∃ w, W[k]? = some w := ⟨_, List.getElem?_eq_getElem hk⟩
    have eE : (W.map dE)[k]? = some (dE w) := by rw [List.getElem?_map, ew]; rfl
    walk_at "au"
    refine go_at (atI_of rfl eE) ?_
    simp only [dE]
    walk_at "au"
    refine go_at (atI_of rfl eE) ?_
    simp only [dE]
    walk_at "au"
    refine go_at (atI_i (gd (by omega))) ?_
    walk_at "au"
    refine go_at (atI_i e21) ?_
    walk_at "au"
    refine ⟨by rw [lp]; exact small1000 (by omega), next _ _ ⟨pre ++ [mkY k w (fs.getD k 0 + c21 / ((k : Nat) + 1) % 3)], _, by simp [lp], ?_, fun j w2 hj => ?_, fun w2 hw2 => ?_, ?_, rfl⟩⟩
    · rw [List.take_add_one, ew, List.map_append, List.map_append, ep]; rfl
    · by_cases z : j < pre.length
      · rw [List.getElem?_append_left z] at hj
        exact gp j w2 hj
      · have := (List.getElem?_eq_some_iff.mp hj).1
        have jk : j = k := by simp at this; omega
        subst jk
        rw [List.getElem?_append_right (by omega), lp, Nat.sub_self] at hj
        cases hj
        show fs.getD j 0 ≤ fs.getD j 0 + c21 / ((j : Nat) + 1) % 3
        have := Int.emod_nonneg (c21 / ((j : Nat) + 1)) (show (3 : Int) ≠ 0 by decide)
        omega
    · rcases List.mem_append.mp hw2 with z | z
      · exact g8 w2 z
      · rw [List.mem_singleton.mp z]; exact hp8 w (List.mem_of_getElem? ew)
    · rw [List.map_append]; rfl
  · obtain ⟨ws, x8, lp, ep, gp, g8, rfl, rfl⟩ := i
    rw [List.take_of_length_le (Nat.le_refl _)] at ep
    rw [← ep] at ha4
    have S5 : Sub h4 (up h4 y (.lst (ws.map dW))) := Sub.new fy
    have hy : up h4 y (.lst (ws.map dW)) y = some (.lst (ws.map dW)) := up_same
    generalize up h4 y (.lst (ws.map dW)) = h5 at *
    have ha5 := S5 _ _ ha4
    have hb5 := S5 _ _ hb
    have hp5 := S5 _ _ hp4
    have C' := C.congr ep.symm
    have O := C'.ok gp
    have lws : ws.length = m := by rw [lp]; exact lW
    have Gd := shr_good C' st (by omega)
    have wc0 : ∀ w ∈ ws, 0 ≤ wc w := fun w hw => by
      obtain ⟨j, ej⟩ := List.mem_iff_getElem?.mp hw
      have := gp j w ej
      have := C.p j
      omega
    clear ha4 hb hp4
    walk_at "au"
    refine go_new fun g h6 fg S6 hg => ?_
    have hy6 := S6 _ _ hy
    walk_at "au"
    refine peel_spec hy6 hg (by omega) (fun z => (z.elim (fun z => absurd O z) fun z => absurd z st)) fun _ _ q h7 S7 fq hq => ?_
    have hg7 := S7 _ _ hg
    have hb7 := S7 _ _ (S6 _ _ hb5)
    have ha7 := S7 _ _ (S6 _ _ ha5)
    walk_at "au"
    rw [da_int.neLL (by decide) hg7 hb7, decide_eq_true rfl]
    walk_at "au"
    refine lshares_spec ha7 hb7 (by omega) st C' fun r h8 S8 fr hr => ?_
    have hq8 := S8 _ _ hq
    walk_at "au"
    rw [da_Sh.neLL (by decide) hq8 hr, decide_eq_true rfl]
    walk_at "au"
    refine law_good_spec (S8 _ _ ha7) (S8 _ _ hb7) hq8 C'.n (by omega) Gd ?_
    walk_at "au"
    have hy8 : h8 y = some (.lst (ws.map dW)) := by walk_at "at"
    refine gf_spec hy8 (by omega) wc0 g8 hs (fun z => by omega) fun _ v gs Sd b' y' h9 S9 hb' _ F Z _ _ _ => ?_
    have G' : OK ws gs s t := ⟨F.b, fun w _ x _ n1 n2 => F.c x n1 n2⟩
    have Gd2 := shr_good (Cn.of F) st (show ws.length ≤ 60 by omega)
    have sm := shr_sum F Z st (show ws.length ≤ 60 by omega)
    have hb8 : h8 b = some (.lst (fs.map D.int)) := by walk_at "at"
    have ha8 : h8 a = some (.lst (ws.map dE)) := by walk_at "at"
    walk_at "au"
    refine go_new fun g2 h10 fg2 S10 hg2 => ?_
    have hy10 := S10 _ _ (S9 _ _ hy8)
    walk_at "au"
    refine peel_spec hy10 hg2 (by omega) (fun z => (z.elim (fun z => absurd G' z) fun z => absurd z st)) fun _ _ q2 h11 S11 fq2 hq2 => ?_
    have hb11 := S11 _ _ (S10 _ _ hb')
    have ha11 := S11 _ _ (S10 _ _ (S9 _ _ ha8))
    walk_at "au"
    refine lshares_spec ha11 hb11 (by omega) st (Cn.of F) fun r2 h12 S12 fr2 hr2 => ?_
    have hq12 := S12 _ _ hq2
    walk_at "au"
    rw [da_Sh.neLL (by decide) hq12 hr2, decide_eq_true rfl]
    walk_at "au"
    refine law_good_spec (S12 _ _ ha11) (S12 _ _ hb11) hq12 F.b.1 (by omega) Gd2 ?_
    have hy12 : h12 y = some (.lst (ws.map dW)) := by walk_at "at"
    have hb12 : h12 b = some (.lst (fs.map D.int)) := by walk_at "at"
    have ls : (shr ws s t 60 gs []).length ≤ 1000 := Nat.le_trans shr_len (by simp)
    generalize shr ws s t 60 gs [] = sh at *
    walk_at "au"
    refine go_lcM (fun d => match d with
      | .tup [_, .int v] => .int v
      | _ => .non) (by rw [List.length_map]; exact le1000 ls) (fun L acc hL => up_at hq12 hL) (fun L acc dd X hL hdd h3 hX => ?_) (go_new fun z h13 fz S13 hz => ?_)
    · obtain ⟨u, hu, rfl⟩ := List.mem_map.mp hdd
      simp only [dSh] at hX ⊢
      walk_at "au"
      exact hX
    · have e1 : ((sh.map dSh).map fun d => match d with
        | .tup [_, .int v] => .int v
        | _ => .non) = (sh.map (·.2)).map D.int := by rw [List.map_map, List.map_map]; rfl
      rw [e1] at hz
      have hy13 := S13 _ _ hy12
      have hb13 := S13 _ _ hb12
      walk_at "au"
      rw [w_sumL hz, sm]
      walk_at "au"
      refine go_new fun z0 h14 fz0 S14 hz0 => ?_
      have hy14 := S14 _ _ hy13
      have hb14 := S14 _ _ hb13
      refine go_catL hb14 hz0 (le1000 (by rw [List.length_map, C'.n]; simp; omega)) (go_new fun b3 h15 fb3 S15 hb3 => ?_)
      rw [show fs.map D.int ++ [.int 0] = (fs ++ [0]).map D.int by rw [List.map_append]; rfl] at hb3
      have hy15 := S15 _ _ hy14
      have hb15 := S15 _ _ hb14
      walk_at "au"
      refine lref_spec hy15 hb3 (by omega) (.inl fun o => ?_) ?_
      · have := o.1.1
        rw [List.length_append, C'.n] at this
        simp at this
      walk_at "au"
      refine go_newE fun b4 f4 => ?_
      have hb4 : up h15 b4 (.lst (fs.map D.int)) b4 = some (.lst (fs.map D.int)) := up_same
      have hy16 : up h15 b4 (.lst (fs.map D.int)) y = some (.lst (ws.map dW)) := up_at hy15 f4
      obtain ⟨w0, ew0⟩ : ∃ w0, ws[0]? = some w0 := ⟨_, List.getElem?_eq_getElem (by omega)⟩
      have eW : (ws.map dW)[0]? = some (dW w0) := by rw [List.getElem?_map, ew0]; rfl
      walk_at "au"
      refine go_at (atI_of (j := 0) rfl eW) ?_
      rw [dW_eq]
      walk_at "au"
      refine go_setL (j := 0) hb4 (by have := C'.n; unfold ixN; rw [List.length_map, if_pos (by omega), if_pos (by omega)]; rfl) ?_
      rw [up_up, ← List.map_set]
      have hb5' : up h15 b4 (.lst ((fs.set 0 (wc w0 + 1)).map D.int)) b4 = some (.lst ((fs.set 0 (wc w0 + 1)).map D.int)) := up_same
      have hy17 : up h15 b4 (.lst ((fs.set 0 (wc w0 + 1)).map D.int)) y = some (.lst (ws.map dW)) := up_at hy15 f4
      have hb17 : up h15 b4 (.lst ((fs.set 0 (wc w0 + 1)).map D.int)) b = some (.lst (fs.map D.int)) := up_at hb15 f4
      generalize up h15 b4 (.lst ((fs.set 0 (wc w0 + 1)).map D.int)) = h17 at *
      walk_at "au"
      refine lref_spec hy17 hb5' (by omega) (.inl fun o => ?_) ?_
      · have := o.1.2 0 w0 (wc w0 + 1) ew0 (by rw [List.getElem?_set_self (by have := C'.n; omega)])
        omega
      walk_at "au"
      refine lref_spec hy17 hb17 (by omega) (.inr rfl) ?_
      walk_at "au"
      exact fgt rfl
end Lk87

open PySem PySem.W PySem.Calls PyProof.Rows
theorem PySem.Challenge.cw_droveway_k87_peeling_holds : PySem.Challenge.rw_droveway_k87_peeling.Holds := by
  w_on; o_law
  refine HandSHeadRun.head_any (r := OpenLaw.row PySem.Challenge.rw_droveway_k87_peeling) (q := view (OpenLaw.row PySem.Challenge.rw_droveway_k87_peeling).prog [28]) (H := Lk87.hk) (ob := Lk87.ob) (M := 3000) (loose := Lk87.nms) (d := HandSHeadRun.topDef (OpenLaw.row PySem.Challenge.rw_droveway_k87_peeling).prog 28) (kwd := []) Lk87.ob_eq
    (by kernel_rfl) (fun s => by kernel_rfl) Lk87.run (by kernel_rfl) (by kernel_rfl) (by kernel_rfl) (by rfl) (by first | assumption | decide +kernel) (by decide +kernel) ⟨rfl, rfl, rfl, rfl, rfl, by decide +kernel⟩ ?hw ?hc
  case hw => w_witness2
  case hc =>
    refine DW.walk_end (l := PySem.Challenge.rw_droveway_k87_peeling) (n := 63) (k := 5) (sp := Lk87.sp_law) (x := ("script" : PySem.Str)) (fun P w K mg base => (Lk87.md).pg P w K mg base) (fun _ _ _ _ _ => rfl) (fun _ _ _ _ _ _ => rfl) rfl (by decide) (by kernel_rfl) ⟨rfl, by decide, by decide⟩ Lk87.law_ok ?F
    intro w mg fa h Y G hmg0
    obtain ⟨K, KX, c⟩ := Y
    have hmg : mg ("law" : PySem.Str) = some (.ref fa) := by
      have e : (HandSHeadRun.topDef (OpenLaw.row PySem.Challenge.rw_droveway_k87_peeling).prog 28).name = ("law" : PySem.Str) := by kernel_rfl
      rw [← e]
      exact hmg0
    have hc2 := (He.ba (He.ba c.x.more).2).1
    have e := hmg.symm.trans (PySem.W.mg_of KX G (He.eqO_ok (List.all_eq_true.mp hc2 ("law" : PySem.Str) (by decide +kernel))))
    cases e
    obtain ⟨fd, hb, hF⟩ := Lk87.chain (P := (PySem.Challenge.rw_droveway_k87_peeling).prog) (w := w) KX G c
    exact ⟨K, fd, KX, hb, hF⟩
