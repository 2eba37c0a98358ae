import PyProof.Rows.All
import Wide.All
import OpenK.AllK
import Wide.FinOn
import HandS.ForMost
import HandS.ForExc
import HandS.Wide
import HandS.TupAny
import HandS.IsInst
import HandS.Rev
import KE.LtData
import HandS.WordsExc
import HandS.More
import HandS.TryOnly
import HandS.ExcIs
import KE.RegKIsAll
import PySem.Challenge.RW_wordscales_k09_whole_alike_or_parted
set_option Elab.async false
set_option linter.all false
set_option maxRecDepth 100000
set_option maxHeartbeats 4000000
/-! tuple(reversed(t)), t a tuple -/
namespace MP
open PySem PySem.Spec PyProof.Rows L2 RT
theorem nolen_rt : typeLookup (.type "reversed") "__len__" = pure none := by rw [typeLookup_type, builtinLookup_eq_fast]; kernel_rfl
theorem hint_rt : typeLookup (.type "reversed") "__length_hint__" = pure (some (.builtin "reversed.__length_hint__")) := by rw [typeLookup_type, builtinLookup_eq_fast]; kernel_rfl
theorem slot_rt_hint : Slot "reversed" "__length_hint__" "reversed.__length_hint__" :=
  .of (owner := "reversed") (n := "__length_hint__") (by rw [typeLookup_type, builtinLookup_eq_fast]; kernel_rfl) (by decide +kernel) (by decide +kernel) (by decide +kernel)
    (by first | exact .inl (by decide +kernel) | exact .inr (by decide +kernel)) (by rw [isSubtype_type]; kernel_rfl)
theorem entry_rt_hint : entryFor table "reversed.__length_hint__" = some Builtin.«reversed.__length_hint__» := entryFor_of_tree (by kernel_rfl)
theorem args_rt_hint (a : Value) : argsOk "reversed.__length_hint__" ⟨[a], []⟩ := by
  unfold argsOk; rw [signature?_of (id := "reversed.__length_hint__") (n := ['_', '_', 't', 'n', 'i', 'h', '_', 'h', 't', 'g', 'n', 'e', 'l', '_', '_']) (o := ['d', 'e', 's', 'r', 'e', 'v', 'e', 'r']) (by kernel_rfl) owner_rt]; kernel_rfl
section
variable {prog : Program} {w : World} {A : Around} {E : Value → Shared → Prop} {s : Shared}
theorem hint_call {it t : Addr} {items : Array Value} {i : Int} {Q : Value → Shared → Prop} (hit : IsRt s.heap it t i) (ht : IsTup s.heap t items) (hi : ¬ ((items.size : Int) < i + 1)) (hn : items.size ≤ sizeLine)
    (hQ : ∀ tk k, s.toks ≤ tk → Q (.int (i + 1) k) { s with toks := tk }) : wpAny (model prog w) A (call (.builtin "reversed.__length_hint__") [.ref it]) Q E s := by
  refine wpAny_call_entry slot_rt_hint hit.typeIs entry_rt_hint ?_ (args_rt_hint _)
  obtain ⟨o, ho, hc, hd⟩ := id hit
  unfold Builtin.«reversed.__length_hint__»
  refine wpAny_bind (wpAny_of_eq (a := (Value.ref it)) rfl ?_)
  try dsimp only
  refine wpAny_bind (wpAny_field ho hd (x := .ref t) rfl ?_)
  try dsimp only
  try rw [if_neg (by decide)]
  try dsimp only
  refine wpAny_bind (len_tuple ht (by have := line63; omega) ?_)
  refine wpAny_bind (wpAny_of_eq (a := some (items.size : Int)) rfl ?_)
  try dsimp only
  refine wpAny_bind (wpAny_field (s := { s with toks := s.toks + 1 + 1 }) ho hd (x := rawInt i) rfl ?_)
  try dsimp only
  show wpAny _ _ (if (items.size : Int) < i + 1 then _ else _) _ _ _
  rw [if_neg hi]
  refine wpAny_bind (wpAny_mkInt ?_)
  exact wpAny_pure ⟨_, rfl, hQ _ _ (by show s.toks ≤ s.toks + 1 + 1 + 1; omega)⟩
theorem bind_rt_hint (self : Value) : bindSpecial (.builtin "reversed.__length_hint__") self = pure (.builtin "reversed.__length_hint__", [self]) := by
  have hop : withoutEnding? "reversed.__length_hint__" "#opaque" = none := by decide +kernel
  have hdat : withoutEnding? "reversed.__length_hint__" "#data" = none := by decide +kernel
  have hk : builtinKind "reversed.__length_hint__" = some .method := by decide +kernel
  simp only [bindSpecial, typeOf, builtinType, hop, hdat, hk]; rfl
theorem walks_rt (hh : A.handled = none) (it t : Addr) (hne : t ≠ it) (items : Array Value) (hsz : items.size ≤ sizeLine) :
    Walks prog w A it [it, t] [it] items.size (fun i v => items[items.size - 1 - i]? = some v) (fun i h => i ≤ items.size ∧ IsRt h it t ((items.size : Int) - 1 - (i : Nat)) ∧ IsTup h t items) where
  sub := fun b hb => by simp at hb; simp [hb]
  frame := fun _ _ _ st hk => ⟨st.1, st.2.1.at fun o e => hk it (by simp) o e, let ⟨o, e, r⟩ := st.2.2; ⟨o, hk t (by simp) o e, r⟩⟩
  item := fun i s Q E hi st hQ => by
    obtain ⟨_, hit, ht⟩ := st
    have e1 : (items.size : Int) - 1 - ((i : Nat) : Int) = ((items.size - 1 - i : Nat) : Int) := by omega
    rw [e1] at hit
    have hx : items[items.size - 1 - i]? = some items[items.size - 1 - i] := by simp
    refine next_rt_item hit ht hx hsz fun h' st' sb => ?_
    have e2 : ((items.size - 1 - i : Nat) : Int) - 1 = (items.size : Int) - 1 - ((i + 1 : Nat) : Int) := by omega
    rw [e2] at st'
    refine hQ _ h' (s.toks + 1) hx ⟨hi, st', ?_⟩ fun b o hb e => (sb.2 b (fun h => hb (by simp [h]))).trans e
    obtain ⟨o, e, r⟩ := ht
    exact ⟨o, (sb.2 t hne).trans e, r⟩
  done := fun s Q E st hQ => by
    obtain ⟨_, hit, ht⟩ := st
    have e1 : (items.size : Int) - 1 - ((items.size : Nat) : Int) = -1 := by omega
    rw [e1] at hit
    exact next_rt_end hh hit fun h' eb => hQ h' s.toks fun b o hb e => eb b o (fun h => hb (by simp [h])) e
  self := fun _ _ _ _ st hQ => iter_rt st.2.1 hQ
theorem collect_rt {it t : Addr} {items : Array Value} {Q : List Value → Shared → Prop} (hh : A.handled = none) (hit : IsRt s.heap it t ((items.size : Int) - 1)) (ht : IsTup s.heap t items) (hne : t ≠ it) (hn : items.size ≤ sizeLine)
    (hQ : ∀ (h' : Heap) (tk : Nat) (acc : Array Value), (∀ b o, b ≠ it → s.heap.get? b = some o → h'.get? b = some o) → ItemsOf (fun i v => items[items.size - 1 - i]? = some v) acc items.size → Q acc.toList { s with heap := h', toks := tk }) :
    wpAny (model prog w) A (collect (.ref it)) Q E s := by
  have W := (walks_rt (prog := prog) (w := w) (A := A.in1) hh it t hne items hn).toS
  obtain ⟨oi, hoi, _⟩ := id hit
  obtain ⟨ol, hol, _⟩ := id ht
  have hSi : s.heap.objs.size ≠ it := Nat.ne_of_gt (Heap.lt_size hoi)
  have hSl : s.heap.objs.size ≠ t := Nat.ne_of_gt (Heap.lt_size hol)
  have hSf : s.heap.objs.size ∉ [it, t] := by simp only [List.mem_cons, List.not_mem_nil, or_false, not_or]; exact ⟨hSi, hSl⟩
  unfold collect
  refine wpAny_bind (wpAny_runValue (codeAny_builtin F.entry_proto_collect ?_))
  rw [Around.under_plainId F.plain_proto_collect _]
  show wpAny _ A.in1 (newList [] >>= fun l' => again (.builtin "list.__iadd__" ⟨[l', .ref it], []⟩)) _ _ s
  refine wpAny_bind (wpAny_newObj_type ?_)
  refine wpAny_pure ⟨plainId_quiet F.plain_list_iadd _, codeAny_builtin F.entry_list_iadd ?_⟩
  rw [Around.under_plainId F.plain_list_iadd _]
  have hS₁ : (s.heap.push { cls := .type "list", data := .seq ([] : List Value).toArray }).get? s.heap.objs.size = some { cls := .type "list", data := .seq ([] : List Value).toArray } := Heap.get?_push_size _ rfl
  have hit1 : IsRt (s.heap.push { cls := .type "list", data := .seq ([] : List Value).toArray }) it t ((items.size : Int) - 1) := hit.at fun o e => Heap.get?_push_of_some _ e
  have ht1 : IsTup (s.heap.push { cls := .type "list", data := .seq ([] : List Value).toArray }) t items := let ⟨o, e, r⟩ := ht; ⟨o, Heap.get?_push_of_some _ e, r⟩
  have hT : ({ s with heap := s.heap.push { cls := .type "list", data := .seq ([] : List Value).toArray } } : Shared).TypeIs (.ref it) "reversed" := IsRt.typeIs (s := { s with heap := s.heap.push { cls := .type "list", data := .seq ([] : List Value).toArray } }) hit1
  have h1 : Builtin.List.listSameRef (.ref s.heap.objs.size) (.ref it) = false := by simp [Builtin.List.listSameRef, hSi]
  show wpAny _ A.in1 (Builtin.List.listExtendWith (.ref s.heap.objs.size) (.ref it) (.ref s.heap.objs.size)) _ _ _
  unfold Builtin.List.listExtendWith
  refine wpAny_bind (wpAny_typeOf hT ?_)
  rw [if_neg (by rw [h1]; decide)]
  refine wpAny_bind (iter_rt (s := { s with heap := s.heap.push { cls := .type "list", data := .seq ([] : List Value).toArray } }) hit1 ?_)
  refine wpAny_bind (wpAny_holding ?_)
  unfold Builtin.List.listLengthHint
  refine wpAny_bind (wpAny_specialOf hT nolen_rt ?_)
  show wpAny _ A.in1 (specialOf (Value.ref it) (Str.ofString "__length_hint__") >>= _) _ _ _
  refine wpAny_bind (wpAny_specialOf hT hint_rt ?_)
  generalize hid : ("reversed.__length_hint__" : String) = id0
  wp_delta
  rw [show splitId id0 = some ("reversed", "__length_hint__") from by subst hid; decide +kernel]
  subst hid
  refine wpAny_bind (wpAny_isInstance (b := true) hT (by rw [isSubtype_type]; kernel_rfl) ?_)
  simp only [Bool.not_true, Bool.false_eq_true, if_false]
  rw [if_neg (by decide +kernel)]
  refine wpAny_bind (wpAny_rule ?_)
  refine wpAny_bind (wpAny_of_eq (bind_rt_hint _) ?_)
  try dsimp only
  refine wpAny_bind (wpAny_attempt (hint_call (s := { s with heap := s.heap.push { cls := .type "list", data := .seq ([] : List Value).toArray } }) hit1 ht1 (by omega) hn fun tk k hk => ?_))
  have ei : ((items.size : Int) - 1 + 1) = (items.size : Int) := by omega
  rw [ei]
  dsimp only
  have ea : asInt? (Value.int (items.size : Int) k) = pure (some (items.size : Int)) := rfl
  rw [ea]
  clear ea
  refine wpAny_bind ?_
  refine wpAny_pure ?_
  try dsimp only
  have hl := line63
  have f1 : Builtin.List.listFitsIndex (items.size : Int) = true := by show (decide (-(2 ^ 63 : Int) ≤ (items.size : Int)) && decide ((items.size : Int) < 2 ^ 63)) = true; rw [decide_eq_true (by omega), decide_eq_true (by omega)]; rfl
  have f2 : Builtin.List.listTooLong ((items.size : Int).toNat) = false := by show decide (_ > sizeLine) = false; exact decide_eq_false (by omega)
  rw [f1, f2]
  simp only [Bool.not_true, Bool.false_eq_true, if_false]
  rw [if_neg (by omega)]
  clear hl
  refine wpAny_pure ?_
  have e0 : (items.size : Int) - 1 - ((0 : Nat) : Int) = (items.size : Int) - 1 := by omega
  by_cases hz : items.size = 0
  · rw [if_neg (by rw [show ((items.size : Int) != 0) = false by simp [hz]]; decide +kernel)]
    refine wpAny_pure ⟨plainId_quiet F.plain_extend_loop _, codeAny_extend_loopS W hn _ hSf _ items.size 0 _ _ _ rfl (Nat.zero_le _) ⟨Nat.zero_le _, by rw [e0]; exact hit1, ht1⟩ hS₁ (ItemsOf.nil _) fun s' acc' c' hm hS' hacc => ?_⟩
    show wpAny _ A (load s.heap.objs.size >>= _) _ _ s'
    refine wpAny_bind (wpAny_load hS' ?_)
    refine wpAny_pure ?_
    rw [Moved.eq_with hm]
    refine hQ s'.heap s'.toks acc' (fun b o hb e => hm.heap b o (fun hmem => ?_) (Heap.get?_push_of_some _ e)) hacc
    rcases List.mem_cons.mp hmem with e' | hmem
    · exact absurd (Heap.lt_size e) (by rw [e']; exact Nat.lt_irrefl _)
    · exact hb (List.mem_singleton.mp hmem)
  · rw [if_pos (by rw [show ((items.size : Int) != 0) = true from bne_iff_ne.mpr (by omega)]; rfl)]
    refine wpAny_bind (wpAny_rule ?_)
    refine wpAny_bind ?_
    show wpAny _ A.in1 (updateSeq s.heap.objs.size (·.push .none) >>= fun _ => updateSeq s.heap.objs.size (·.pop)) _ _ _
    have z0 : (0 : Nat) ≤ sizeLine := Nat.zero_le _
    have z1 : (1 : Nat) ≤ sizeLine := by rw [sizeLine_eq]; decide
    have z2 : (1 : Nat) ≤ sizeLine + 1 := by omega
    refine wpAny_bind (wpAny_updateSeq hS₁ rfl ?_ z0 z2)
    have hS₂ := Heap.get?_update_self (Obj.mapSeq (·.push Value.none)) hS₁ rfl
    refine wpAny_updateSeq hS₂ rfl ?_ z1 (Nat.zero_le _)
    have hS₃ := Heap.get?_update_self (Obj.mapSeq (·.pop)) hS₂ rfl
    have oth : ∀ b o, b ≠ s.heap.objs.size → (s.heap.push { cls := .type "list", data := .seq ([] : List Value).toArray }).get? b = some o →
        (((s.heap.push { cls := .type "list", data := .seq ([] : List Value).toArray }).update s.heap.objs.size (Obj.mapSeq (·.push Value.none))).update s.heap.objs.size (Obj.mapSeq (·.pop))).get? b = some o :=
      fun b o hb e => (Heap.get?_update_other _ _ (Ne.symm hb)).trans ((Heap.get?_update_other _ _ (Ne.symm hb)).trans e)
    refine wpAny_pure ⟨plainId_quiet F.plain_extend_loop _, codeAny_extend_loopS W hn _ hSf _ items.size 0 _ _ _ rfl (Nat.zero_le _)
      ⟨Nat.zero_le _, by rw [e0]; exact hit1.at fun o e => oth it o hSi.symm e, let ⟨o, e, r⟩ := ht1; ⟨o, oth t o hSl.symm e, r⟩⟩ hS₃ (ItemsOf.nil _) fun s' acc' c' hm hS' hacc => ?_⟩
    show wpAny _ A (load s.heap.objs.size >>= _) _ _ s'
    refine wpAny_bind (wpAny_load hS' ?_)
    refine wpAny_pure ?_
    rw [Moved.eq_with hm]
    refine hQ s'.heap s'.toks acc' (fun b o hb e => hm.heap b o (fun hmem => ?_) (oth b o (fun h => ?_) (Heap.get?_push_of_some _ e))) hacc
    · rcases List.mem_cons.mp hmem with e' | hmem
      · exact absurd (Heap.lt_size e) (by rw [e']; exact Nat.lt_irrefl _)
      · exact hb (List.mem_singleton.mp hmem)
    · exact absurd (Heap.lt_size e) (by rw [h]; exact Nat.lt_irrefl _)
theorem code_tuple_new_rt {it t : Addr} {items : Array Value} {Q₁ : Value → Shared → Prop} (hh : A.handled = none) (hit : IsRt s.heap it t ((items.size : Int) - 1)) (ht : IsTup s.heap t items) (hne : t ≠ it) (hn : items.size ≤ sizeLine)
    (h : ∀ (h' : Heap) (tk : Nat) (acc : Array Value), (∀ b o, b ≠ it → s.heap.get? b = some o → h'.get? b = some o) → ItemsOf (fun i v => items[items.size - 1 - i]? = some v) acc items.size →
      Q₁ (.ref h'.objs.size) { s with heap := h'.push { cls := .type "tuple", data := .seq acc }, toks := tk }) :
    codeAny (model prog w) A (.call (.builtin "tuple.__new__") ⟨[.type "tuple", .ref it], []⟩) (wants Q₁ E) s := by
  refine codeAny_of_tree ?_
  show wpAny _ A.in1 (do checkBuiltinCall "tuple.__new__" ⟨[.type "tuple", .ref it], []⟩; again (.builtin "tuple.__new__" ⟨[.type "tuple", .ref it], []⟩)) _ _ s
  refine wpAny_bind (wpAny_of_eq (F.newCall_tuple_1 _) (wpAny_pure ⟨plainId_quiet F.plain_tuple_new _, codeAny_builtin F.entry_tuple_new ?_⟩))
  rw [Around.under_plainId F.plain_tuple_new _]
  have hsub := sub_tuple_self
  have hinit := init_tuple_lookup
  have hmh := madeHere_tuple
  have hTI : s.TypeIs (.ref it) "reversed" := hit.typeIs
  have hh1 : A.in1.handled = none := hh
  wp_walk using wpAny_typeOf hTI, collect_rt (A := A.in1) hh1 hit ht hne hn
  intro h' tk acc hk hacc
  show wpAny _ _ (Builtin.Tuple.tupleExact acc.toList.toArray >>= fun v => ret v) _ _ _
  unfold Builtin.Tuple.tupleExact
  refine wpAny_bind (wpAny_newObj_type ?_ (by show acc.toList.toArray.size ≤ sizeLine; simp only [Array.toArray_toList]; rw [hacc.1]; exact hn))
  refine wpAny_pure ?_
  have e : acc.toList.toArray = acc := by simp
  rw [e]
  exact h h' tk acc hk hacc
theorem call_tuple_rt {it t : Addr} {items : Array Value} {Q : Value → Shared → Prop} (hh : A.handled = none) (hit : IsRt s.heap it t ((items.size : Int) - 1)) (ht : IsTup s.heap t items) (hne : t ≠ it) (hn : items.size ≤ sizeLine)
    (hQ : ∀ (h' : Heap) (tk : Nat) (acc : Array Value), (∀ b o, b ≠ it → s.heap.get? b = some o → h'.get? b = some o) → ItemsOf (fun i v => items[items.size - 1 - i]? = some v) acc items.size →
      Q (.ref h'.objs.size) { s with heap := h'.push { cls := .type "tuple", data := .seq acc }, toks := tk }) :
    wpAny (model prog w) A (call (.type "tuple") [.ref it]) Q E s := by
  refine callType_codes (Q₁ := fun obj s₁ => s₁.TypeIs obj "tuple" ∧ Q obj s₁) F.called_tuple (F.typeCall_tuple_1 _) F.entry_object_init
    (code_tuple_new_rt (A := A.in1) hh hit ht hne hn fun h' tk acc hk hacc => ⟨⟨_, Heap.get?_push_size _ rfl, rfl⟩, hQ h' tk acc hk hacc⟩) fun obj s₁ h₁ => ?_
  exact ⟨h₁.1, F.args_object_init_2 obj _, object_init_meets F.called_tuple.init.lookup F.called_tuple.made (by decide) prog w A.in1 _ s₁ ⟨h₁.1, rfl, h₁.2⟩⟩
end
/-- tuple(reversed(x)), x a list or a tuple: a new tuple -/
def tTupRevA (K : PySem.W.Frag) (te : TE) : TE := fun σ H Q => te σ H fun v H1 => ∃ (a : Addr) (xs : List V), v = .ref a ∧ (SqL K H1 a xs ∨ SqT K H1 a xs) ∧ ∀ q, H1 q = none → Q (.ref q) (upd H1 q (.tup xs.reverse))
section
variable {X : Cx}
theorem pe_tupRevA {e : Expr} {te : TE} {p p2 pos pos2 : Pos} (hc : X.calm = true) (hg : Gl X "tuple") (hm : X.mg "tuple" = none) (hg2 : Gl X "reversed") (hm2 : X.mg "reversed" = none) (he : PE X e te)
    (hs : starEach [e] X.env = (false, eval e X.env) :: starEach [] X.env := by rfl)
    (hs2 : starEach [.Call (.Name "reversed" p2) [e] [] pos2] X.env = (false, eval (.Call (.Name "reversed" p2) [e] [] pos2) X.env) :: starEach [] X.env := by rfl) :
    PE X (.Call (.Name "tuple" p) [.Call (.Name "reversed" p2) [e] [] pos2] [] pos) (tTupRevA X.K te) := by
  refine ⟨fun pins s σ H Q I h => ?_⟩
  refine Call_ (ld_blt I hg hm boot_tuple (PyProof.Rows.callWith_type1 (args_cons (Call_ (ld_blt I hg2 hm2 PyProof.Rows.boot_reversed (PyProof.Rows.callWith_type1 (args_cons (thn (he.run pins s σ H _ I h) fun u s1 ⟨v, H1, I1, r1, q1⟩ => args_nil ?_) hs) hs rfl))) hs2) hs2 rfl))
  obtain ⟨a, xs, ev, hq, q⟩ := q1
  subst ev
  obtain rfl : u = Value.ref a := r1
  rcases hq with hq | hq
  · obtain ⟨its, rv, p', hz⟩ := I1.list hq
    refine call_reversed_list p'.isList (args_nil ?_)
    have k0 : ∀ b o, s1.heap.get? b = some o → (s1.heap.push (revObj a ((its.toArray.size : Int) - 1))).get? b = some o := fun b o e => Heap.get?_push_of_some _ e
    have I2 : Inv X pins σ H1 { s1 with heap := s1.heap.push (revObj a ((its.toArray.size : Int) - 1)) } := I1.kept (t' := s1.toks) k0
    obtain ⟨f0, f1, f2, f3, f4, f5⟩ := I1.fpOk (H' := H1) (b := s1.heap.objs.size) (Nat.le_refl _) (I1.hok.fresh (Nat.le_refl _))
    have hl := p'.isList
    obtain ⟨ol, hol, _⟩ := id hl
    have hne : a ≠ s1.heap.objs.size := Nat.ne_of_lt (Heap.lt_size hol)
    have hn : its.toArray.size ≤ sizeLine := by rw [List.size_toArray, ← rv.length]; exact hz
    refine call_tuple_rev (s := { s1 with heap := s1.heap.push (revObj a ((its.toArray.size : Int) - 1)) }) (I1.ok.hd hc) ⟨_, Heap.get?_push_size _ rfl, rfl, rfl⟩ (hl.push _) hne hn fun h' tk acc hk hi => ?_
    have I3 : Inv X pins σ H1 { s1 with heap := h', toks := tk } := I2.turned (t' := tk) (fun b o hb e => hk b o hb e) f0 f1 f3 f4 f5
    refine ⟨.ref h'.objs.size, upd H1 h'.objs.size (.tup xs.reverse), I3.laid (t' := tk) (fun c o e => Heap.get?_push_of_some _ e) (Nat.le_refl _) (show ObjOk X.prog X.w _ _ _ (.tup xs.reverse) from ⟨by rw [List.length_reverse]; exact hz, acc.toList, vals_rev rv hi, ?_⟩), rfl, q _ (I3.hok.fresh (Nat.le_refl _))⟩
    rw [Array.toArray_toList]
    exact IsTup.new _ _
  · obtain ⟨its, rv, p', hz⟩ := I1.tuple hq
    have hn63 := line63
    have hn : its.toArray.size ≤ sizeLine := by rw [List.size_toArray, ← rv.length]; exact hz
    refine call_reversed_tup p' (fun A E Q k => len_tuple p' (by have h2 := hn; simp only [List.size_toArray] at h2 ⊢; omega) k) (args_nil ?_)
    have k0 : ∀ b o, s1.heap.get? b = some o → (s1.heap.push (rtObj a ((its.toArray.size : Int) - 1))).get? b = some o := fun b o e => Heap.get?_push_of_some _ e
    have I2 : Inv X pins σ H1 { s1 with heap := s1.heap.push (rtObj a ((its.toArray.size : Int) - 1)), toks := s1.toks + 1 + 1 } := I1.kept (t' := s1.toks + 1 + 1) k0
    obtain ⟨f0, f1, f2, f3, f4, f5⟩ := I1.fpOk (H' := H1) (b := s1.heap.objs.size) (Nat.le_refl _) (I1.hok.fresh (Nat.le_refl _))
    obtain ⟨ol, hol, ho2⟩ := id p'
    have hne : a ≠ s1.heap.objs.size := Nat.ne_of_lt (Heap.lt_size hol)
    refine call_tuple_rt (s := { s1 with heap := s1.heap.push (rtObj a ((its.toArray.size : Int) - 1)), toks := s1.toks + 1 + 1 }) (I1.ok.hd hc) ⟨_, Heap.get?_push_size _ rfl, rfl, rfl⟩ ⟨ol, Heap.get?_push_of_some _ hol, ho2⟩ hne hn fun h' tk acc hk hi => ?_
    have I3 : Inv X pins σ H1 { s1 with heap := h', toks := tk } := I2.turned (t' := tk) (fun b o hb e => hk b o hb e) f0 f1 f3 f4 f5
    refine ⟨.ref h'.objs.size, upd H1 h'.objs.size (.tup xs.reverse), I3.laid (t' := tk) (fun c o e => Heap.get?_push_of_some _ e) (Nat.le_refl _) (show ObjOk X.prog X.w _ _ _ (.tup xs.reverse) from ⟨by rw [List.length_reverse]; exact hz, acc.toList, vals_rev rv hi, ?_⟩), rfl, q _ (I3.hok.fresh (Nat.le_refl _))⟩
    rw [Array.toArray_toList]
    exact IsTup.new _ _
end
end MP
set_option Elab.async false
set_option linter.all false
set_option maxRecDepth 100000
/-! A small Python over plain data: data, a pure evaluator. -/
namespace MP
open PySem PySem.Spec PyProof.Rows L2

/-- plain data; scr: the list of ints that the law is handed -/
inductive D where
  | non | bl (b : Bool) | int (i : Int) | str (s : Str) | tup (xs : List D) | lst (xs : List D) | scr (ns : List Int)
  | ob (rows cl : List D)
deriving Inhabited

inductive Res (α : Type) where
  | ok (a : α) | exc (c : Str) | stuck
deriving Inhabited

namespace Res
@[simp] def bind {α β : Type} : Res α → (α → Res β) → Res β
  | .ok a, f => f a
  | .exc c, _ => .exc c
  | .stuck, _ => .stuck
end Res

theorem stuck_ne {α : Type} {x : α} (h : (Res.stuck : Res α) = .ok x) : False := by cases h
theorem exc_ne {α : Type} {x : α} {c : Str} (h : (Res.exc c : Res α) = .ok x) : False := by cases h
/-- a def's mirror: the arguments, the answer and whether it is a list made anew -/
abbrev Fn := List D → Res (D × Bool)
/-- a method that changes its object: whether it did, the object's two lists -/
abbrev PutFn := List D → List D → D → Res (Bool × List D × List D)
/-- what a body calls -/
inductive CallI where
  | fn (x : Str) (n : Nat) (f : Fn)
  | mt (x : Str) (n : Nat) (f : Fn)
  | ini
  | put (g : PutFn)

inductive Kd where
  | sh | fr | bo
deriving DecidableEq, Inhabited

inductive BOp where
  | add | sub | mul | fdiv | mod | pow
deriving DecidableEq
inductive COp where
  | eq | ne | lt | le | gt | ge
deriving DecidableEq
inductive Ty where
  | int | bool | tuple | list | str
deriving DecidableEq
inductive Blt where
  | len | abs | list | tuple | str | int | max | min
deriving DecidableEq
inductive IK where
  | range1 | range2 | val | rev
deriving DecidableEq

inductive ME where
  | loc (i : Nat)
  | glo (x : Str) (d : D)
  | int (i : Int)
  | bl (b : Bool)
  | non
  | str (s : Str)
  | bin (o : BOp) (a b : ME)
  | neg (a : ME)
  | cmp (o : COp) (a b : ME)
  | cmp2 (o1 o2 : COp) (a b c : ME)
  | isN (n : Bool) (a : ME)
  | and (a b : ME)
  | or (a b : ME)
  | not (a : ME)
  | ife (c a b : ME)
  | sub (a i : ME)
  | slLo (a lo : ME)
  | slHi (a hi : ME)
  | sl (a lo hi : ME)
  | call (x : Str) (f : Fn) (args : List ME)
  | blt (b : Blt) (args : List ME)
  | isi (a : ME) (t : Ty)
  | tup (es : List ME)
  | lst (es : List ME)
  | comp (elt : ME) (i : Nat) (k : IK) (args : List ME)
  | compIf (elt : ME) (i : Nat) (k : IK) (args : List ME) (c : ME)
  | tupRev (a : ME)
  | attr (i : Nat) (w : Bool)
  | mcall (i : Nat) (x : Str) (f : Fn) (a : ME)

/-- a slot: not assigned; plain data; a list of this def's own -/
inductive SV where
  | no | sh (d : D) | ow (ds : List D) | ob (rows cl : List D)
deriving Inhabited

/-- too deep to be compared -/
def deepPy : Nat → PyData
  | 0 => .none
  | n + 1 => .tuple [deepPy n]
mutual
def toPy : D → PyData
  | .non => .none
  | .bl b => .bool b
  | .int i => .int i
  | .str s => .str s
  | .tup xs => .tuple (toPys xs)
  | .lst xs => .list (toPys xs)
  | .scr ns => .list (ns.map .int)
  | .ob _ _ => deepPy 65
def toPys : List D → List PyData
  | [] => []
  | d :: ds => toPy d :: toPys ds
end

def isBl : D → Bool
  | .bl _ => true
  | _ => false
/-- no address within -/
def atom : D → Bool
  | .non => true
  | .bl _ => true
  | .int _ => true
  | .str _ => true
  | _ => false

mutual
/-- no list within -/
def noL : D → Bool
  | .tup xs => noLs xs
  | .lst _ => false
  | .scr _ => false
  | .ob _ _ => false
  | _ => true
def noLs : List D → Bool
  | [] => true
  | x :: xs => noL x && noLs xs
end
/-- an answer that leans on no list -/
def noR : D × Bool → Bool
  | (.lst ds, true) => noLs ds
  | (_, true) => false
  | (d, false) => noL d

def evBin : BOp → D → D → Res (D × Kd)
  | .add, .int i, .int j => .ok (.int (i + j), .sh)
  | .add, .str i, .str j => if i.length + j.length ≤ 16777216 then .ok (.str (i ++ j), .sh) else .stuck
  | .add, .tup xs, .tup ys => if xs.length + ys.length ≤ 16777216 then .ok (.tup (xs ++ ys), .sh) else .stuck
  | .add, .lst xs, .lst ys => if xs.length + ys.length ≤ 16777216 then .ok (.lst (xs ++ ys), .fr) else .stuck
  | .sub, .int i, .int j => .ok (.int (i - j), .sh)
  | .mul, .int i, .int j => if i.natAbs.log2 + j.natAbs.log2 < 1000000 ∨ j.natAbs < 2 ^ 64 then .ok (.int (i * j), .sh) else .stuck
  | .fdiv, .int i, .int j => if j ≠ 0 ∧ j.natAbs.log2 < 9000 then .ok (.int (i.fdiv j), .sh) else .stuck
  | .mod, .int i, .int j => if j ≠ 0 then .ok (.int (i.fmod j), .sh) else .stuck
  | .pow, .int i, .int j => if 0 ≤ j ∧ j.natAbs ≤ 1000000 ∧ i.natAbs < 2 ^ 64 then .ok (.int (i ^ j.toNat), .sh) else .stuck
  | _, _, _ => .stuck

def evCmp : COp → D → D → Res (D × Kd)
  | .eq, a, b => if SeqAt.shaped (toPy a) = true ∧ SeqAt.shaped (toPy b) = true then .ok (.bl (PyData.eqv (toPy a) (toPy b)), .sh) else .stuck
  | .ne, a, b => if SeqAt.shaped (toPy a) = true ∧ SeqAt.shaped (toPy b) = true then .ok (.bl (!PyData.eqv (toPy a) (toPy b)), .sh) else .stuck
  | .lt, .int i, .int j => .ok (.bl (decide (i < j)), .sh)
  | .lt, .tup xs, .tup ys => if PySem.W.alike (toPy (.tup xs)) (toPy (.tup ys)) = true ∧ (toPy (.tup xs)).depth ≤ 64 ∧ (toPy (.tup ys)).depth ≤ 64 then .ok (.bl (PySem.W.dataLt (toPy (.tup xs)) (toPy (.tup ys))), .sh) else .stuck
  | .le, .int i, .int j => .ok (.bl (decide (i ≤ j)), .sh)
  | .gt, .int i, .int j => .ok (.bl (decide (j < i)), .sh)
  | .ge, .int i, .int j => .ok (.bl (decide (j ≤ i)), .sh)
  | _, _, _ => .stuck

def evSub : D → D → Res (D × Kd)
  | .tup xs, .int i => match atI xs i with | some d => .ok (d, .sh) | none => .stuck
  | .lst xs, .int i => match atI xs i with | some d => .ok (d, .sh) | none => .stuck
  | .scr ns, .int i => match atI ns i with | some n => .ok (.int n, .sh) | none => .stuck
  | .str s, .int i => if s.length ≤ 16777216 then (match atI s.cps.toList i with | some c => .ok (.str ⟨#[c]⟩, .sh) | none => .stuck) else .stuck
  | _, _ => .stuck

def cutD (xs : List D) (lo hi : Option Int) : List D := (xs.drop (HT.sIx xs.length 0 lo)).take (HT.sIx xs.length xs.length hi - HT.sIx xs.length 0 lo)
def evSl (d : D) (lo hi : Option Int) : Res (D × Kd) := match d with
  | .tup xs => .ok (.tup (cutD xs lo hi), .sh)
  | .lst xs => .ok (.lst (cutD xs lo hi), .fr)
  | _ => .stuck

def evBlt : Blt → List D → Res (D × Kd)
  | .len, [.tup xs] => .ok (.int xs.length, .sh)
  | .len, [.lst xs] => .ok (.int xs.length, .sh)
  | .len, [.scr xs] => .ok (.int xs.length, .sh)
  | .len, [.str s] => if s.length ≤ 16777216 then .ok (.int s.length, .sh) else .stuck
  | .abs, [.int i] => .ok (.int (if i < 0 then -i else i), .sh)
  | .list, [.tup xs] => .ok (.lst xs, .fr)
  | .list, [.lst xs] => .ok (.lst xs, .fr)
  | .tuple, [.tup xs] => .ok (.tup xs, .sh)
  | .tuple, [.lst xs] => .ok (.tup xs, .sh)
  | .str, [.int i] => if i.natAbs.log2 < 1920 then .ok (.str (toString i), .sh) else .stuck
  | .int, [.bl b] => .ok (.int (if b then 1 else 0), .sh)
  | .int, [.int i] => .ok (.int i, .sh)
  | .max, [.int i, .int j] => .ok (.int (if j > i then j else i), .sh)
  | .min, [.int i, .int j] => .ok (.int (if j < i then j else i), .sh)
  | _, _ => .stuck

def evIsi : D → Ty → Bool
  | .int _, .int => true
  | .bl _, .int => true
  | .bl _, .bool => true
  | .tup _, .tuple => true
  | .lst _, .list => true
  | .str _, .str => true
  | _, _ => false

def evIs (d : D) (t : Ty) : Res (D × Kd) := match d with
  | .scr _ => .stuck
  | .ob _ _ => .stuck
  | d => .ok (.bl (evIsi d t), .sh)
/-- what a for or a comprehension walks -/
def items : IK → List D → Res (List D)
  | .range1, [.int n] => if n.natAbs < 4611686018427387904 then .ok ((List.range n.toNat).map fun (i : Nat) => .int i) else .stuck
  | .range2, [.int a, .int b] => if a.natAbs < 4611686018427387904 ∧ b.natAbs < 4611686018427387904 then .ok ((List.range (b - a).toNat).map fun (i : Nat) => .int (a + i)) else .stuck
  | .val, [.tup xs] => .ok xs
  | .val, [.lst xs] => .ok xs
  | .rev, [.tup xs] => .ok xs.reverse
  | .rev, [.lst xs] => .ok xs.reverse
  | _, _ => .stuck

/-- a comprehension: elements of plain data; nothing may be raised within -/
def compL (i : Nat) (f : List SV → Res (D × Kd)) (S : List SV) : List D → Res (List D)
  | [] => .ok []
  | x :: xs => match f (S.set i (.sh x)) with
    | .ok r => if r.2 = .bo then .stuck else (compL i f S xs).bind fun ds => .ok (r.1 :: ds)
    | _ => .stuck
def compC (i : Nat) (f c : List SV → Res (D × Kd)) (S : List SV) : List D → Res (List D)
  | [] => .ok []
  | x :: xs => match c (S.set i (.sh x)) with
    | .ok (.bl true, _) => (match f (S.set i (.sh x)) with
      | .ok r => if r.2 = .bo then .stuck else (compC i f c S xs).bind fun ds => .ok (r.1 :: ds)
      | _ => .stuck)
    | .ok (.bl false, _) => compC i f c S xs
    | _ => .stuck

/-- the arguments by themselves; some list of the def's own among them -/
def args1 (rs : List (D × Kd)) : List D := rs.map (·.1)
def hasBo (rs : List (D × Kd)) : Bool := rs.any fun r => decide (r.2 = .bo)

/-- an object's list -/
def attrD (w : Bool) : D → Res (D × Kd)
  | .ob rows cl => .ok (.lst (if w then cl else rows), .sh)
  | _ => .stuck
def isOb : D → Bool
  | .ob _ _ => true
  | _ => false
def retD (r : Res (D × Bool)) : Res (D × Kd) := match r with
  | .ok r => .ok (r.1, if r.2 then .fr else .sh)
  | _ => .stuck
/-- tuple(reversed(..)) -/
def revD : D → Res (D × Kd)
  | .tup xs => .ok (.tup xs.reverse, .sh)
  | .lst xs => .ok (.tup xs.reverse, .sh)
  | _ => .stuck
mutual
def evE : ME → List SV → Res (D × Kd)
  | .loc i, S => match S[i]? with
    | some (.sh d) => .ok (d, .sh)
    | some (.ow ds) => .ok (.lst ds, .bo)
    | _ => .stuck
  | .glo _ d, _ => .ok (d, .sh)
  | .int i, _ => .ok (.int i, .sh)
  | .bl b, _ => .ok (.bl b, .sh)
  | .non, _ => .ok (.non, .sh)
  | .str s, _ => .ok (.str s, .sh)
  | .bin o a b, S => (evE a S).bind fun x => (evE b S).bind fun y => evBin o x.1 y.1
  | .neg a, S => (evE a S).bind fun x => match x.1 with
    | .int i => .ok (.int (-i), .sh)
    | _ => .stuck
  | .cmp o a b, S => (evE a S).bind fun x => (evE b S).bind fun y => evCmp o x.1 y.1
  | .cmp2 o1 o2 a b c, S => (evE a S).bind fun x => (evE b S).bind fun y => (evCmp o1 x.1 y.1).bind fun r => match r.1 with
    | .bl true => (evE c S).bind fun z => evCmp o2 y.1 z.1
    | .bl false => .ok (.bl false, .sh)
    | _ => .stuck
  | .isN n a, S => (evE a S).bind fun x => .ok (.bl (match x.1 with | .non => !n | _ => n), .sh)
  | .and a b, S => (evE a S).bind fun x => match x.1 with
    | .bl true => (evE b S).bind fun y => if isBl y.1 = true then .ok (y.1, .sh) else .stuck
    | .bl false => .ok (.bl false, .sh)
    | _ => .stuck
  | .or a b, S => (evE a S).bind fun x => match x.1 with
    | .bl true => .ok (.bl true, .sh)
    | .bl false => (evE b S).bind fun y => if isBl y.1 = true then .ok (y.1, .sh) else .stuck
    | _ => .stuck
  | .not a, S => (evE a S).bind fun x => match x.1 with
    | .bl b => .ok (.bl (!b), .sh)
    | _ => .stuck
  | .ife c a b, S => (evE c S).bind fun x => match x.1 with
    | .bl true => evE a S
    | .bl false => evE b S
    | _ => .stuck
  | .sub a i, S => (evE a S).bind fun x => (evE i S).bind fun y => evSub x.1 y.1
  | .slLo a lo, S => (evE a S).bind fun x => (evE lo S).bind fun y => match y.1 with
    | .int l => evSl x.1 (some l) none
    | _ => .stuck
  | .slHi a hi, S => (evE a S).bind fun x => (evE hi S).bind fun y => match y.1 with
    | .int l => evSl x.1 none (some l)
    | _ => .stuck
  | .sl a lo hi, S => (evE a S).bind fun x => (evE lo S).bind fun y => match y.1 with
    | .int l => (evE hi S).bind fun z => match z.1 with
      | .int u => evSl x.1 (some l) (some u)
      | _ => .stuck
    | _ => .stuck
  | .call _ f es, S => (evEs es S).bind fun rs => (f (args1 rs)).bind fun r =>
      if hasBo rs = true then (if noR r = true then .ok (r.1, if r.2 then .fr else .sh) else .stuck) else .ok (r.1, if r.2 then .fr else .sh)
  | .blt b es, S => (evEs es S).bind fun rs => evBlt b (args1 rs)
  | .isi a t, S => (evE a S).bind fun x => evIs x.1 t
  | .tup es, S => (evEs es S).bind fun rs => if hasBo rs = true then .stuck else (if rs.length ≤ 1000 then .ok (.tup (args1 rs), .sh) else .stuck)
  | .lst es, S => (evEs es S).bind fun rs => if hasBo rs = true then .stuck else (if rs.length ≤ 1000 then .ok (.lst (args1 rs), .fr) else .stuck)
  | .comp elt i k es, S => (evEs es S).bind fun rs => if hasBo rs = true then .stuck else (items k (args1 rs)).bind fun xs => if xs.length ≤ 16777216 then (compL i (evE elt) S xs).bind fun ds => .ok (.lst ds, .fr) else .stuck
  | .compIf elt i k es c, S => (evEs es S).bind fun rs => if hasBo rs = true then .stuck else (items k (args1 rs)).bind fun xs => if xs.length ≤ 16777216 then (compC i (evE elt) (evE c) S xs).bind fun ds => .ok (.lst ds, .fr) else .stuck
  | .tupRev a, S => (evE a S).bind fun x => revD x.1
  | .attr i w, S => match S[i]? with
    | some (.sh d) => attrD w d
    | _ => .stuck
  | .mcall i _ f a, S => match S[i]? with
    | some (.sh d) => if isOb d = true then ((evE a S).bind fun r => if r.2 = .bo then .stuck else retD (f [d, r.1])) else .stuck
    | _ => .stuck
def evEs : List ME → List SV → Res (List (D × Kd))
  | [], _ => .ok []
  | e :: es, S => (evE e S).bind fun r => (evEs es S).bind fun rs => .ok (r :: rs)
end

/-! what is called -/
mutual
def callsE : ME → List CallI
  | .bin _ a b => callsE a ++ callsE b
  | .neg a => callsE a
  | .cmp _ a b => callsE a ++ callsE b
  | .cmp2 _ _ a b c => callsE a ++ (callsE b ++ callsE c)
  | .isN _ a => callsE a
  | .and a b => callsE a ++ callsE b
  | .or a b => callsE a ++ callsE b
  | .not a => callsE a
  | .ife c a b => callsE c ++ (callsE a ++ callsE b)
  | .sub a i => callsE a ++ callsE i
  | .slLo a i => callsE a ++ callsE i
  | .slHi a i => callsE a ++ callsE i
  | .sl a i j => callsE a ++ (callsE i ++ callsE j)
  | .call x f es => .fn x es.length f :: callsEs es
  | .blt _ es => callsEs es
  | .isi a _ => callsE a
  | .tup es => callsEs es
  | .lst es => callsEs es
  | .comp elt _ _ es => callsE elt ++ callsEs es
  | .compIf elt _ _ es c => callsE elt ++ (callsE c ++ callsEs es)
  | .tupRev a => callsE a
  | .mcall _ x f a => .mt x 2 f :: callsE a
  | _ => []
def callsEs : List ME → List CallI
  | [] => []
  | e :: es => callsE e ++ callsEs es
end
/-! the constants of the top that are read -/
mutual
def glosE : ME → List (Str × D)
  | .glo x d => [(x, d)]
  | .bin _ a b => glosE a ++ glosE b
  | .neg a => glosE a
  | .cmp _ a b => glosE a ++ glosE b
  | .cmp2 _ _ a b c => glosE a ++ (glosE b ++ glosE c)
  | .isN _ a => glosE a
  | .and a b => glosE a ++ glosE b
  | .or a b => glosE a ++ glosE b
  | .not a => glosE a
  | .ife c a b => glosE c ++ (glosE a ++ glosE b)
  | .sub a i => glosE a ++ glosE i
  | .slLo a i => glosE a ++ glosE i
  | .slHi a i => glosE a ++ glosE i
  | .sl a i j => glosE a ++ (glosE i ++ glosE j)
  | .call _ _ es => glosEs es
  | .blt _ es => glosEs es
  | .isi a _ => glosE a
  | .tup es => glosEs es
  | .lst es => glosEs es
  | .comp elt _ _ es => glosE elt ++ glosEs es
  | .compIf elt _ _ es c => glosE elt ++ (glosE c ++ glosEs es)
  | .tupRev a => glosE a
  | .mcall _ _ _ a => glosE a
  | _ => []
def glosEs : List ME → List (Str × D)
  | [] => []
  | e :: es => glosE e ++ glosEs es
end
end MP
set_option Elab.async false
set_option linter.all false
set_option maxRecDepth 100000
set_option maxHeartbeats 4000000
namespace MP
open PySem PySem.Spec PyProof.Rows L2

/-! ### the one class -/
def spF (r c : Addr) : List (Str × V) := putF "cleared" (.ref c) (putF "rows" (.ref r) [])
theorem spF_eq (r c : Addr) : spF r c = ([("rows", V.ref r), ("cleared", V.ref c)] : List (Str × V)) := by
  show (if ("rows" : Str) = "cleared" then [(("rows" : Str), V.ref c)] else (("rows" : Str), V.ref r) :: putF "cleared" (V.ref c) []) = ([("rows", V.ref r), ("cleared", V.ref c)] : List (Str × V))
  rw [if_neg (by decide +kernel)]
  all_goals rfl
theorem spF_rows (r c : Addr) : (spF r c).lookup ("rows" : Str) = some (.ref r) := by
  unfold spF
  rw [lookup_putF, if_neg (by decide +kernel), lookup_putF, if_pos rfl]
theorem spF_cleared (r c : Addr) : (spF r c).lookup ("cleared" : Str) = some (.ref c) := by
  unfold spF
  rw [lookup_putF, if_pos rfl]
theorem spF_no (r c : Addr) {m : Str} (h1 : ¬ m = "cleared") (h2 : ¬ m = "rows") : (spF r c).lookup m = none := by
  unfold spF
  rw [lookup_putF, if_neg h1, lookup_putF, if_neg h2]
  all_goals rfl
theorem spF_inj {r c r' c' : Addr} (h : spF r c = spF r' c') : r = r' ∧ c = c' := by
  have h1 := congrArg (List.lookup ("rows" : Str)) h
  have h2 := congrArg (List.lookup ("cleared" : Str)) h
  rw [spF_rows, spF_rows] at h1
  rw [spF_cleared, spF_cleared] at h2
  cases h1
  cases h2
  exact ⟨rfl, rfl⟩
structure SpanC (K : PySem.W.Frag) (C : Addr) : Prop where
  at_ : PySem.W.nsIn K mainGlobals "Span" = some (some (.ref C))
  cl : Cls K C
  nR : NoAttr K C "rows"
  nC : NoAttr K C "cleared"
theorem SpanC.uniq {K : PySem.W.Frag} {C C' : Addr} (h : SpanC K C) (h' : SpanC K C') : C = C' := by
  have z := h.at_.symm.trans h'.at_
  cases z
  rfl
/-! ### plain data in the abstract heap -/
mutual
inductive Rep (K : PySem.W.Frag) (G : Hp) : V → D → Prop
  | non : Rep K G .non .non
  | bl (b : Bool) : Rep K G (.bl b) (.bl b)
  | int (i : Int) : Rep K G (.int i) (.int i)
  | str (s : Str) : Rep K G (.str s) (.str s)
  | tup {a : Addr} {xs : List V} {ds : List D} : SqT K G a xs → RepL K G xs ds → Rep K G (.ref a) (.tup ds)
  | lst {a : Addr} {xs : List V} {ds : List D} : G a = some (.lst xs) → RepL K G xs ds → Rep K G (.ref a) (.lst ds)
  | scr {a : Addr} {ns : List Int} : SqL K G a (ns.map V.int) → Rep K G (.ref a) (.scr ns)
  | ob {a C dx r c : Addr} {xs ys : List V} {rows cl : List D} : SpanC K C → G a = some (.ins C dx (spF r c)) → G r = some (.lst xs) → G c = some (.lst ys) → RepL K G xs rows → RepL K G ys cl → Rep K G (.ref a) (.ob rows cl)
inductive RepL (K : PySem.W.Frag) (G : Hp) : List V → List D → Prop
  | nil : RepL K G [] []
  | cons {v : V} {vs : List V} {d : D} {ds : List D} : Rep K G v d → RepL K G vs ds → RepL K G (v :: vs) (d :: ds)
end
theorem seqT {K : PySem.W.Frag} {H H' : Hp} {a : Addr} {xs : List V} (e : Same H H') (h : SqT K H a xs) : SqT K H' a xs := by
  rcases h with (h | ⟨o, h⟩) | h
  · exact .inl (.inl (e _ _ h))
  · exact .inl (.inr ⟨o, e _ _ h⟩)
  · exact .inr h
section
variable {K : PySem.W.Frag} {G G' H H' : Hp}
mutual
theorem Rep.mono (e : Same G G') : ∀ {v : V} {d : D}, Rep K G v d → Rep K G' v d
  | _, _, .non => .non
  | _, _, .bl b => .bl b
  | _, _, .int i => .int i
  | _, _, .str i => .str i
  | _, _, .tup h r => .tup (seqT e h) (RepL.mono e r)
  | _, _, .lst h r => .lst (e _ _ h) (RepL.mono e r)
  | _, _, .scr h => .scr (e.seq h)
  | _, _, .ob h ha hr hc r1 r2 => .ob h (e _ _ ha) (e _ _ hr) (e _ _ hc) (RepL.mono e r1) (RepL.mono e r2)
theorem RepL.mono (e : Same G G') : ∀ {v : List V} {d : List D}, RepL K G v d → RepL K G' v d
  | _, _, .nil => .nil
  | _, _, .cons h r => .cons (Rep.mono e h) (RepL.mono e r)
end
theorem RepL.len : ∀ {v : List V} {d : List D}, RepL K G v d → v.length = d.length
  | _, _, .nil => rfl
  | _, _, .cons _ r => by rw [List.length_cons, List.length_cons, RepL.len r]
theorem RepL.get : ∀ {v : List V} {d : List D} {i : Nat} {x : D}, RepL K G v d → d[i]? = some x → ∃ u, v[i]? = some u ∧ Rep K G u x
  | _, _, _, _, .nil, e => by simp at e
  | _, _, 0, _, .cons r _, e => by simp at e; subst e; exact ⟨_, rfl, r⟩
  | _, _, i + 1, x, .cons _ t, e => by
    obtain ⟨u, h1, h2⟩ := RepL.get (i := i) (x := x) t (by simpa using e)
    exact ⟨u, by simpa using h1, h2⟩
theorem RepL.app : ∀ {v w : List V} {d e : List D}, RepL K G v d → RepL K G w e → RepL K G (v ++ w) (d ++ e)
  | _, _, _, _, .nil, s => s
  | _, _, _, _, .cons r t, s => .cons r (RepL.app t s)
theorem RepL.take : ∀ {v : List V} {d : List D} (n : Nat), RepL K G v d → RepL K G (v.take n) (d.take n)
  | _, _, 0, _ => .nil
  | _, _, _ + 1, .nil => .nil
  | _, _, n + 1, .cons r t => .cons r (RepL.take n t)
theorem RepL.drop : ∀ {v : List V} {d : List D} (n : Nat), RepL K G v d → RepL K G (v.drop n) (d.drop n)
  | _, _, 0, r => r
  | _, _, _ + 1, .nil => .nil
  | _, _, n + 1, .cons _ t => RepL.drop n t
theorem RepL.rev : ∀ {v : List V} {d : List D}, RepL K G v d → RepL K G v.reverse d.reverse
  | _, _, .nil => .nil
  | _, _, .cons r t => by
    rw [List.reverse_cons, List.reverse_cons]
    exact (RepL.rev t).app (.cons r .nil)
theorem RepL.set {x : V} {y : D} (r : Rep K G x y) : ∀ {v : List V} {d : List D} (n : Nat), RepL K G v d → RepL K G (v.set n x) (d.set n y)
  | _, _, _, .nil => .nil
  | _, _, 0, .cons _ t => .cons r t
  | _, _, n + 1, .cons q t => .cons q (RepL.set r n t)
theorem RepL.erase : ∀ {v : List V} {d : List D} (n : Nat), RepL K G v d → RepL K G (v.eraseIdx n) (d.eraseIdx n)
  | _, _, _, .nil => .nil
  | _, _, 0, .cons _ t => t
  | _, _, n + 1, .cons q t => .cons q (RepL.erase n t)
theorem RepL.ints : ∀ ns : List Int, RepL K G (ns.map V.int) (ns.map D.int)
  | [] => .nil
  | n :: ns => .cons (.int n) (RepL.ints ns)

/-- the heap has grown: G is what plain data lean on -/
structure Ext (G H G' H' : Hp) : Prop where
  g : Same G G'
  h : Same H H'
  sub : Same G' H'
  new : ∀ b o, G' b = some o → G b = none → H b = none
theorem Ext.refl (s : Same G H) : Ext G H G H := ⟨Same.refl _, Same.refl _, s, fun b o h1 h2 => by rw [h1] at h2; cases h2⟩
theorem Ext.trans {G1 H1 G2 H2 : Hp} (a : Ext G H G1 H1) (b : Ext G1 H1 G2 H2) : Ext G H G2 H2 := ⟨a.g.trans b.g, a.h.trans b.h, b.sub, fun c o h1 h2 => by
  cases q : G1 c with
  | some u => exact a.new c u q h2
  | none => exact a.h.free (b.new c o h1 q)⟩
theorem same_upd {H : Hp} {p : Addr} (h : H p = none) (o : HO) : Same H (upd H p o) := fun b u q => by rw [upd_ne (ne_of_none q h)]; exact q
/-- an object laid among the plain data -/
theorem Ext.newG {p : Addr} {o : HO} (s : Same G H) (h : H p = none) : Ext G H (upd G p o) (upd H p o) := ⟨same_upd (s.free h) o, same_upd h o, fun b u q => by
  by_cases e : b = p
  · subst e
    rw [upd_same] at q ⊢
    exact q
  · rw [upd_ne e] at q ⊢
    exact s _ _ q, fun b u q n => by
  by_cases e : b = p
  · subst e
    exact h
  · rw [upd_ne e, n] at q
    cases q⟩
/-- an object laid that plain data don't lean on -/
theorem Ext.newH {p : Addr} {o : HO} (s : Same G H) (h : H p = none) : Ext G H G (upd H p o) := ⟨Same.refl _, same_upd h o, s.trans (same_upd h o), fun b u q n => by rw [n] at q; cases q⟩
/-- a list laid before is taken among the plain data -/
theorem Ext.freeze {G1 H1 : Hp} {p : Addr} {o : HO} (e : Ext G H G1 H1) (h0 : H p = none) (h : H1 p = some o) (hg : G1 p = none) : Ext G H (upd G1 p o) H1 := ⟨e.g.trans (same_upd hg o), e.h, fun b u q => by
  by_cases z : b = p
  · subst z
    rw [upd_same] at q
    rw [h]
    exact q
  · rw [upd_ne z] at q
    exact e.sub _ _ q, fun b u q n => by
  by_cases z : b = p
  · subst z
    exact h0
  · rw [upd_ne z] at q
    exact e.new b u q n⟩

/-- a new tuple of two new lists -/
def Fr2a (K : PySem.W.Frag) (Hs G : Hp) (v : V) (d : D) : Prop := ∃ t p q ds es, v = .ref t ∧ d = .tup [.lst ds, .lst es] ∧ Hs t = none ∧ Hs p = none ∧ Hs q = none ∧ G t = some (.tup [.ref p, .ref q]) ∧ Rep K G (.ref p) (.lst ds) ∧ Rep K G (.ref q) (.lst es)
theorem Fr2a.rep {Hs : Hp} {v : V} {d : D} (h : Fr2a K Hs G v d) : Rep K G v d := by
  obtain ⟨t, p, q, ds, es, rfl, rfl, _, _, _, ht, r1, r2⟩ := h
  exact .tup (.inl (.inl ht)) (.cons r1 (.cons r2 .nil))
theorem Fr2a.mono {Hs G' : Hp} {v : V} {d : D} (h : Fr2a K Hs G v d) (e : Same G G') : Fr2a K Hs G' v d := by
  obtain ⟨t, p, q, ds, es, e1, e2, n1, n2, n3, ht, r1, r2⟩ := h
  exact ⟨t, p, q, ds, es, e1, e2, n1, n2, n3, e _ _ ht, r1.mono e, r2.mono e⟩
theorem Fr2a.old {Hs Hs' : Hp} {v : V} {d : D} (s : ∀ b, Hs b = none → Hs' b = none) (h : Fr2a K Hs G v d) : Fr2a K Hs' G v d := by
  obtain ⟨t, p, q, ds, es, e1, e2, n1, n2, n3, r⟩ := h
  exact ⟨t, p, q, ds, es, e1, e2, s _ n1, s _ n2, s _ n3, r⟩
/-- a new tuple of something and a new list that nothing else leans on -/
def Fr3 (K : PySem.W.Frag) (Hs G : Hp) (v : V) (d : D) : Prop := ∃ t q xs ds x u Gm, v = .ref t ∧ d = .tup [x, .lst ds] ∧ (∀ es, x ≠ .lst es) ∧ Hs t = none ∧ Hs q = none ∧ G t = some (.tup [u, .ref q]) ∧ G q = some (.lst xs) ∧ Gm q = none ∧ Same Gm G ∧ (∀ b o, G b = some o → Gm b = none → Hs b = none) ∧ RepL K Gm xs ds ∧ Rep K Gm u x
theorem Fr3.rep {Hs : Hp} {v : V} {d : D} (h : Fr3 K Hs G v d) : Rep K G v d := by
  obtain ⟨t, q, xs, ds, x, u, Gm, rfl, rfl, _, _, _, ht, hq, _, sm, _, r1, r2⟩ := h
  exact .tup (.inl (.inl ht)) (.cons (r2.mono sm) (.cons (.lst hq (r1.mono sm)) .nil))
/-- G' without what G had more than Gm -/
def less3 (Gm G G' : Hp) : Hp := fun b => match Gm b, G b with
  | none, some _ => none
  | _, _ => G' b
theorem less3_out {Gm G G' : Hp} {b : Addr} {o : HO} (h : Gm b = none) (g : G b = some o) : less3 Gm G G' b = none := by
  unfold less3
  rw [h, g]
theorem less3_sub {Gm G G' : Hp} {b : Addr} {o : HO} (h : less3 Gm G G' b = some o) : G' b = some o := by
  unfold less3 at h
  split at h
  · cases h
  · exact h
theorem less3_none {Gm G G' : Hp} {b : Addr} {o : HO} (h : less3 Gm G G' b = none) (g : G' b = some o) : Gm b = none ∧ ∃ o', G b = some o' := by
  unfold less3 at h
  split at h
  · rename_i o' h1 h2
    exact ⟨h1, o', h2⟩
  · rw [g] at h
    cases h
theorem less3_up {Gm G G' : Hp} (s1 : Same Gm G) (s2 : Same G G') : Same Gm (less3 Gm G G') := fun b o h => by
  unfold less3
  rw [h, s1 _ _ h]
  exact s2 _ _ (s1 _ _ h)
theorem Fr3.mono {Hs G' : Hp} {v : V} {d : D} (h : Fr3 K Hs G v d) (e : Same G G') : Fr3 K Hs G' v d := by
  obtain ⟨t, q, xs, ds, x, u, Gm, e1, e2, nx, n1, n2, ht, hq, gq, sm, nw, r1, r2⟩ := h
  refine ⟨t, q, xs, ds, x, u, less3 Gm G G', e1, e2, nx, n1, n2, e _ _ ht, e _ _ hq, less3_out gq hq, fun b o z => less3_sub z, fun b o z w => ?_, r1.mono (less3_up sm e), r2.mono (less3_up sm e)⟩
  obtain ⟨h1, o', h2⟩ := less3_none w z
  exact nw b o' h2 h1
theorem Fr3.old {Hs Hs' : Hp} {v : V} {d : D} (s : ∀ b, Hs b = none → Hs' b = none) (h : Fr3 K Hs G v d) : Fr3 K Hs' G v d := by
  obtain ⟨t, q, xs, ds, x, u, Gm, e1, e2, nx, n1, n2, ht, hq, gq, sm, nw, r1, r2⟩ := h
  exact ⟨t, q, xs, ds, x, u, Gm, e1, e2, nx, s _ n1, s _ n2, ht, hq, gq, sm, fun b o z w => s _ (nw b o z w), r1, r2⟩
def Fr2 (K : PySem.W.Frag) (Hs G : Hp) (v : V) (d : D) : Prop := Fr2a K Hs G v d ∨ Fr3 K Hs G v d
theorem Fr2.rep {Hs : Hp} {v : V} {d : D} (h : Fr2 K Hs G v d) : Rep K G v d := h.elim Fr2a.rep Fr3.rep
theorem Fr2.mono {Hs G' : Hp} {v : V} {d : D} (h : Fr2 K Hs G v d) (e : Same G G') : Fr2 K Hs G' v d := h.imp (Fr2a.mono · e) (Fr3.mono · e)
theorem Fr2.old {Hs Hs' : Hp} {v : V} {d : D} (s : ∀ b, Hs b = none → Hs' b = none) (h : Fr2 K Hs G v d) : Fr2 K Hs' G v d := h.imp (Fr2a.old s) (Fr3.old s)
theorem Fr2.isTup {Hs : Hp} {v : V} {d : D} (h : Fr2 K Hs G v d) : ∃ es, d = .tup es := by
  rcases h with ⟨t, p, q, ds, es, e1, e2, _⟩ | ⟨t, q, xs, ds, x, u, Gm, e1, e2, _⟩
  · exact ⟨_, e2⟩
  · exact ⟨_, e2⟩
theorem Fr2.nolst {Hs : Hp} {v : V} {ds : List D} (h : Fr2 K Hs G v (.lst ds)) : False := by
  obtain ⟨es, e⟩ := h.isTup
  cases e
theorem Fr2.top {Hs : Hp} {v : V} {d : D} (h : Fr2 K Hs G v d) : ∃ t zs, v = .ref t ∧ Hs t = none ∧ G t = some (.tup zs) := by
  rcases h with ⟨t, p, q, ds, es, e1, e2, n1, n2, n3, ht, _⟩ | ⟨t, q, xs, ds, x, u, Gm, e1, e2, nx, n1, n2, ht, _⟩
  · exact ⟨t, _, e1, n1, ht⟩
  · exact ⟨t, _, e1, n1, ht⟩
/-- a value of an expression: plain; a list laid since Hs; a list of the def's own -/
def VR (K : PySem.W.Frag) (Hs G H : Hp) (v : V) (d : D) : Kd → Prop
  | .sh => Rep K G v d
  | .fr => (∃ p xs ds, v = .ref p ∧ d = .lst ds ∧ Hs p = none ∧ H p = some (.lst xs) ∧ G p = none ∧ RepL K G xs ds) ∨ Fr2 K Hs G v d
  | .bo => ∃ p xs ds, v = .ref p ∧ d = .lst ds ∧ H p = some (.lst xs) ∧ G p = none ∧ RepL K G xs ds
theorem Ext.gnone {G1 H1 : Hp} (e : Ext G H G1 H1) {p : Addr} {o : HO} (h : H p = some o) (g : G p = none) : G1 p = none := by
  cases q : G1 p with
  | none => rfl
  | some u =>
    have z := e.new p u q g
    rw [h] at z
    cases z
theorem VR.ext {Hs G1 H1 : Hp} {v : V} {d : D} {k : Kd} (h : VR K Hs G H v d k) (e : Ext G H G1 H1) : VR K Hs G1 H1 v d k := by
  cases k with
  | sh => exact Rep.mono e.g h
  | fr =>
    rcases h with ⟨p, xs, ds, e1, e2, h0, h1, h2, r⟩ | h
    · exact .inl ⟨p, xs, ds, e1, e2, h0, e.h _ _ h1, e.gnone h1 h2, r.mono e.g⟩
    · exact .inr (h.mono e.g)
  | bo =>
    obtain ⟨p, xs, ds, e1, e2, h1, h2, r⟩ := h
    exact ⟨p, xs, ds, e1, e2, e.h _ _ h1, e.gnone h1 h2, r.mono e.g⟩
theorem VR.old {Hs Hs' : Hp} {v : V} {d : D} {k : Kd} (s : Same Hs' Hs) (h : VR K Hs G H v d k) : VR K Hs' G H v d k := by
  cases k with
  | sh => exact h
  | fr =>
    rcases h with ⟨p, xs, ds, e1, e2, h0, h1, h2, r⟩ | h
    · exact .inl ⟨p, xs, ds, e1, e2, s.free h0, h1, h2, r⟩
    · exact .inr (h.old fun _ z => s.free z)
  | bo => exact h
/-- a list, whatever its kind -/
theorem VR.list {Hs : Hp} {v : V} {ds : List D} {k : Kd} (s : Same G H) (h : VR K Hs G H v (.lst ds) k) : ∃ p xs, v = .ref p ∧ H p = some (.lst xs) ∧ RepL K G xs ds := by
  cases k with
  | sh =>
    have h : Rep K G v (.lst ds) := h
    cases h with
    | lst a r => exact ⟨_, _, rfl, s _ _ a, r⟩
  | fr =>
    rcases h with ⟨p, xs, ds', e1, e2, h0, h1, h2, r⟩ | h
    · cases e2
      exact ⟨p, xs, e1, h1, r⟩
    · exact h.nolst.elim
  | bo =>
    obtain ⟨p, xs, ds', e1, e2, h1, h2, r⟩ := h
    cases e2
    exact ⟨p, xs, e1, h1, r⟩
/-- what is no list is plain -/
theorem VR.rep {Hs : Hp} {v : V} {d : D} {k : Kd} (h : VR K Hs G H v d k) (hd : ∀ ds, d ≠ .lst ds) : Rep K G v d := by
  cases k with
  | sh => exact h
  | fr =>
    rcases h with ⟨p, xs, ds', e1, e2, _⟩ | h
    · exact absurd e2 (hd _)
    · exact h.rep
  | bo =>
    obtain ⟨p, xs, ds', e1, e2, _⟩ := h
    exact absurd e2 (hd _)
theorem VR.int {Hs : Hp} {v : V} {i : Int} {k : Kd} (h : VR K Hs G H v (.int i) k) : v = .int i := by
  have r := h.rep (by intro ds e; cases e)
  cases r
  rfl
theorem VR.bl {Hs : Hp} {v : V} {i : Bool} {k : Kd} (h : VR K Hs G H v (.bl i) k) : v = .bl i := by
  have r := h.rep (by intro ds e; cases e)
  cases r
  rfl
theorem VR.str {Hs : Hp} {v : V} {i : Str} {k : Kd} (h : VR K Hs G H v (.str i) k) : v = .str i := by
  have r := h.rep (by intro ds e; cases e)
  cases r
  rfl
theorem VR.tup {Hs : Hp} {v : V} {ds : List D} {k : Kd} (h : VR K Hs G H v (.tup ds) k) : ∃ p xs, v = .ref p ∧ SqT K G p xs ∧ RepL K G xs ds := by
  have r := h.rep (by intro ds e; cases e)
  cases r with
  | tup a b => exact ⟨_, _, rfl, a, b⟩
theorem VR.scr {Hs : Hp} {v : V} {ns : List Int} {k : Kd} (h : VR K Hs G H v (.scr ns) k) : ∃ p, v = .ref p ∧ SqL K G p (ns.map V.int) := by
  have r := h.rep (by intro ds e; cases e)
  cases r with
  | scr a => exact ⟨_, rfl, a⟩
/-- plain from then on, but for a list of the def's own -/
theorem VR.fix {G1 H1 : Hp} {v : V} {d : D} {k : Kd} (e : Ext G H G1 H1) (h : VR K H G1 H1 v d k) (hk : k ≠ .bo) : ∃ G2, Ext G H G2 H1 ∧ Same G1 G2 ∧ Rep K G2 v d := by
  cases k with
  | sh => exact ⟨G1, e, Same.refl _, h⟩
  | fr =>
    rcases h with ⟨p, xs, ds, e1, e2, h0, h1, h2, r⟩ | h
    · subst e1 e2
      exact ⟨_, e.freeze h0 h1 h2, same_upd h2 _, .lst upd_same (r.mono (same_upd h2 _))⟩
    · exact ⟨G1, e, Same.refl _, h.rep⟩
  | bo => exact absurd rfl hk
end

/-! ### slots -/
def SlotRel (K : PySem.W.Frag) (G H : Hp) (o : Option (Option V)) : SV → Prop
  | .no => True
  | .sh d => ∃ v, o = some (some v) ∧ Rep K G v d
  | .ow ds => ∃ a xs, o = some (some (.ref a)) ∧ H a = some (.lst xs) ∧ G a = none ∧ RepL K G xs ds
  | .ob rows cl => ∃ C a dx r c xs ys, SpanC K C ∧ o = some (some (.ref a)) ∧ H a = some (.ins C dx (spF r c)) ∧ H r = some (.lst xs) ∧ H c = some (.lst ys) ∧ G a = none ∧ G r = none ∧ G c = none ∧ r ≠ c ∧ RepL K G xs rows ∧ RepL K G ys cl
structure EvRel (K : PySem.W.Frag) (S : List SV) (σ : L2.St) (G H : Hp) : Prop where
  sub : Same G H
  len : S.length = σ.length
  sl : ∀ (i : Nat) (sv : SV), S[i]? = some sv → SlotRel K G H σ[i]? sv
theorem SlotRel.ext {K : PySem.W.Frag} {G H G' H' : Hp} {o : Option (Option V)} {sv : SV} (r : SlotRel K G H o sv) (e : Ext G H G' H') : SlotRel K G' H' o sv := by
  cases sv with
  | no => trivial
  | sh d => obtain ⟨v, h1, h2⟩ := r; exact ⟨v, h1, h2.mono e.g⟩
  | ow ds => obtain ⟨a, xs, h1, h2, h3, h4⟩ := r; exact ⟨a, xs, h1, e.h _ _ h2, e.gnone h2 h3, h4.mono e.g⟩
  | ob rows cl =>
    obtain ⟨C, a, dx, r, c, xs, ys, h0, h1, h2, h3, h4, h5, h6, h7, h8, h9, h10⟩ := r
    exact ⟨C, a, dx, r, c, xs, ys, h0, h1, e.h _ _ h2, e.h _ _ h3, e.h _ _ h4, e.gnone h2 h5, e.gnone h3 h6, e.gnone h4 h7, h8, h9.mono e.g, h10.mono e.g⟩
theorem EvRel.ext {K : PySem.W.Frag} {S : List SV} {σ : L2.St} {G H G' H' : Hp} (R : EvRel K S σ G H) (e : Ext G H G' H') : EvRel K S σ G' H' :=
  ⟨e.sub, R.len, fun i sv h => (R.sl i sv h).ext e⟩

/-! ### what is wanted of an expression -/
section
variable (K : PySem.W.Frag) (cl : Str → Value) (W : WX)
def Kx (σ : L2.St) (G H : Hp) (r : Res (D × Kd)) (Q : VK) : Prop := match r with
  | .ok r => ∀ v G' H', Ext G H G' H' → VR K H G' H' v r.1 r.2 → Q v H'
  | .exc c => ∀ G' H', Ext G H G' H' → W (cl c) none σ H'
  | .stuck => False
def rd (m : ME) : TE := fun σ H Q => ∃ S G, EvRel K S σ G H ∧ Kx K cl W σ G H (evE m S) Q
def Kt (σ : L2.St) (G H : Hp) (r : Res (D × Kd)) (Q : Bool → Hp → Prop) : Prop := match r with
  | .ok (.bl b, _) => ∀ G' H', Ext G H G' H' → Q b H'
  | .ok _ => False
  | .exc c => ∀ G' H', Ext G H G' H' → W (cl c) none σ H'
  | .stuck => False
def rdT (m : ME) : TT := fun σ H Q => ∃ S G, EvRel K S σ G H ∧ Kt cl W σ G H (evE m S) Q
def VRs (Hs G H : Hp) : List V → List (D × Kd) → Prop
  | [], [] => True
  | v :: vs, r :: rs => VR K Hs G H v r.1 r.2 ∧ VRs Hs G H vs rs
  | _, _ => False
def Ka (σ : L2.St) (G H : Hp) (r : Res (List (D × Kd))) (Q : List V → Hp → Prop) : Prop := match r with
  | .ok rs => ∀ vs G' H', Ext G H G' H' → VRs K H G' H' vs rs → Q vs H'
  | .exc c => ∀ G' H', Ext G H G' H' → W (cl c) none σ H'
  | .stuck => False
def rdA (ms : List ME) : TA := fun σ H Q => ∃ S G, EvRel K S σ G H ∧ Ka K cl W σ G H (evEs ms S) Q
end
section
variable {K : PySem.W.Frag} {cl : Str → Value} {W : WX} {σ : L2.St} {S : List SV} {G H G1 H1 : Hp}
theorem Kx.ext {r : Res (D × Kd)} {Q : VK} (h : Kx K cl W σ G H r Q) (e : Ext G H G1 H1) : Kx K cl W σ G1 H1 r Q := by
  cases r with
  | ok r => exact fun v G' H' e' x => h v G' H' (e.trans e') (x.old e.h)
  | exc c => exact fun G' H' e' => h G' H' (e.trans e')
  | stuck => exact h
theorem Kt.ext {r : Res (D × Kd)} {Q : Bool → Hp → Prop} (h : Kt cl W σ G H r Q) (e : Ext G H G1 H1) : Kt cl W σ G1 H1 r Q := by
  cases r with
  | ok r =>
    obtain ⟨d, k⟩ := r
    cases d with
    | bl b => exact fun G' H' e' => h G' H' (e.trans e')
    | _ => exact h
  | exc c => exact fun G' H' e' => h G' H' (e.trans e')
  | stuck => exact h
theorem VRs.ext {Hs : Hp} : ∀ {vs : List V} {rs : List (D × Kd)}, VRs K Hs G H vs rs → Ext G H G1 H1 → VRs K Hs G1 H1 vs rs
  | [], [], _, _ => trivial
  | _ :: _, _ :: _, h, e => ⟨h.1.ext e, VRs.ext h.2 e⟩
  | [], _ :: _, h, _ => h
  | _ :: _, [], h, _ => h
theorem VRs.old {Hs Hs' : Hp} (s : Same Hs' Hs) : ∀ {vs : List V} {rs : List (D × Kd)}, VRs K Hs G H vs rs → VRs K Hs' G H vs rs
  | [], [], _ => trivial
  | _ :: _, _ :: _, h => ⟨h.1.old s, VRs.old s h.2⟩
  | [], _ :: _, h => h
  | _ :: _, [], h => h
theorem Ka.ext {r : Res (List (D × Kd))} {Q : List V → Hp → Prop} (h : Ka K cl W σ G H r Q) (e : Ext G H G1 H1) : Ka K cl W σ G1 H1 r Q := by
  cases r with
  | ok r => exact fun v G' H' e' x => h v G' H' (e.trans e') (x.old e.h)
  | exc c => exact fun G' H' e' => h G' H' (e.trans e')
  | stuck => exact h
/-- one part first -/
theorem rd_bind {a : ME} {f : D × Kd → Res (D × Kd)} {Q Q' : VK} (R : EvRel K S σ G H) (h : Kx K cl W σ G H ((evE a S).bind f) Q)
    (hk : ∀ d k v G1 H1, evE a S = .ok (d, k) → Ext G H G1 H1 → VR K H G1 H1 v d k → EvRel K S σ G1 H1 → Kx K cl W σ G1 H1 (f (d, k)) Q → Q' v H1) : rd K cl W a σ H Q' := by
  refine ⟨S, G, R, ?_⟩
  cases e : evE a S with
  | ok r =>
    rw [e] at h
    obtain ⟨d, k⟩ := r
    exact fun v G1 H1 E x => hk d k v G1 H1 e E x (R.ext E) (Kx.ext h E)
  | exc c => rw [e] at h; exact h
  | stuck => rw [e] at h; exact h
theorem rd_bindT {a : ME} {f : D × Kd → Res (D × Kd)} {Q : Bool → Hp → Prop} {Q' : VK} (R : EvRel K S σ G H) (h : Kt cl W σ G H ((evE a S).bind f) Q)
    (hk : ∀ d k v G1 H1, evE a S = .ok (d, k) → Ext G H G1 H1 → VR K H G1 H1 v d k → EvRel K S σ G1 H1 → Kt cl W σ G1 H1 (f (d, k)) Q → Q' v H1) : rd K cl W a σ H Q' := by
  refine ⟨S, G, R, ?_⟩
  cases e : evE a S with
  | ok r =>
    rw [e] at h
    obtain ⟨d, k⟩ := r
    exact fun v G1 H1 E x => hk d k v G1 H1 e E x (R.ext E) (Kt.ext h E)
  | exc c => rw [e] at h; exact h
  | stuck => rw [e] at h; exact h
/-- a test first -/
theorem rdT_bind {a : ME} {f : D × Kd → Res (D × Kd)} {Q : VK} {Q' : Bool → Hp → Prop} (R : EvRel K S σ G H) (h : Kx K cl W σ G H ((evE a S).bind f) Q) (hf : ∀ d k, (∀ b, d ≠ .bl b) → f (d, k) = .stuck)
    (hk : ∀ b k G1 H1, evE a S = .ok (.bl b, k) → Ext G H G1 H1 → EvRel K S σ G1 H1 → Kx K cl W σ G1 H1 (f (.bl b, k)) Q → Q' b H1) : rdT K cl W a σ H Q' := by
  refine ⟨S, G, R, ?_⟩
  cases e : evE a S with
  | ok r =>
    rw [e] at h
    obtain ⟨d, k⟩ := r
    have no : (∀ b, d ≠ .bl b) → False := fun z => by
      have h' : Kx K cl W σ G H (f (d, k)) Q := h
      rw [hf d k z] at h'
      exact h'
    cases d with
    | bl b => exact fun G1 H1 E => hk b k G1 H1 e E (R.ext E) (Kx.ext h E)
    | non => exact (no fun b q => by cases q).elim
    | int => exact (no fun b q => by cases q).elim
    | str => exact (no fun b q => by cases q).elim
    | tup => exact (no fun b q => by cases q).elim
    | lst => exact (no fun b q => by cases q).elim
    | scr => exact (no fun b q => by cases q).elim
    | ob => exact (no fun b q => by cases q).elim
  | exc c => rw [e] at h; exact h
  | stuck => rw [e] at h; exact h
theorem rdT_bindT {a : ME} {f : D × Kd → Res (D × Kd)} {Q : Bool → Hp → Prop} {Q' : Bool → Hp → Prop} (R : EvRel K S σ G H) (h : Kt cl W σ G H ((evE a S).bind f) Q) (hf : ∀ d k, (∀ b, d ≠ .bl b) → f (d, k) = .stuck)
    (hk : ∀ b k G1 H1, evE a S = .ok (.bl b, k) → Ext G H G1 H1 → EvRel K S σ G1 H1 → Kt cl W σ G1 H1 (f (.bl b, k)) Q → Q' b H1) : rdT K cl W a σ H Q' := by
  refine ⟨S, G, R, ?_⟩
  cases e : evE a S with
  | ok r =>
    rw [e] at h
    obtain ⟨d, k⟩ := r
    have no : (∀ b, d ≠ .bl b) → False := fun z => by
      have h' : Kt cl W σ G H (f (d, k)) Q := h
      rw [hf d k z] at h'
      exact h'
    cases d with
    | bl b => exact fun G1 H1 E => hk b k G1 H1 e E (R.ext E) (Kt.ext h E)
    | non => exact (no fun b q => by cases q).elim
    | int => exact (no fun b q => by cases q).elim
    | str => exact (no fun b q => by cases q).elim
    | tup => exact (no fun b q => by cases q).elim
    | lst => exact (no fun b q => by cases q).elim
    | scr => exact (no fun b q => by cases q).elim
    | ob => exact (no fun b q => by cases q).elim
  | exc c => rw [e] at h; exact h
  | stuck => rw [e] at h; exact h
/-- arguments first -/
theorem rdA_bind {as : List ME} {f : List (D × Kd) → Res (D × Kd)} {Q : VK} {Q' : List V → Hp → Prop} (R : EvRel K S σ G H) (h : Kx K cl W σ G H ((evEs as S).bind f) Q)
    (hk : ∀ rs vs G1 H1, evEs as S = .ok rs → Ext G H G1 H1 → VRs K H G1 H1 vs rs → EvRel K S σ G1 H1 → Kx K cl W σ G H (f rs) Q → Q' vs H1) : rdA K cl W as σ H Q' := by
  refine ⟨S, G, R, ?_⟩
  cases e : evEs as S with
  | ok r =>
    rw [e] at h
    exact fun v G1 H1 E x => hk r v G1 H1 e E x (R.ext E) h
  | exc c => rw [e] at h; exact h
  | stuck => rw [e] at h; exact h
/-- the end: a plain value at once -/
theorem Kx.fin {d : D} {Q : VK} (h : Kx K cl W σ G H (.ok (d, .sh)) Q) (s : Same G H) {v : V} (r : Rep K G v d) : Q v H := h v G H (Ext.refl s) r
theorem Kx.new {d : D} {Q : VK} {k : Kd} (h : Kx K cl W σ G H (.ok (d, k)) Q) {v : V} {G' H' : Hp} (e : Ext G H G' H') (r : VR K H G' H' v d k) : Q v H' := h v G' H' e r
end
/-- weaken a reading -/
theorem pe_imp {X : Cx} {e : Expr} {t t' : TE} (h : PE X e t) (i : ∀ σ H Q, t' σ H Q → t σ H Q) : PE X e t' := ⟨fun pins s σ H Q I q => h.run pins s σ H Q I (i σ H Q q)⟩
theorem pt_imp {X : Cx} {e : Expr} {t t' : TT} (h : PT X e t) (i : ∀ σ H Q, t' σ H Q → t σ H Q) : PT X e t' := ⟨fun pins s σ H Q I q => h.run pins s σ H Q I (i σ H Q q)⟩
theorem pw_imp {X : Cx} {e : Expr} {t t' : TT} (h : PW X e t) (i : ∀ σ H Q, t' σ H Q → t σ H Q) : PW X e t' := ⟨fun w pins s σ H Q I q => h.run w pins s σ H Q I (i σ H Q q)⟩
theorem pa_imp {X : Cx} {e : List Expr} {t t' : TA} (h : PA X e t) (i : ∀ σ H Q, t' σ H Q → t σ H Q) : PA X e t' := ⟨fun pos pins s σ H Q I q => h.run pos pins s σ H Q I (i σ H Q q)⟩

end MP
set_option Elab.async false
set_option linter.all false
set_option maxRecDepth 100000
set_option maxHeartbeats 4000000
namespace MP
open PySem PySem.Spec PyProof.Rows L2

def opOf : BOp → Operator
  | .add => .Add | .sub => .Sub | .mul => .Mult | .fdiv => .FloorDiv | .mod => .Mod | .pow => .Pow
def cmpOf : COp → CmpOp
  | .eq => .Eq | .ne => .NotEq | .lt => .Lt | .le => .LtE | .gt => .Gt | .ge => .GtE

section
variable {X : Cx} {cl : Str → Value} {W : WX} {σ0 : L2.St}
theorem szl : sizeLine = 16777216 := sizeLine_eq
theorem op_fdivNW : OpR X (binaryOp .FloorDiv) (rI (fun _ j => j ≠ 0 ∧ j.natAbs.log2 < 9000) fun i j => .int (i.fdiv j)) := opI fun _ _ _ _ _ _ _ hc q => floordiv_int hc.1 q (.inl (PyProof.noPylong_of_log2 hc.2))
/-- what an operation on two values asks -/
def rBin (K : PySem.W.Frag) (cl : Str → Value) (W : WX) (σ0 : L2.St) (f : D → D → Res (D × Kd)) : R2 := fun x y H Q => ∃ d1 k1 d2 k2 Hs G, Same G H ∧ VR K Hs G H x d1 k1 ∧ VR K Hs G H y d2 k2 ∧ Kx K cl W σ0 G H (f d1 d2) Q
theorem op_bin (o : BOp) : OpR X (binaryOp (opOf o)) (rBin X.K cl W σ0 (evBin o)) := by
  intro pins s σ H x y v u Q I rx ry h
  obtain ⟨d1, k1, d2, k2, Hs, G, sm, r1, r2, h⟩ := h
  cases o with
  | add =>
    cases d1 <;> cases d2 <;> try exact False.elim h
    · rename_i i j
      obtain rfl := r1.int
      obtain rfl := r2.int
      exact op_add pins s σ H _ _ v u Q I rx ry ⟨i, j, rfl, rfl, h.fin sm (.int _)⟩
    · rename_i i j
      obtain rfl := r1.str
      obtain rfl := r2.str
      simp only [evBin] at h
      split at h
      · rename_i hz
        exact op_add_str pins s σ H _ _ v u Q I rx ry ⟨i, j, rfl, rfl, by rw [szl]; exact hz, h.fin sm (.str _)⟩
      · exact False.elim h
    · rename_i i j
      obtain ⟨p, xs, rfl, t1, q1⟩ := r1.tup
      obtain ⟨p', ys, rfl, t2, q2⟩ := r2.tup
      simp only [evBin] at h
      split at h
      · rename_i hz
        refine op_catA pins s σ H _ _ v u Q I rx ry ⟨p, p', xs, ys, rfl, rfl, seqT sm t1, seqT sm t2, by rw [szl, q1.len, q2.len]; exact hz, fun e => ?_, fun _ e => ?_, fun _ _ t ht => ?_⟩
        · refine h.fin sm (.tup t2 ?_)
          subst e
          cases q1
          exact q2
        · refine h.fin sm (.tup t1 ?_)
          subst e
          cases q2
          rw [List.append_nil]
          exact q1
        · exact h.new (Ext.newG sm ht) (show Rep _ _ _ _ from .tup (SqT.of upd_same) ((q1.app q2).mono (same_upd (sm.free ht) _)))
      · exact False.elim h
    · rename_i i j
      obtain ⟨p, xs, rfl, t1, q1⟩ := r1.list sm
      obtain ⟨p', ys, rfl, t2, q2⟩ := r2.list sm
      simp only [evBin] at h
      split at h
      · rename_i hz
        refine op_cat pins s σ H _ _ v u Q I rx ry ⟨p, p', xs, ys, rfl, rfl, t1, t2, by rw [szl, q1.len, q2.len]; exact hz, fun t ht => ?_⟩
        exact h.new (Ext.newH sm ht) (.inl ⟨t, _, _, rfl, rfl, ht, upd_same, sm.free ht, q1.app q2⟩)
      · exact False.elim h
  | sub =>
    cases d1 <;> cases d2 <;> try exact False.elim h
    rename_i i j
    obtain rfl := r1.int
    obtain rfl := r2.int
    exact op_sub pins s σ H _ _ v u Q I rx ry ⟨i, j, rfl, rfl, h.fin sm (.int _)⟩
  | mul =>
    cases d1 <;> cases d2 <;> try exact False.elim h
    rename_i i j
    obtain rfl := r1.int
    obtain rfl := r2.int
    simp only [evBin] at h
    split at h
    · rename_i hz
      rcases hz with hz | hz
      · exact op_mulW pins s σ H _ _ v u Q I rx ry ⟨i, j, rfl, rfl, hz, h.fin sm (.int _)⟩
      · exact op_mul pins s σ H _ _ v u Q I rx ry ⟨i, j, rfl, rfl, .inr (by omega), h.fin sm (.int _)⟩
    · exact False.elim h
  | fdiv =>
    cases d1 <;> cases d2 <;> try exact False.elim h
    rename_i i j
    obtain rfl := r1.int
    obtain rfl := r2.int
    simp only [evBin] at h
    split at h
    · rename_i hz
      exact op_fdivNW pins s σ H _ _ v u Q I rx ry ⟨i, j, rfl, rfl, hz, h.fin sm (.int _)⟩
    · exact False.elim h
  | mod =>
    cases d1 <;> cases d2 <;> try exact False.elim h
    rename_i i j
    obtain rfl := r1.int
    obtain rfl := r2.int
    simp only [evBin] at h
    split at h
    · rename_i hz
      exact op_modN pins s σ H _ _ v u Q I rx ry ⟨i, j, rfl, rfl, hz, h.fin sm (.int _)⟩
    · exact False.elim h
  | pow =>
    cases d1 <;> cases d2 <;> try exact False.elim h
    rename_i i j
    obtain rfl := r1.int
    obtain rfl := r2.int
    simp only [evBin] at h
    split at h
    · rename_i hz
      exact op_pow pins s σ H _ _ v u Q I rx ry ⟨i, j, rfl, rfl, ⟨hz.1, by omega, hz.2.2⟩, h.fin sm (.int _)⟩
    · exact False.elim h

theorem deep_depth : ∀ n : Nat, (deepPy n).depth = n
  | 0 => rfl
  | n + 1 => by
    show max (deepPy n).depth 0 + 1 = n + 1
    rw [deep_depth n, Nat.max_eq_left (Nat.zero_le _)]
mutual
theorem Rep.dp {K : PySem.W.Frag} {G : Hp} : ∀ {v : V} {d : D}, Rep K G v d → (toPy d).depth ≤ 64 → Dp K G v (toPy d)
  | _, _, .non, _ => .non
  | _, _, .bl b, _ => .bl b
  | _, _, .int i, _ => .int i
  | _, _, .str i, _ => .str i
  | _, _, .tup (ds := ds) h r, z => by
    show Dp K G _ (.tuple (toPys _))
    exact .tup h (RepL.dp r (by have z : PyData.depthAll (toPys ds) + 1 ≤ 64 := z; omega))
  | _, _, .lst (ds := ds) h r, z => by
    show Dp K G _ (.list (toPys _))
    exact .lst (SqL.of h) (RepL.dp r (by have z : PyData.depthAll (toPys ds) + 1 ≤ 64 := z; omega))
  | _, _, .scr (ns := ns) h, z => by
    show Dp K G _ (.list (ns.map PyData.int))
    refine .lst h ?_
    clear h z
    induction ns with
    | nil => exact .nil
    | cons n ns ih => exact .cons (.int n) ih
  | _, _, .ob _ _ _ _ _ _, z => by
    exfalso
    have z : (deepPy 65).depth ≤ 64 := z
    rw [deep_depth] at z
    omega
theorem RepL.dp {K : PySem.W.Frag} {G : Hp} : ∀ {v : List V} {d : List D}, RepL K G v d → PyData.depthAll (toPys d) ≤ 64 → DpAll K G v (toPys d)
  | _, _, .nil, _ => .nil
  | _, _, .cons (d := d) (ds := ds) h r, z => by
    have z : max (toPy d).depth (PyData.depthAll (toPys ds)) ≤ 64 := z
    exact .cons (Rep.dp h (by omega)) (RepL.dp r (by omega))
end
theorem VR.dp {K : PySem.W.Frag} {Hs G H : Hp} {v : V} {d : D} {k : Kd} (s : Same G H) (h : VR K Hs G H v d k) (z : (toPy d).depth ≤ 64) : Dp K H v (toPy d) := by
  cases k with
  | sh => exact Rep.dp (Rep.mono s h) z
  | fr =>
    rcases h with ⟨p, xs, ds, rfl, rfl, h0, h1, h2, r⟩ | h
    · exact .lst (SqL.of h1) (RepL.dp (r.mono s) (by have z : PyData.depthAll (toPys ds) + 1 ≤ 64 := z; omega))
    · exact Rep.dp (Rep.mono s h.rep) z
  | bo =>
    obtain ⟨p, xs, ds, rfl, rfl, h1, h2, r⟩ := h
    exact .lst (SqL.of h1) (RepL.dp (r.mono s) (by have z : PyData.depthAll (toPys ds) + 1 ≤ 64 := z; omega))
theorem shaped_depth {d : PyData} (h : SeqAt.shaped d = true) : d.depth ≤ 64 := by
  unfold SeqAt.shaped at h
  rw [Bool.and_eq_true, decide_eq_true_eq] at h
  exact h.2
theorem op_cmp (hu : X.A.units + 64 < cLine) (o : COp) : OpR X (compareOp (cmpOf o)) (rBin X.K cl W σ0 (evCmp o)) := by
  intro pins s σ H x y v u Q I rx ry h
  obtain ⟨d1, k1, d2, k2, Hs, G, sm, r1, r2, h⟩ := h
  have twoI : ∀ {i j : Int} {b : Bool}, d1 = .int i → d2 = .int j → Kx X.K cl W σ0 G H (.ok (.bl b, .sh)) Q → x = .int i ∧ y = .int j ∧ Q (.bl b) H := fun {i j b} e1 e2 q => by
    subst e1 e2
    exact ⟨r1.int, r2.int, q.fin sm (.bl _)⟩
  cases o with
  | eq =>
    simp only [evCmp] at h
    split at h
    · rename_i hz
      exact op_eqD hu pins s σ H x y v u Q I rx ry ⟨_, _, r1.dp sm (shaped_depth hz.1), r2.dp sm (shaped_depth hz.2), hz.1, hz.2, h.fin sm (.bl _)⟩
    · exact False.elim h
  | ne =>
    simp only [evCmp] at h
    split at h
    · rename_i hz
      exact op_neD hu pins s σ H x y v u Q I rx ry ⟨_, _, r1.dp sm (shaped_depth hz.1), r2.dp sm (shaped_depth hz.2), hz.1, hz.2, h.fin sm (.bl _)⟩
    · exact False.elim h
  | lt =>
    cases d1 <;> cases d2 <;> try exact False.elim h
    · obtain ⟨e1, e2, q⟩ := twoI rfl rfl h
      exact op_lt pins s σ H x y v u Q I rx ry ⟨_, _, e1, e2, q⟩
    · rename_i xs ys
      simp only [evCmp] at h
      split at h
      · rename_i hz
        obtain ⟨as, q1⟩ := Dp.reads I _ x v (r1.dp sm hz.2.1) rx
        obtain ⟨bs, q2⟩ := Dp.reads I _ y u (r2.dp sm hz.2.2) ry
        exact PySem.W.rcLt_alike _ _ _ _ _ _ _ _ q1 q2 hz.1 (fun z => by cases z) (by omega) _ _ _ _ ⟨.bl _, H, I, rfl, h.fin sm (.bl _)⟩
      · exact False.elim h
  | le =>
    cases d1 <;> cases d2 <;> try exact False.elim h
    obtain ⟨e1, e2, q⟩ := twoI rfl rfl h
    exact op_le pins s σ H x y v u Q I rx ry ⟨_, _, e1, e2, q⟩
  | gt =>
    cases d1 <;> cases d2 <;> try exact False.elim h
    obtain ⟨e1, e2, q⟩ := twoI rfl rfl h
    exact op_gt pins s σ H x y v u Q I rx ry ⟨_, _, e1, e2, q⟩
  | ge =>
    cases d1 <;> cases d2 <;> try exact False.elim h
    obtain ⟨e1, e2, q⟩ := twoI rfl rfl h
    exact op_ge pins s σ H x y v u Q I rx ry ⟨_, _, e1, e2, q⟩

theorem atI_ix {α : Type} {xs : List α} {i : Int} {d : α} (h : atI xs i = some d) : ∃ j, ixN xs.length i = some j ∧ xs[j]? = some d := by
  unfold atI at h
  cases e : ixN xs.length i with
  | none => rw [e] at h; cases h
  | some j => rw [e] at h; exact ⟨j, rfl, h⟩
theorem atI_of_ix {α : Type} {xs : List α} {i : Int} {d : α} {j : Nat} (h : ixN xs.length i = some j) (h2 : xs[j]? = some d) : atI xs i = some d := by
  unfold atI
  rw [h]
  exact h2
theorem RepL.atI {K : PySem.W.Frag} {G : Hp} {xs : List V} {ds : List D} {i : Int} {d : D} (r : RepL K G xs ds) (h : L2.atI ds i = some d) : ∃ v, L2.atI xs i = some v ∧ Rep K G v d := by
  obtain ⟨j, h1, h2⟩ := atI_ix h
  obtain ⟨v, h3, h4⟩ := r.get h2
  exact ⟨v, atI_of_ix (by rw [r.len]; exact h1) h3, h4⟩
theorem ix_any : IxR X (rBin X.K cl W σ0 evSub) := by
  intro value slice pins s σ H x y v u Q I rx ry h hs
  obtain ⟨d1, k1, d2, k2, Hs, G, sm, r1, r2, h⟩ := h
  cases d1 <;> cases d2 <;> try exact False.elim h
  · rename_i z i
    obtain rfl := r1.str
    obtain rfl := r2.int
    simp only [evSub] at h
    split at h
    · rename_i hz
      split at h
      · rename_i c hc
        exact ix_str value slice pins s σ H _ _ v u Q I rx ry ⟨z, i, c, rfl, rfl, by rw [szl]; exact hz, hc, h.fin sm (.str _)⟩ hs
      · exact False.elim h
    · exact False.elim h
  · rename_i ds i
    obtain ⟨p, xs, rfl, t1, q1⟩ := r1.tup
    obtain rfl := r2.int
    simp only [evSub] at h
    split at h
    · rename_i d hd
      obtain ⟨w, h1, h2⟩ := q1.atI hd
      exact ix_tup value slice pins s σ H _ _ v u Q I rx ry ⟨p, xs, i, w, rfl, rfl, seqT sm t1, h1, h.fin sm h2⟩ hs
    · exact False.elim h
  · rename_i ds i
    obtain ⟨p, xs, rfl, t1, q1⟩ := r1.list sm
    obtain rfl := r2.int
    simp only [evSub] at h
    split at h
    · rename_i d hd
      obtain ⟨w, h1, h2⟩ := q1.atI hd
      exact ix_list value slice pins s σ H _ _ v u Q I rx ry ⟨p, xs, i, w, rfl, rfl, SqL.of t1, h1, h.fin sm h2⟩ hs
    · exact False.elim h
  · rename_i ns i
    obtain ⟨p, rfl, t1⟩ := r1.scr
    obtain rfl := r2.int
    simp only [evSub] at h
    split at h
    · rename_i n hn
      obtain ⟨j, h1, h2⟩ := atI_ix hn
      exact ix_list value slice pins s σ H _ _ v u Q I rx ry ⟨p, ns.map V.int, i, .int n, rfl, rfl, sm.seq t1, atI_of_ix (by rw [List.length_map]; exact h1) (by rw [List.getElem?_map, h2]; rfl), h.fin sm (.int _)⟩ hs
    · exact False.elim h

theorem cutD_rep {K : PySem.W.Frag} {G : Hp} {xs : List V} {ds : List D} (r : RepL K G xs ds) (lo hi : Option Int) : RepL K G (cutV xs lo hi) (cutD ds lo hi) := by
  unfold cutV cutD
  rw [r.len]
  exact (r.drop _).take _
def rSl (K : PySem.W.Frag) (cl : Str → Value) (W : WX) (σ0 : L2.St) : V → Option Int → Option Int → Hp → VK → Prop := fun x lo hi H Q => ∃ d k Hs G, Same G H ∧ VR K Hs G H x d k ∧ Kx K cl W σ0 G H (evSl d lo hi) Q
theorem sl_any : SlR X (rSl X.K cl W σ0) := by
  intro pins s σ H x v vl vu lo hi sl Q I rx hs pl pu h
  obtain ⟨d, k, Hs, G, sm, r, h⟩ := h
  cases d <;> try exact False.elim h
  · rename_i ds
    obtain ⟨p, xs, rfl, t1, q1⟩ := r.tup
    simp only [evSl] at h
    refine sl_tupA pins s σ H _ v vl vu lo hi sl Q I rx hs pl pu ⟨p, xs, rfl, seqT sm t1, fun e => ?_, fun _ t ht => ?_⟩
    · refine h.fin sm (.tup t1 ?_)
      have z := cutD_rep q1 lo hi
      have e2 : cutV xs lo hi = xs := by
        unfold cutV
        rw [e.1, e.2, List.drop_zero, Nat.sub_zero]
        exact List.take_length
      rw [e2] at z
      exact z
    · exact h.new (Ext.newG sm ht) (show Rep _ _ _ _ from .tup (SqT.of upd_same) ((cutD_rep q1 lo hi).mono (same_upd (sm.free ht) _)))
  · rename_i ds
    obtain ⟨p, xs, rfl, t1, q1⟩ := r.list sm
    simp only [evSl] at h
    refine sl_list pins s σ H _ v vl vu lo hi sl Q I rx hs pl pu ⟨p, xs, rfl, SqL.of t1, fun t ht => ?_⟩
    exact h.new (Ext.newH sm ht) (.inl ⟨t, _, _, rfl, rfl, ht, upd_same, sm.free ht, cutD_rep q1 lo hi⟩)
end
end MP
set_option Elab.async false
set_option linter.all false
set_option maxRecDepth 100000
set_option maxHeartbeats 4000000
namespace MP
open PySem PySem.Spec PyProof.Rows L2 RT

/-! ### built-in functions -/
section
variable {K : PySem.W.Frag} {Hs G H : Hp}
theorem VRs.one {vs : List V} {r : D × Kd} (h : VRs K Hs G H vs [r]) : ∃ v, vs = [v] ∧ VR K Hs G H v r.1 r.2 := by
  cases vs with
  | nil => exact False.elim h
  | cons v vs =>
    cases vs with
    | nil => exact ⟨v, rfl, h.1⟩
    | cons w ws => exact False.elim h.2
theorem VRs.two {vs : List V} {r q : D × Kd} (h : VRs K Hs G H vs [r, q]) : ∃ v w, vs = [v, w] ∧ VR K Hs G H v r.1 r.2 ∧ VR K Hs G H w q.1 q.2 := by
  cases vs with
  | nil => exact False.elim h
  | cons v vs =>
    obtain ⟨w, e, z⟩ := VRs.one h.2
    subst e
    exact ⟨v, w, rfl, h.1, z⟩
theorem args_one {rs : List (D × Kd)} {d : D} (h : args1 rs = [d]) : ∃ k, rs = [(d, k)] := by
  match rs, h with
  | [(_, k)], rfl => exact ⟨k, rfl⟩
theorem args_two {rs : List (D × Kd)} {d e : D} (h : args1 rs = [d, e]) : ∃ k j, rs = [(d, k), (e, j)] := by
  match rs, h with
  | [(_, k), (_, j)], rfl => exact ⟨k, j, rfl⟩
end
def rArgs (K : PySem.W.Frag) (cl : Str → Value) (W : WX) (σ0 : L2.St) (f : List D → Res (D × Kd)) : List V → Hp → VK → Prop := fun vs H Q => ∃ rs Hs G, Same G H ∧ VRs K Hs G H vs rs ∧ Kx K cl W σ0 G H (f (args1 rs)) Q
section
variable {X : Cx} {cl : Str → Value} {W : WX} {σ0 : L2.St}
theorem VR.seq {K : PySem.W.Frag} {Hs G H : Hp} {v : V} {d : D} {k : Kd} {ds : List D} (s : Same G H) (hd : d = .tup ds ∨ d = .lst ds) (h : VR K Hs G H v d k) : ∃ p xs, v = .ref p ∧ (SqL K H p xs ∨ SqT K H p xs) ∧ RepL K G xs ds := by
  rcases hd with rfl | rfl
  · obtain ⟨p, xs, e, t, q⟩ := h.tup
    exact ⟨p, xs, e, .inr (seqT s t), q⟩
  · obtain ⟨p, xs, e, t, q⟩ := h.list s
    exact ⟨p, xs, e, .inl (SqL.of t), q⟩
theorem b_len : CallR X (.builtin "len") (rArgs X.K cl W σ0 (evBlt .len)) := by
  intro pins s σ H vs us Q I r h
  obtain ⟨rs, Hs, G, sm, vr, h⟩ := h
  match rs, vr, h with
  | [(.tup ds, k)], vr, h =>
    obtain ⟨v, rfl, q⟩ := vr.one
    obtain ⟨p, xs, rfl, t, z⟩ := VR.seq sm (.inl rfl) q
    exact call_len_seq pins s σ H _ us Q I r ⟨p, xs, rfl, t, by rw [z.len]; exact Kx.fin h sm (.int _)⟩
  | [(.lst ds, k)], vr, h =>
    obtain ⟨v, rfl, q⟩ := vr.one
    obtain ⟨p, xs, rfl, t, z⟩ := VR.seq sm (.inr rfl) q
    exact call_len_seq pins s σ H _ us Q I r ⟨p, xs, rfl, t, by rw [z.len]; exact Kx.fin h sm (.int _)⟩
  | [(.scr ns, k)], vr, h =>
    obtain ⟨v, rfl, q⟩ := vr.one
    obtain ⟨p, rfl, t⟩ := VR.scr q
    exact call_len_seq pins s σ H _ us Q I r ⟨p, _, rfl, .inl (sm.seq t), by rw [List.length_map]; exact Kx.fin h sm (.int _)⟩
  | [(.str z, k)], vr, h =>
    obtain ⟨v, rfl, q⟩ := vr.one
    obtain rfl := VR.str q
    simp only [args1, List.map, evBlt] at h
    split at h
    · rename_i hz
      exact call_len_str pins s σ H _ us Q I r ⟨z, rfl, by rw [szl]; exact hz, h.fin sm (.int _)⟩
    · exact False.elim h
  | [(.ob _ _, k)], vr, h => exact False.elim h
  | [(.non, k)], vr, h => exact False.elim h
  | [(.bl _, k)], vr, h => exact False.elim h
  | [(.int _, k)], vr, h => exact False.elim h
  | [], vr, h => exact False.elim h
  | _ :: _ :: _, vr, h => exact False.elim (by simpa [args1, evBlt, Kx] using h)
theorem b_abs : CallR X (.builtin "abs") (rArgs X.K cl W σ0 (evBlt .abs)) := by
  intro pins s σ H vs us Q I r h
  obtain ⟨rs, Hs, G, sm, vr, h⟩ := h
  match rs, vr, h with
  | [(.int i, k)], vr, h =>
    obtain ⟨v, rfl, q⟩ := vr.one
    obtain rfl := VR.int q
    exact call_abs pins s σ H _ us Q I r ⟨i, rfl, Kx.fin h sm (.int _)⟩
  | [(.non, k)], vr, h => exact False.elim h
  | [(.bl _, k)], vr, h => exact False.elim h
  | [(.str _, k)], vr, h => exact False.elim h
  | [(.tup _, k)], vr, h => exact False.elim h
  | [(.lst _, k)], vr, h => exact False.elim h
  | [(.scr _, k)], vr, h => exact False.elim h
  | [(.ob _ _, k)], vr, h => exact False.elim h
  | [], vr, h => exact False.elim h
  | _ :: _ :: _, vr, h => exact False.elim (by simpa [args1, evBlt, Kx] using h)
theorem b_list : CallR X (.type "list") (rArgs X.K cl W σ0 (evBlt .list)) := by
  intro pins s σ H vs us Q I r h
  obtain ⟨rs, Hs, G, sm, vr, h⟩ := h
  match rs, vr, h with
  | [(.tup ds, k)], vr, h =>
    obtain ⟨v, rfl, q⟩ := vr.one
    obtain ⟨p, xs, rfl, t, z⟩ := VR.seq sm (.inl rfl) q
    exact call_list_of pins s σ H _ us Q I r ⟨p, xs, rfl, t, fun l hl => Kx.new h (Ext.newH sm hl) (.inl ⟨l, _, _, rfl, rfl, hl, upd_same, sm.free hl, z⟩)⟩
  | [(.lst ds, k)], vr, h =>
    obtain ⟨v, rfl, q⟩ := vr.one
    obtain ⟨p, xs, rfl, t, z⟩ := VR.seq sm (.inr rfl) q
    exact call_list_of pins s σ H _ us Q I r ⟨p, xs, rfl, t, fun l hl => Kx.new h (Ext.newH sm hl) (.inl ⟨l, _, _, rfl, rfl, hl, upd_same, sm.free hl, z⟩)⟩
  | [(.non, k)], vr, h => exact False.elim h
  | [(.bl _, k)], vr, h => exact False.elim h
  | [(.int _, k)], vr, h => exact False.elim h
  | [(.str _, k)], vr, h => exact False.elim h
  | [(.scr _, k)], vr, h => exact False.elim h
  | [(.ob _ _, k)], vr, h => exact False.elim h
  | [], vr, h => exact False.elim h
  | _ :: _ :: _, vr, h => exact False.elim (by simpa [args1, evBlt, Kx] using h)
theorem b_tuple : CallR X (.type "tuple") (rArgs X.K cl W σ0 (evBlt .tuple)) := by
  intro pins s σ H vs us Q I r h
  obtain ⟨rs, Hs, G, sm, vr, h⟩ := h
  match rs, vr, h with
  | [(.tup ds, k)], vr, h =>
    obtain ⟨v, rfl, q⟩ := vr.one
    obtain ⟨p, xs, rfl, t, z⟩ := VR.tup q
    exact call_tuple_of pins s σ H _ us Q I r ⟨p, xs, rfl, .inr ⟨seqT sm t, Kx.fin h sm (.tup t z)⟩⟩
  | [(.lst ds, k)], vr, h =>
    obtain ⟨v, rfl, q⟩ := vr.one
    obtain ⟨p, xs, rfl, t, z⟩ := VR.list sm q
    exact call_tuple_of pins s σ H _ us Q I r ⟨p, xs, rfl, .inl ⟨SqL.of t, fun l hl => Kx.new h (Ext.newG sm hl) (show Rep _ _ _ _ from .tup (SqT.of upd_same) (z.mono (same_upd (sm.free hl) _)))⟩⟩
  | [(.non, k)], vr, h => exact False.elim h
  | [(.bl _, k)], vr, h => exact False.elim h
  | [(.int _, k)], vr, h => exact False.elim h
  | [(.str _, k)], vr, h => exact False.elim h
  | [(.scr _, k)], vr, h => exact False.elim h
  | [(.ob _ _, k)], vr, h => exact False.elim h
  | [], vr, h => exact False.elim h
  | _ :: _ :: _, vr, h => exact False.elim (by simpa [args1, evBlt, Kx] using h)
theorem b_str : CallR X (.type "str") (rArgs X.K cl W σ0 (evBlt .str)) := by
  intro pins s σ H vs us Q I r h
  obtain ⟨rs, Hs, G, sm, vr, h⟩ := h
  match rs, vr, h with
  | [(.int i, k)], vr, h =>
    obtain ⟨v, rfl, q⟩ := vr.one
    obtain rfl := VR.int q
    simp only [args1, List.map, evBlt] at h
    split at h
    · rename_i hz
      exact call_str_int pins s σ H _ us Q I r ⟨i, rfl, hz, h.fin sm (.str _)⟩
    · exact False.elim h
  | [(.non, k)], vr, h => exact False.elim h
  | [(.bl _, k)], vr, h => exact False.elim h
  | [(.str _, k)], vr, h => exact False.elim h
  | [(.tup _, k)], vr, h => exact False.elim h
  | [(.lst _, k)], vr, h => exact False.elim h
  | [(.scr _, k)], vr, h => exact False.elim h
  | [(.ob _ _, k)], vr, h => exact False.elim h
  | [], vr, h => exact False.elim h
  | _ :: _ :: _, vr, h => exact False.elim (by simpa [args1, evBlt, Kx] using h)
theorem b_int : CallR X (.type "int") (rArgs X.K cl W σ0 (evBlt .int)) := by
  intro pins s σ H vs us Q I r h
  obtain ⟨rs, Hs, G, sm, vr, h⟩ := h
  match rs, vr, h with
  | [(.int i, k)], vr, h =>
    obtain ⟨v, rfl, q⟩ := vr.one
    obtain rfl := VR.int q
    exact call_int1 pins s σ H _ us Q I r (.inl ⟨i, rfl, Kx.fin h sm (.int _)⟩)
  | [(.bl i, k)], vr, h =>
    obtain ⟨v, rfl, q⟩ := vr.one
    obtain rfl := VR.bl q
    exact call_int1 pins s σ H _ us Q I r (.inr ⟨i, rfl, Kx.fin h sm (.int _)⟩)
  | [(.non, k)], vr, h => exact False.elim h
  | [(.str _, k)], vr, h => exact False.elim h
  | [(.tup _, k)], vr, h => exact False.elim h
  | [(.lst _, k)], vr, h => exact False.elim h
  | [(.scr _, k)], vr, h => exact False.elim h
  | [(.ob _ _, k)], vr, h => exact False.elim h
  | [], vr, h => exact False.elim h
  | _ :: _ :: _, vr, h => exact False.elim (by simpa [args1, evBlt, Kx] using h)
theorem b_max (hc : X.calm = true) : CallR X (.builtin "max") (rArgs X.K cl W σ0 (evBlt .max)) := by
  intro pins s σ H vs us Q I r h
  obtain ⟨rs, Hs, G, sm, vr, h⟩ := h
  have key : ∃ i j, args1 rs = [.int i, .int j] := by
    generalize args1 rs = as at h
    match as, h with
    | [.int i, .int j], _ => exact ⟨i, j, rfl⟩
  obtain ⟨i, j, e⟩ := key
  obtain ⟨k1, k2, rfl⟩ := args_two e
  obtain ⟨v, w, rfl, q1, q2⟩ := vr.two
  obtain rfl := VR.int q1
  obtain rfl := VR.int q2
  exact call_max2 hc pins s σ H _ us Q I r ⟨i, j, rfl, Kx.fin h sm (.int _)⟩
theorem b_min (hc : X.calm = true) : CallR X (.builtin "min") (rArgs X.K cl W σ0 (evBlt .min)) := by
  intro pins s σ H vs us Q I r h
  obtain ⟨rs, Hs, G, sm, vr, h⟩ := h
  have key : ∃ i j, args1 rs = [.int i, .int j] := by
    generalize args1 rs = as at h
    match as, h with
    | [.int i, .int j], _ => exact ⟨i, j, rfl⟩
  obtain ⟨i, j, e⟩ := key
  obtain ⟨k1, k2, rfl⟩ := args_two e
  obtain ⟨v, w, rfl, q1, q2⟩ := vr.two
  obtain rfl := VR.int q1
  obtain rfl := VR.int q2
  exact call_min2 hc pins s σ H _ us Q I r ⟨i, j, rfl, Kx.fin h sm (.int _)⟩

/-! ### isinstance -/
def tyName : Ty → String
  | .int => "int" | .bool => "bool" | .tuple => "tuple" | .list => "list" | .str => "str"
def tyOfD : D → String
  | .non => "NoneType" | .bl _ => "bool" | .int _ => "int" | .str _ => "str" | .tup _ => "tuple" | .lst _ => "list" | .scr _ => "list" | .ob _ _ => "object"
theorem kit_all (d : D) (t : Ty) (hd : ∀ ns, d ≠ .scr ns) (ho : ∀ rows cl, d ≠ .ob rows cl) : kitB (tyOfD d) (tyName t) = some (evIsi d t) := by
  cases d <;> cases t <;> first
    | exact absurd rfl (hd _)
    | exact absurd rfl (ho _ _)
    | (simp only [tyOfD, tyName, evIsi]; decide +kernel)
theorem boot_bool' : bootBuiltins "bool" = some (.type "bool") := by decide +kernel
theorem tyx {K : PySem.W.Frag} {Hs G H : Hp} {v : V} {d : D} {k : Kd} (s : Same G H) (h : VR K Hs G H v d k) (hd : ∀ ns, d ≠ .scr ns) (ho : ∀ rows cl, d ≠ .ob rows cl) : TyX K H v (.type (tyOfD d)) := by
  cases d with
  | non =>
    have r := h.rep (by intro ds e; cases e)
    cases r
    exact .base .non
  | bl b => obtain rfl := h.bl; exact .base (.bl b)
  | int i => obtain rfl := h.int; exact .base (.int i)
  | str i => obtain rfl := h.str; exact .base (.str i)
  | tup ds =>
    obtain ⟨p, xs, rfl, t, _⟩ := h.tup
    rcases t with (t | ⟨o, t⟩) | ⟨o, its, n, h1, h2, _⟩
    · exact .base (.tup (s _ _ t))
    · exact .fTuple (s _ _ t)
    · exact .kTuple h1 h2
  | lst ds =>
    obtain ⟨p, xs, rfl, t, _⟩ := h.list s
    exact .base (.lst t)
  | scr ns => exact absurd rfl (hd ns)
  | ob rows cl => exact absurd rfl (ho rows cl)

/-! ### what is walked -/
def WalkOk (J : It) (G : Hp) (vs : List V) : Prop :=
  (∀ (i : Nat) (H : Hp), Same G H → i < vs.length → J.go i H) ∧ (∀ (i : Nat) (H : Hp), Same G H → vs.length ≤ i → J.stop i H) ∧
    ∀ (i : Nat) (H : Hp) (x : V) (H' : Hp), Same G H → i < vs.length → J.yld i H x H' → H' = H ∧ vs[i]? = some x
theorem WalkOk.mono {J : It} {G G' : Hp} {vs : List V} (w : WalkOk J G vs) (e : Same G G') : WalkOk J G' vs :=
  ⟨fun i H s => w.1 i H (e.trans s), fun i H s => w.2.1 i H (e.trans s), fun i H x H' s => w.2.2 i H x H' (e.trans s)⟩
theorem walk_list {K : PySem.W.Frag} {G : Hp} {a : Addr} {vs : List V} (h : G a = some (.lst vs)) : WalkOk (Itl K a) G vs :=
  ⟨fun i H s hi => ⟨vs, vs[i], SqL.of (s _ _ h), by simp [hi]⟩, fun i H s hi => ⟨vs, SqL.of (s _ _ h), hi⟩, fun i H x H' s hi y => ⟨y.1, y.2 vs (SqL.of (s _ _ h))⟩⟩
theorem walk_tup {K : PySem.W.Frag} {G : Hp} {a : Addr} {vs : List V} (h : SqT K G a vs) : WalkOk (Itt K a) G vs :=
  ⟨fun i H s hi => ⟨vs, vs[i], seqT s h, by simp [hi]⟩, fun i H s hi => ⟨vs, seqT s h, hi⟩, fun i H x H' s hi y => ⟨y.1, y.2 vs (seqT s h)⟩⟩
theorem walk_rng {G : Hp} (lo : Int) (n : Nat) : WalkOk (Itr lo n) G ((List.range n).map fun (i : Nat) => V.int (lo + i)) :=
  ⟨fun i H s hi => by show i < n; simpa using hi, fun i H s hi => by show n ≤ i; simpa using hi, fun i H x H' s hi y => ⟨y.1, by
    have hi' : i < n := by simpa using hi
    have e := y.2
    subst e
    simp [hi']⟩⟩
theorem walk_rev {K : PySem.W.Frag} {G : Hp} {a : Addr} {vs : List V} (h : G a = some (.lst vs)) : WalkOk (Itv K a vs.length) G vs.reverse :=
  ⟨fun i H s hi => by
    rw [List.length_reverse] at hi
    exact ⟨hi, vs, vs[vs.length - 1 - i], SqL.of (s _ _ h), by rw [List.getElem?_eq_getElem]⟩, fun i H s hi => by rw [List.length_reverse] at hi; exact hi, fun i H x H' s hi y => ⟨y.1, by
    rw [List.length_reverse] at hi
    rw [List.getElem?_reverse hi]
    exact y.2 vs (SqL.of (s _ _ h))⟩⟩
theorem walk_revT {K : PySem.W.Frag} {G : Hp} {a : Addr} {vs : List V} (h : SqT K G a vs) : WalkOk (ItvT K a vs.length) G vs.reverse :=
  ⟨fun i H s hi => by
    rw [List.length_reverse] at hi
    exact ⟨hi, vs, vs[vs.length - 1 - i], seqT s h, by rw [List.getElem?_eq_getElem]⟩, fun i H s hi => by rw [List.length_reverse] at hi; exact hi, fun i H x H' s hi y => ⟨y.1, by
    rw [List.length_reverse] at hi
    rw [List.getElem?_reverse hi]
    exact y.2 vs (seqT s h)⟩⟩
theorem pi_any {tg l : Expr} {tl : TE} (hl : PE X l tl) : PI X tg l (fun σ H R => tl σ H fun x H1 => ∃ a, x = .ref a ∧ (((∃ xs, SqL X.K H1 a xs) ∧ R (Itl X.K a) H1) ∨ ((∃ xs, SqT X.K H1 a xs) ∧ R (Itt X.K a) H1))) := by
  refine ⟨fun pins s σ H R I h => ?_⟩
  refine thn (hl.run pins s σ H _ I h) fun v s1 ⟨x, H1, I1, r1, q1⟩ => ?_
  obtain ⟨a, e, q⟩ := q1
  subst e
  cases r1
  rcases q with ⟨⟨xs, hq⟩, q⟩ | ⟨⟨xs, hq⟩, q⟩
  · obtain ⟨its, rv, p, hz⟩ := I1.list hq
    refine wpAny_pyIter_list p.isList ?_
    refine ⟨s1.heap.objs.size, [s1.heap.objs.size], _, _, H1, rfl, I1.kept (t' := s1.toks) fun b o e => Heap.get?_push_of_some _ e, turn_list a _, ⟨_, Heap.get?_push_size _ rfl, rfl, rfl⟩, fun b hb => ?_, q⟩
    have e : b = s1.heap.objs.size := by simpa using hb
    subst e
    exact I1.fpOk (Nat.le_refl _) (I1.hok.fresh (Nat.le_refl _))
  · obtain ⟨its, rv, p, hz⟩ := I1.tuple hq
    refine wpAny_pyIter_tuple (show s1.heap.IsTuple a its.toArray from p) ?_
    refine ⟨s1.heap.objs.size, [s1.heap.objs.size], _, _, H1, rfl, I1.kept (t' := s1.toks) fun b o e => Heap.get?_push_of_some _ e, turn_tuple a _, ⟨_, Heap.get?_push_size _ rfl, rfl, rfl⟩, fun b hb => ?_, q⟩
    have e : b = s1.heap.objs.size := by simpa using hb
    subst e
    exact I1.fpOk (Nat.le_refl _) (I1.hok.fresh (Nat.le_refl _))
end
end MP
set_option Elab.async false
set_option linter.all false
set_option maxRecDepth 100000
set_option maxHeartbeats 4000000
namespace MP
open PySem PySem.Spec PyProof.Rows L2 RT

/-! ### the text against the small syntax -/
def okName (x : Str) : Bool := !(x == ("__debug__" : Str)) && !(x == ("__classdict__" : Str))
def visE (N : List Str) (sc : Scope) (i : Nat) (x : Str) : Bool := decide (N[i]? = some x) && (decide (sc.names.lookup x = some .local) || decide (sc.names.lookup x = some .cell) || decide (sc.names.lookup x = some .free)) && okName x
def glE (sc : Scope) (x : Str) : Bool := decide (sc.names.lookup x = some .globalImplicit) && okName x
def bltName : Blt → Str
  | .len => "len" | .abs => "abs" | .list => "list" | .tuple => "tuple" | .str => "str" | .int => "int" | .max => "max" | .min => "min"
def locE (N : List Str) (sc : Scope) (i : Nat) (x : Str) : Bool := decide (N[i]? = some x) && (decide (sc.names.lookup x = some .local) || decide (sc.names.lookup x = some .cell)) && okName x
/-- a comprehension's own name -/
def ownE (N : List Str) (sc scope : Scope) (i : Nat) (x : Str) : Bool := locE N (relS scope sc) i x && (decide (scope.names.lookup x = some .cell) || decide ((relS scope sc).names.lookup x = some .local)) && blkC N sc scope [(x, i)]

mutual
def chkE (N : List Str) : ME → Scope → Expr → Bool
  | .loc i, sc, e => match e with
    | .Name x _ => visE N sc i x
    | _ => false
  | .glo x _, sc, e => match e with
    | .Name y _ => decide (x = y) && glE sc x
    | _ => false
  | .int i, _, e => match e with
    | .Constant (.int j) _ _ => decide (i = j)
    | _ => false
  | .bl i, _, e => match e with
    | .Constant (.bool j) _ _ => decide (i = j)
    | _ => false
  | .non, _, e => match e with
    | .Constant .none _ _ => true
    | _ => false
  | .str i, _, e => match e with
    | .Constant (.str j) _ _ => decide (i = j)
    | _ => false
  | .bin o a b, sc, e => match e with
    | .BinOp e op f _ => decide (op = opOf o) && chkE N a sc e && chkE N b sc f
    | _ => false
  | .neg a, sc, e => match e with
    | .UnaryOp .USub e _ => chkE N a sc e
    | _ => false
  | .cmp o a b, sc, e => match e with
    | .Compare e [op] [f] _ => decide (op = cmpOf o) && chkE N a sc e && chkE N b sc f
    | _ => false
  | .cmp2 o1 o2 a b c, sc, e => match e with
    | .Compare e [op1, op2] [f, g] _ => decide (op1 = cmpOf o1) && (decide (op2 = cmpOf o2) && (chkE N a sc e && (chkE N b sc f && chkE N c sc g)))
    | _ => false
  | .isN n a, sc, e => match e with
    | .Compare e [op] [.Constant .none _ _] _ => decide (op = if n then .IsNot else .Is) && chkE N a sc e
    | _ => false
  | .and a b, sc, e => match e with
    | .BoolOp .And [e, f] _ => chkE N a sc e && chkE N b sc f
    | .BoolOp .And (e :: f :: g :: r) p => chkE N a sc e && chkE N b sc (.BoolOp .And (f :: g :: r) p)
    | _ => false
  | .or a b, sc, e => match e with
    | .BoolOp .Or [e, f] _ => chkE N a sc e && chkE N b sc f
    | .BoolOp .Or (e :: f :: g :: r) p => chkE N a sc e && chkE N b sc (.BoolOp .Or (f :: g :: r) p)
    | _ => false
  | .not a, sc, e => match e with
    | .UnaryOp .Not e _ => chkE N a sc e
    | _ => false
  | .ife c a b, sc, e => match e with
    | .IfExp d e f _ => chkE N c sc d && chkE N a sc e && chkE N b sc f
    | _ => false
  | .sub a i, sc, e => match e with
    | .Subscript e f _ => chkE N a sc e && chkE N i sc f
    | _ => false
  | .slLo a i, sc, e => match e with
    | .Subscript e (.Slice (some f) none none _) _ => chkE N a sc e && chkE N i sc f
    | _ => false
  | .slHi a i, sc, e => match e with
    | .Subscript e (.Slice none (some f) none _) _ => chkE N a sc e && chkE N i sc f
    | _ => false
  | .sl a i j, sc, e => match e with
    | .Subscript e (.Slice (some f) (some g) none _) _ => chkE N a sc e && chkE N i sc f && chkE N j sc g
    | _ => false
  | .call x _ es, sc, e => match e with
    | .Call (.Name y _) (f :: fs) [] _ => decide (x = y) && glE sc x && chkEs N es sc (f :: fs)
    | _ => false
  | .blt b es, sc, e => match e with
    | .Call (.Name y _) (f :: fs) [] _ => decide (y = bltName b) && glE sc y && chkEs N es sc (f :: fs)
    | _ => false
  | .isi a t, sc, e => match e with
    | .Call (.Name y _) [e, .Name z _] [] _ => decide (y = "isinstance") && decide (z = PySem.Str.ofString (tyName t)) && glE sc y && glE sc z && chkE N a sc e
    | _ => false
  | .tup es, sc, e => match e with
    | .Tuple fs _ _ => chkEs N es sc fs
    | _ => false
  | .lst es, sc, e => match e with
    | .List fs _ => chkEs N es sc fs
    | _ => false
  | .comp elt i k es, sc, e => match e with
    | .ListComp e [⟨.Name x _, it, [], 0⟩] scope _ => ownE N sc scope i x && chkE N elt (relS scope sc) e && (match k, it with
      | .range1, .Call (.Name y _) [f] [] _ => decide (y = "range") && glE sc y && chkEs N es sc [f]
      | .range2, .Call (.Name y _) [f, g] [] _ => decide (y = "range") && glE sc y && chkEs N es sc [f, g]
      | .rev, .Call (.Name y _) [f] [] _ => decide (y = "reversed") && glE sc y && chkEs N es sc [f]
      | .val, f => chkEs N es sc [f]
      | _, _ => false)
    | _ => false
  | .compIf elt i k es c, sc, e => match e with
    | .ListComp e [⟨.Name x _, it, [t], 0⟩] scope _ => ownE N sc scope i x && chkE N elt (relS scope sc) e && chkE N c (relS scope sc) t && (match k, it with
      | .range1, .Call (.Name y _) [f] [] _ => decide (y = "range") && glE sc y && chkEs N es sc [f]
      | .range2, .Call (.Name y _) [f, g] [] _ => decide (y = "range") && glE sc y && chkEs N es sc [f, g]
      | .rev, .Call (.Name y _) [f] [] _ => decide (y = "reversed") && glE sc y && chkEs N es sc [f]
      | .val, f => chkEs N es sc [f]
      | _, _ => false)
    | _ => false
  | .tupRev a, sc, e => match e with
    | .Call (.Name y _) [.Call (.Name z _) [f] [] _] [] _ => decide (y = "tuple") && decide (z = "reversed") && glE sc y && glE sc z && chkE N a sc f
    | _ => false
  | .attr i w, sc, e => match e with
    | .Attribute (.Name z _) y _ => decide (y = if w then "cleared" else "rows") && visE N sc i z
    | _ => false
  | .mcall i x _ a, sc, e => match e with
    | .Call (.Attribute (.Name z _) y ap) [f] [] cp => decide (y = x) && visE N sc i z && (ap.endLine == cp.line) && chkE N a sc f
    | _ => false
def chkEs (N : List Str) : List ME → Scope → List Expr → Bool
  | [], _, es => match es with
    | [] => true
    | _ => false
  | m :: ms, sc, es => match es with
    | e :: es => chkE N m sc e && chkEs N ms sc es
    | _ => false
end

/-! ### what is known around a body -/
def AllC {α : Type} (P : α → Prop) : List α → Prop
  | [] => True
  | x :: xs => P x ∧ AllC P xs
theorem AllC.app {α : Type} {P : α → Prop} : ∀ {xs ys : List α}, AllC P (xs ++ ys) → AllC P xs ∧ AllC P ys
  | [], _, h => ⟨trivial, h⟩
  | _ :: xs, ys, h => by
    obtain ⟨h1, h2⟩ := AllC.app (xs := xs) (ys := ys) h.2
    exact ⟨⟨h.1, h1⟩, h2⟩
/-- the promise of a def by its mirror -/
def spM (K : PySem.W.Frag) (cl : Str → Value) (n : Nat) (f : Fn) : Sp := fun vs H Q E => vs.length = n ∧ ∃ G ds, Same G H ∧ RepL K G vs ds ∧ match f ds with
  | .ok r => ∀ v G' H', Ext G H G' H' → VR K H G' H' v r.1 (if r.2 then .fr else .sh) → Q v H'
  | .exc c => ∀ G' H', Ext G H G' H' → E (cl c) none H'
  | .stuck => False
/-- __init__ of the class: two new lists -/
def spIni (C : Addr) : Sp := fun vs H Q _ => ∃ p dx, vs = [.ref p] ∧ H p = some (.ins C dx []) ∧
  ∀ H' r c, H r = none → H c = none → r ≠ c → H' p = some (.ins C dx (spF r c)) → H' r = some (.lst []) → H' c = some (.lst []) → (∀ b, b ≠ p → b ≠ r → b ≠ c → H' b = H b) → Q .non H'
/-- the heap behind a change of the object's lists -/
structure ExtO (r c : Addr) (G H G' H' : Hp) : Prop where
  g : Same G G'
  h : ∀ b o, H b = some o → b ≠ r → b ≠ c → H' b = some o
  sub : Same G' H'
  new : ∀ b o, G' b = some o → G b = none → H b = none
/-- put, by its mirror -/
def spPut (K : PySem.W.Frag) (g : PutFn) : Sp := fun vs H Q _ => ∃ G C a dx r c xs ys rows cl v d, vs = [.ref a, v] ∧ SpanC K C ∧ Same G H ∧ H a = some (.ins C dx (spF r c)) ∧ H r = some (.lst xs) ∧ H c = some (.lst ys) ∧
  G a = none ∧ G r = none ∧ G c = none ∧ r ≠ c ∧ RepL K G xs rows ∧ RepL K G ys cl ∧ Rep K G v d ∧ match g rows cl d with
  | .ok q => ∀ G' H' xs' ys', ExtO r c G H G' H' → H' r = some (.lst xs') → H' c = some (.lst ys') → RepL K G' xs' q.2.1 → RepL K G' ys' q.2.2 → Q (.bl q.1) H'
  | _ => False
def GoodFn (P : Program) (w : World) (K : PySem.W.Frag) (mg : Str → Option Value) (base : Heap) (cl : Str → Value) (k : Nat) : CallI → Prop
  | .fn x n f => ∃ (fa : Addr) (fd : FuncData) (ps : List Str), mg x = some (.ref fa) ∧ FnOk P w K mg base (L2.CX P w) k fa fd ps (spM K cl n f) ∧ PySem.W.keepIn K (.ref fa) = true ∧ Binds K fd ps []
  | .mt x n f => ∃ (C fa : Addr) (fd : FuncData) (ps : List Str), SpanC K C ∧ Meth K C x fa ∧ (∀ r c, (spF r c).lookup x = none) ∧ FnOk P w K mg base (L2.CX P w) k fa fd ps (spM K cl n f) ∧ Binds K fd ps []
  | .ini => ∃ (C fa : Addr) (fd : FuncData) (ps : List Str) (j : Nat), j + 1 ≤ k ∧ mg "Span" = some (.ref C) ∧ SpanC K C ∧ Mk K C fa ∧ FnOk P w K mg base (L2.CX P w) j fa fd ps (spIni C) ∧ Binds K fd ps []
  | .put g => ∃ (C fa : Addr) (fd : FuncData) (ps : List Str), SpanC K C ∧ Meth K C "put" fa ∧ FnOk P w K mg base (L2.CX P w) k fa fd ps (spPut K g) ∧ Binds K fd ps []
def GoodGl (K : PySem.W.Frag) (mg : Str → Option Value) (p : Str × D) : Prop := ∃ v u, mg p.1 = some u ∧ RelV v u ∧ ∀ G, Rep K G v p.2
structure BltOk (mg : Str → Option Value) : Prop where
  len : mg "len" = none
  abs : mg "abs" = none
  list : mg "list" = none
  tuple : mg "tuple" = none
  str : mg "str" = none
  int : mg "int" = none
  bool : mg "bool" = none
  max : mg "max" = none
  min : mg "min" = none
  isi : mg "isinstance" = none
  range : mg "range" = none
  rev : mg "reversed" = none
structure XOk (X : Cx) (N : List Str) (sc : Scope) (W : WX) (k : Nat) : Prop where
  hN : X.N = N
  sc : X.env.scope = sc
  calm : X.calm = true
  nd : X.N.Nodup
  room : Room k X.A
  tk : Takes X W
  blt : BltOk X.mg

section
variable {X : Cx} {N : List Str} {sc : Scope} {cl : Str → Value} {W : WX} {k : Nat}
theorem visE_ok (x : XOk X N sc W k) {i : Nat} {y : Str} (h : visE N sc i y = true) : X.N[i]? = some y ∧ Vis X.env.scope y ∧ (y == ("__debug__" : Str)) = false ∧ (y == ("__classdict__" : Str)) = false := by
  unfold visE okName at h
  simp only [Bool.and_eq_true, Bool.or_eq_true, decide_eq_true_eq, Bool.not_eq_true'] at h
  refine ⟨by rw [x.hN]; exact h.1.1, ?_, h.2.1, h.2.2⟩
  rw [x.sc]
  rcases h.1.2 with (q | q) | q
  · exact .inl q
  · exact .inr (.inl q)
  · exact .inr (.inr q)
theorem glE_ok (x : XOk X N sc W k) {y : Str} (h : glE sc y = true) : Gl X y ∧ (y == ("__debug__" : Str)) = false := by
  unfold glE okName at h
  simp only [Bool.and_eq_true, decide_eq_true_eq, Bool.not_eq_true'] at h
  refine ⟨?_, h.2.1⟩
  show X.env.scope.names.lookup y = _
  rw [x.sc]
  exact h.1
/-- not a star -/
theorem chk_star {m : ME} {e : Expr} {es : List Expr} {env : Env} (h : chkE N m sc e = true) : starEach (e :: es) env = (false, eval e env) :: starEach es env := by
  cases e <;> first
    | rfl
    | (cases m <;> exact absurd h Bool.false_ne_true)
theorem chk_plainIx {m : ME} {e : Expr} (h : chkE N m sc e = true) : PlainIx e := by
  cases e <;> first
    | exact fun _ _ => rfl
    | (cases m <;> exact absurd h Bool.false_ne_true)
theorem chk_folded {m : ME} {e : Expr} {env : Env} (h : chkE N m sc e = true) : ∀ x, foldedSetIterable e env x = pure x := by
  cases e <;> first
    | exact fun _ => rfl
    | (cases m <;> exact absurd h Bool.false_ne_true)
theorem chks_back {ms : List ME} : ∀ {es : List Expr} {pos : Pos} {env : Env}, chkEs N ms sc es = true → (backTo pos (starEach es env)).any (·.1) = false := by
  induction ms with
  | nil =>
    intro es pos env h
    cases es with
    | nil => rfl
    | cons => exact absurd h Bool.false_ne_true
  | cons m ms ih =>
    intro es pos env h
    cases es with
    | nil => exact absurd h Bool.false_ne_true
    | cons e es =>
      have h' : (chkE N m sc e && chkEs N ms sc es) = true := h
      rw [Bool.and_eq_true] at h'
      rw [chk_star h'.1]
      show (false || (backTo pos (starEach es env)).any (·.1)) = false
      rw [ih h'.2]
      rfl
end

/-! ### the judgement of an expression -/
def isBoolOp : Expr → Bool
  | .BoolOp _ _ _ => true
  | _ => false
def Snd (m : ME) : Prop := ∀ (X : Cx) (N : List Str) (sc : Scope) (cl : Str → Value) (W : WX) (k : Nat) (e : Expr), XOk X N sc W k → chkE N m sc e = true →
  AllC (GoodFn X.prog X.w X.K X.mg X.base cl k) (callsE m) → AllC (GoodGl X.K X.mg) (glosE m) →
  PE X e (rd X.K cl W m) ∧ PT X e (rdT X.K cl W m) ∧ (isBoolOp e = true → PW X e (rdT X.K cl W m))
def SndA (ms : List ME) : Prop := ∀ (X : Cx) (N : List Str) (sc : Scope) (cl : Str → Value) (W : WX) (k : Nat) (es : List Expr), XOk X N sc W k → chkEs N ms sc es = true →
  AllC (GoodFn X.prog X.w X.K X.mg X.base cl k) (callsEs ms) → AllC (GoodGl X.K X.mg) (glosEs ms) → PA X es (rdA X.K cl W ms)
/-- the test of what gives a bool -/
theorem pt_of {X : Cx} {cl : Str → Value} {W : WX} {m : ME} {e : Expr} (h : PE X e (rd X.K cl W m)) (he : ∀ whole, isTrue e X.env whole = (do let v ← whole; standAt e.pos; holding [v] (truthy v))) : PT X e (rdT X.K cl W m) := by
  refine pt_imp (pt_val h he) fun σ H Q ⟨S, G, R, q⟩ => ⟨S, G, R, ?_⟩
  cases ev : evE m S with
  | stuck => rw [ev] at q; exact q
  | exc c => rw [ev] at q; exact q
  | ok r =>
    rw [ev] at q
    obtain ⟨d, kd⟩ := r
    cases d with
    | bl b =>
      intro v G' H' E x
      obtain rfl := x.bl
      exact ⟨b, rfl, q G' H' E⟩
    | _ => exact False.elim q
section
variable {X : Cx} {N : List Str} {sc : Scope} {cl : Str → Value} {W : WX} {k : Nat}
theorem three {m : ME} {e : Expr} (h : PE X e (rd X.K cl W m)) (he : ∀ whole, isTrue e X.env whole = (do let v ← whole; standAt e.pos; holding [v] (truthy v))) (hb : isBoolOp e = false) :
    PE X e (rd X.K cl W m) ∧ PT X e (rdT X.K cl W m) ∧ (isBoolOp e = true → PW X e (rdT X.K cl W m)) := ⟨h, pt_of h he, fun z => by rw [hb] at z; cases z⟩
end
end MP
set_option Elab.async false
set_option linter.all false
set_option maxRecDepth 100000
set_option maxHeartbeats 4000000
namespace MP
open PySem PySem.Spec PyProof.Rows L2 RT

theorem snd_loc (i : Nat) : Snd (.loc i) := by
  intro X N sc cl W k e x hc _ _
  cases e <;> try exact absurd hc Bool.false_ne_true
  rename_i y pos
  obtain ⟨h1, h2, h3, h4⟩ := visE_ok x (show visE N sc i y = true from hc)
  refine three (pe_imp (pe_var h1 h2 h3 h4) fun σ H Q ⟨S, G, R, h⟩ => ?_) (fun _ => rfl) rfl
  rw [evE] at h
  split at h
  · rename_i d hd
    obtain ⟨v, q, r⟩ := R.sl i _ hd
    exact ⟨v, q, h.fin R.sub r⟩
  · rename_i ds hd
    obtain ⟨a, xs, q, r1, r2, r3⟩ := R.sl i _ hd
    exact ⟨_, q, h.new (Ext.refl R.sub) ⟨a, xs, ds, rfl, rfl, r1, r2, r3⟩⟩
  · exact False.elim h
theorem snd_glo (y : Str) (d : D) : Snd (.glo y d) := by
  intro X N sc cl W k e x hc _ hg
  cases e <;> try exact absurd hc Bool.false_ne_true
  rename_i z pos
  have hc : (decide (y = z) && glE sc y) = true := hc
  rw [Bool.and_eq_true, decide_eq_true_eq] at hc
  obtain ⟨e1, hc2⟩ := hc
  subst e1
  obtain ⟨h1, h2⟩ := glE_ok x hc2
  obtain ⟨v, u, m1, m2, m3⟩ := (show AllC (GoodGl X.K X.mg) [(y, d)] from hg).1
  refine three (pe_imp (pe_glob h1 m1 m2 h2) fun σ H Q ⟨S, G, R, h⟩ => ?_) (fun _ => rfl) rfl
  rw [evE] at h
  exact h.fin R.sub (m3 G)
theorem snd_int (i : Int) : Snd (.int i) := by
  intro X N sc cl W k e x hc _ _
  cases e <;> try exact absurd hc Bool.false_ne_true
  rename_i c j pos
  cases c <;> try exact absurd hc Bool.false_ne_true
  rename_i z
  obtain rfl : i = z := of_decide_eq_true hc
  refine three (pe_imp pe_int fun σ H Q ⟨S, G, R, h⟩ => ?_) (fun _ => rfl) rfl
  rw [evE] at h
  exact h.fin R.sub (.int i)
theorem snd_bl (i : Bool) : Snd (.bl i) := by
  intro X N sc cl W k e x hc _ _
  cases e <;> try exact absurd hc Bool.false_ne_true
  rename_i c j pos
  cases c <;> try exact absurd hc Bool.false_ne_true
  rename_i z
  obtain rfl : i = z := of_decide_eq_true hc
  refine three (pe_imp pe_bl fun σ H Q ⟨S, G, R, h⟩ => ?_) (fun _ => rfl) rfl
  rw [evE] at h
  exact h.fin R.sub (.bl i)
theorem snd_str (i : Str) : Snd (.str i) := by
  intro X N sc cl W k e x hc _ _
  cases e <;> try exact absurd hc Bool.false_ne_true
  rename_i c j pos
  cases c <;> try exact absurd hc Bool.false_ne_true
  rename_i z
  obtain rfl : i = z := of_decide_eq_true hc
  refine three (pe_imp pe_str fun σ H Q ⟨S, G, R, h⟩ => ?_) (fun _ => rfl) rfl
  rw [evE] at h
  exact h.fin R.sub (.str i)
theorem snd_non : Snd .non := by
  intro X N sc cl W k e x hc _ _
  cases e <;> try exact absurd hc Bool.false_ne_true
  rename_i c j pos
  cases c <;> try exact absurd hc Bool.false_ne_true
  refine three (pe_imp pe_non fun σ H Q ⟨S, G, R, h⟩ => ?_) (fun _ => rfl) rfl
  rw [evE] at h
  exact h.fin R.sub .non
theorem snd_bin (o : BOp) {a b : ME} (ia : Snd a) (ib : Snd b) : Snd (.bin o a b) := by
  intro X N sc cl W k e x hc hf hg
  cases e <;> try exact absurd hc Bool.false_ne_true
  rename_i l op r pos
  have hc : (decide (op = opOf o) && chkE N a sc l && chkE N b sc r) = true := hc
  rw [Bool.and_eq_true, Bool.and_eq_true, decide_eq_true_eq] at hc
  obtain ⟨⟨rfl, hc1⟩, hc2⟩ := hc
  obtain ⟨f1, f2⟩ := AllC.app (show AllC _ (callsE a ++ callsE b) from hf)
  obtain ⟨g1, g2⟩ := AllC.app (show AllC _ (glosE a ++ glosE b) from hg)
  have p1 := (ia X N sc cl W k l x hc1 f1 g1).1
  have p2 := (ib X N sc cl W k r x hc2 f2 g2).1
  refine three ⟨fun pins s σ H Q I ⟨S, G, R, h⟩ => (pe_op (op_bin (cl := cl) (W := W) (σ0 := σ) o) p1 p2).run pins s σ H Q I ?_⟩ (fun _ => rfl) rfl
  rw [evE] at h
  refine rd_bind R h fun d k v G1 H1 _ E1 r1 R1 h1 => rd_bind R1 h1 fun d2 k2 v2 G2 H2 _ E2 r2 R2 h2 => ?_
  exact ⟨d, k, d2, k2, H, G2, E2.sub, r1.ext E2, r2.old E1.h, h2⟩
theorem snd_cmp (o : COp) {a b : ME} (ia : Snd a) (ib : Snd b) : Snd (.cmp o a b) := by
  intro X N sc cl W k e x hc hf hg
  cases e <;> try exact absurd hc Bool.false_ne_true
  rename_i l ops cs pos
  match ops, cs, hc with
  | [op], [r], hc =>
    have hc : (decide (op = cmpOf o) && chkE N a sc l && chkE N b sc r) = true := hc
    rw [Bool.and_eq_true, Bool.and_eq_true, decide_eq_true_eq] at hc
    obtain ⟨⟨rfl, hc1⟩, hc2⟩ := hc
    obtain ⟨f1, f2⟩ := AllC.app (show AllC _ (callsE a ++ callsE b) from hf)
    obtain ⟨g1, g2⟩ := AllC.app (show AllC _ (glosE a ++ glosE b) from hg)
    have p1 := (ia X N sc cl W k l x hc1 f1 g1).1
    have p2 := (ib X N sc cl W k r x hc2 f2 g2).1
    have nm : behindInMarks (cmpOf o) r = false := nomark r (by cases o <;> decide) (by cases o <;> decide)
    have hu := x.room.units
    refine ⟨⟨fun pins s σ H Q I ⟨S, G, R, h⟩ => (pe_cmpR (op_cmp (cl := cl) (W := W) (σ0 := σ) hu o) p1 p2 nm).run pins s σ H Q I ?_⟩, ⟨fun pins s σ H Q I ⟨S, G, R, h⟩ => (pt_cmpR (op_cmp (cl := cl) (W := W) (σ0 := σ) hu o) p1 p2 nm).run pins s σ H Q I ?_⟩, fun z => nomatch z⟩
    · rw [evE] at h
      refine rd_bind R h fun d k v G1 H1 _ E1 r1 R1 h1 => rd_bind R1 h1 fun d2 k2 v2 G2 H2 _ E2 r2 R2 h2 => ?_
      exact ⟨d, k, d2, k2, H, G2, E2.sub, r1.ext E2, r2.old E1.h, h2⟩
    · rw [evE] at h
      refine rd_bindT R h fun d k v G1 H1 _ E1 r1 R1 h1 => rd_bindT R1 h1 fun d2 k2 v2 G2 H2 _ E2 r2 R2 h2 => ?_
      refine ⟨d, k, d2, k2, H, G2, E2.sub, r1.ext E2, r2.old E1.h, ?_⟩
      cases ev : evCmp o d d2 with
      | stuck => rw [ev] at h2; exact h2
      | exc c => rw [ev] at h2; exact h2
      | ok rr =>
        rw [ev] at h2
        obtain ⟨d3, k3⟩ := rr
        cases d3 with
        | bl bb =>
          intro v G' H' E xx
          obtain rfl := xx.bl
          exact ⟨bb, rfl, h2 G' H' E⟩
        | _ => exact False.elim h2
  | [], _, hc => exact absurd hc Bool.false_ne_true
  | [_], [], hc => exact absurd hc Bool.false_ne_true
  | [_], _ :: _ :: _, hc => exact absurd hc Bool.false_ne_true
  | _ :: _ :: _, _, hc => exact absurd hc Bool.false_ne_true
theorem snd_neg {a : ME} (ia : Snd a) : Snd (.neg a) := by
  intro X N sc cl W k e x hc hf hg
  cases e <;> try exact absurd hc Bool.false_ne_true
  rename_i op l pos
  cases op <;> try exact absurd hc Bool.false_ne_true
  have p1 := (ia X N sc cl W k l x hc hf hg).1
  refine three ⟨fun pins s σ H Q I ⟨S, G, R, h⟩ => (pe_un un_neg p1).run pins s σ H Q I ?_⟩ (fun _ => rfl) rfl
  rw [evE] at h
  refine rd_bind R h fun d k v G1 H1 _ E1 r1 R1 h1 => ?_
  cases d <;> try exact False.elim h1
  obtain rfl := r1.int
  exact ⟨_, rfl, h1.fin R1.sub (.int _)⟩
theorem snd_cmp2 (o1 o2 : COp) {a b c : ME} (ia : Snd a) (ib : Snd b) (ic : Snd c) : Snd (.cmp2 o1 o2 a b c) := by
  intro X N sc cl W k e x hc hf hg
  cases e <;> try exact absurd hc Bool.false_ne_true
  rename_i l ops cs pos
  match ops, cs, hc with
  | [op1, op2], [r, t], hc =>
    have hc : (decide (op1 = cmpOf o1) && (decide (op2 = cmpOf o2) && (chkE N a sc l && (chkE N b sc r && chkE N c sc t)))) = true := hc
    simp only [Bool.and_eq_true, decide_eq_true_eq] at hc
    obtain ⟨rfl, rfl, hc1, hc2, hc3⟩ := hc
    obtain ⟨f1, f2'⟩ := AllC.app (show AllC _ (callsE a ++ (callsE b ++ callsE c)) from hf)
    obtain ⟨f2, f3⟩ := AllC.app f2'
    obtain ⟨g1, g2'⟩ := AllC.app (show AllC _ (glosE a ++ (glosE b ++ glosE c)) from hg)
    obtain ⟨g2, g3⟩ := AllC.app g2'
    have p1 := (ia X N sc cl W k l x hc1 f1 g1).1
    have p2 := (ib X N sc cl W k r x hc2 f2 g2).1
    have p3 := (ic X N sc cl W k t x hc3 f3 g3).1
    have nm : lastMarks [cmpOf o1, cmpOf o2] [r, t] = false := by
      show behindInMarks (cmpOf o2) t = false
      exact nomark t (by cases o2 <;> decide) (by cases o2 <;> decide)
    have hu := x.room.units
    refine ⟨⟨fun pins s σ H Q I ⟨S, G, R, h⟩ => (pe_chain (op_cmp (cl := cl) (W := W) (σ0 := σ) hu o1) (op_cmp (cl := cl) (W := W) (σ0 := σ) hu o2) p1 p2 p3 nm).run pins s σ H Q I ?_⟩, ⟨fun pins s σ H Q I ⟨S, G, R, h⟩ => (pt_chain (op_cmp (cl := cl) (W := W) (σ0 := σ) hu o1) (op_cmp (cl := cl) (W := W) (σ0 := σ) hu o2) p1 p2 p3 nm).run pins s σ H Q I ?_⟩, fun z => nomatch z⟩
    · rw [evE] at h
      refine rd_bind R h fun d k v G1 H1 _ E1 r1 R1 h1 => rd_bind R1 h1 fun d2 k2 v2 G2 H2 _ E2 r2 R2 h2 => ?_
      refine ⟨d, k, d2, k2, H, G2, E2.sub, r1.ext E2, r2.old E1.h, ?_⟩
      cases ev : evCmp o1 d d2 with
      | stuck => rw [ev] at h2; exact h2
      | exc c => rw [ev] at h2; exact h2
      | ok rr =>
        rw [ev] at h2
        obtain ⟨d3, k3⟩ := rr
        cases d3 with
        | bl bb =>
          intro v3 G3 H3 E3 xx
          obtain rfl := xx.bl
          cases bb with
          | false =>
            have h2 : Kx X.K cl W σ G2 H2 (.ok (.bl false, .sh)) Q := h2
            exact ⟨false, rfl, (Kx.ext h2 E3).fin (R2.ext E3).sub (.bl false)⟩
          | true =>
            refine ⟨true, rfl, ?_⟩
            show rd X.K cl W c σ H3 _
            refine rd_bind (R2.ext E3) (Kx.ext h2 E3) fun d4 k4 v4 G4 H4 _ E4 r4 R4 h4 => ?_
            exact ⟨d2, k2, d4, k4, H1, G4, E4.sub, (r2.ext E3).ext E4, r4.old (E2.h.trans E3.h), h4⟩
        | _ => exact False.elim h2
    · rw [evE] at h
      refine rd_bindT R h fun d k v G1 H1 _ E1 r1 R1 h1 => rd_bindT R1 h1 fun d2 k2 v2 G2 H2 _ E2 r2 R2 h2 => ?_
      refine ⟨d, k, d2, k2, H, G2, E2.sub, r1.ext E2, r2.old E1.h, ?_⟩
      cases ev : evCmp o1 d d2 with
      | stuck => rw [ev] at h2; exact h2
      | exc c => rw [ev] at h2; exact h2
      | ok rr =>
        rw [ev] at h2
        obtain ⟨d3, k3⟩ := rr
        cases d3 with
        | bl bb =>
          intro v3 G3 H3 E3 xx
          obtain rfl := xx.bl
          cases bb with
          | false =>
            have h2 : Kt cl W σ G2 H2 (.ok (.bl false, .sh)) Q := h2
            exact ⟨false, rfl, false, rfl, h2 G3 H3 E3⟩
          | true =>
            refine ⟨true, rfl, ?_⟩
            show rd X.K cl W c σ H3 _
            refine rd_bindT (R2.ext E3) (Kt.ext h2 E3) fun d4 k4 v4 G4 H4 _ E4 r4 R4 h4 => ?_
            refine ⟨d2, k2, d4, k4, H1, G4, E4.sub, (r2.ext E3).ext E4, r4.old (E2.h.trans E3.h), ?_⟩
            cases ev4 : evCmp o2 d2 d4 with
            | stuck => rw [ev4] at h4; exact h4
            | exc c => rw [ev4] at h4; exact h4
            | ok rr4 =>
              rw [ev4] at h4
              obtain ⟨d5, k5⟩ := rr4
              cases d5 with
              | bl b5 =>
                intro v5 G5 H5 E5 x5
                obtain rfl := x5.bl
                exact ⟨b5, rfl, h4 G5 H5 E5⟩
              | _ => exact False.elim h4
        | _ => exact False.elim h2
  | [], _, hc => exact absurd hc Bool.false_ne_true
  | [_], [], hc => exact absurd hc Bool.false_ne_true
  | [_], _ :: _, hc => exact absurd hc Bool.false_ne_true
  | _ :: _ :: _ :: _, _, hc => exact absurd hc Bool.false_ne_true
  | [_, _], [], hc => exact absurd hc Bool.false_ne_true
  | [_, _], [_], hc => exact absurd hc Bool.false_ne_true
  | [_, _], _ :: _ :: _ :: _, hc => exact absurd hc Bool.false_ne_true
theorem snd_isN (n : Bool) {a : ME} (ia : Snd a) : Snd (.isN n a) := by
  intro X N sc cl W k e x hc hf hg
  cases e <;> try exact absurd hc Bool.false_ne_true
  rename_i l ops cs pos
  match ops, cs, hc with
  | [op], [.Constant .none _ _], hc =>
    have hc : (decide (op = if n then CmpOp.IsNot else CmpOp.Is) && chkE N a sc l) = true := hc
    rw [Bool.and_eq_true, decide_eq_true_eq] at hc
    obtain ⟨e1, hc1⟩ := hc
    have p1 := (ia X N sc cl W k l x hc1 hf hg).1
    have val : ∀ {d : D} {k : Kd} {v : V} {Hs G H : Hp}, VR X.K Hs G H v d k → decide (v = .non) = (match d with | .non => true | _ => false) := fun {d k v Hs G H} r => by
      cases d with
      | non =>
        have q := r.rep (by intro ds e; cases e)
        cases q
        rfl
      | bl => obtain rfl := r.bl; rfl
      | int => obtain rfl := r.int; rfl
      | str => obtain rfl := r.str; rfl
      | tup =>
        obtain ⟨p, xs, rfl, _⟩ := r.tup
        rfl
      | lst =>
        cases k with
        | sh =>
          have q : Rep _ _ _ _ := r
          cases q
          rfl
        | fr =>
          rcases r with ⟨p, xs, ds, rfl, _⟩ | r
          · rfl
          · exact r.nolst.elim
        | bo => obtain ⟨p, xs, ds, rfl, _⟩ := r; rfl
      | scr => obtain ⟨p, rfl, _⟩ := r.scr; rfl
      | ob =>
        have q := r.rep (by intro ds e; cases e)
        cases q
        rfl
    cases n with
    | false =>
      have e1 : op = .Is := e1
      subst e1
      refine ⟨⟨fun pins s σ H Q I ⟨S, G, R, h⟩ => (pe_cmp (pc_isN p1)).run pins s σ H Q I ?_⟩, ⟨fun pins s σ H Q I ⟨S, G, R, h⟩ => (pt_cmp (pc_isN p1)).run pins s σ H Q I ?_⟩, fun z => nomatch z⟩
      · rw [evE] at h
        refine rd_bind R h fun d k v G1 H1 _ E1 r1 R1 h1 => ?_
        refine h1.fin R1.sub ?_
        rw [val r1]
        cases d <;> exact .bl _
      · rw [evE] at h
        refine rd_bindT R h fun d k v G1 H1 _ E1 r1 R1 h1 => ?_
        refine ⟨_, rfl, ?_⟩
        rw [val r1]
        cases d <;> exact h1 G1 H1 (Ext.refl R1.sub)
    | true =>
      have e1 : op = .IsNot := e1
      subst e1
      refine ⟨⟨fun pins s σ H Q I ⟨S, G, R, h⟩ => (pe_cmp (pc_notN p1)).run pins s σ H Q I ?_⟩, ⟨fun pins s σ H Q I ⟨S, G, R, h⟩ => (pt_cmp (pc_notN p1)).run pins s σ H Q I ?_⟩, fun z => nomatch z⟩
      · rw [evE] at h
        refine rd_bind R h fun d k v G1 H1 _ E1 r1 R1 h1 => ?_
        refine h1.fin R1.sub ?_
        rw [val r1]
        cases d <;> exact .bl _
      · rw [evE] at h
        refine rd_bindT R h fun d k v G1 H1 _ E1 r1 R1 h1 => ?_
        refine ⟨_, rfl, ?_⟩
        rw [val r1]
        cases d <;> exact h1 G1 H1 (Ext.refl R1.sub)
  | [], _, hc => exact absurd hc Bool.false_ne_true
  | [_], [], hc => exact absurd hc Bool.false_ne_true
  | [_], _ :: _ :: _, hc => exact absurd hc (by simp [chkE])
  | _ :: _ :: _, _, hc => exact absurd hc (by simp [chkE])

theorem and_core {X : Cx} {cl : Str → Value} {W : WX} {a b : ME} {σ : L2.St} {H : Hp} {Q : Bool → Hp → Prop} {S : List SV} {G : Hp} (R : EvRel X.K S σ G H) (h : Kt cl W σ G H (evE (.and a b) S) Q) :
    tAnd (rdT X.K cl W a) (rdT X.K cl W b) σ H Q := by
  rw [evE] at h
  refine rdT_bindT R h (fun d k z => by cases d <;> first | rfl | exact absurd rfl (z _)) fun b' k' G1 H1 _ E1 R1 h1 => ?_
  cases b' with
  | false => exact iteF (h1 G1 H1 (Ext.refl R1.sub))
  | true =>
    refine iteT (rdT_bindT R1 h1 (fun d k z => by cases d <;> first | rfl | exact absurd rfl (z _)) fun b2 k2 G2 H2 _ E2 R2 h2 => ?_)
    exact h2 G2 H2 (Ext.refl R2.sub)
theorem or_core {X : Cx} {cl : Str → Value} {W : WX} {a b : ME} {σ : L2.St} {H : Hp} {Q : Bool → Hp → Prop} {S : List SV} {G : Hp} (R : EvRel X.K S σ G H) (h : Kt cl W σ G H (evE (.or a b) S) Q) :
    tOr (rdT X.K cl W a) (rdT X.K cl W b) σ H Q := by
  rw [evE] at h
  refine rdT_bindT R h (fun d k z => by cases d <;> first | rfl | exact absurd rfl (z _)) fun b' k' G1 H1 _ E1 R1 h1 => ?_
  cases b' with
  | true => exact iteT (h1 G1 H1 (Ext.refl R1.sub))
  | false =>
    refine iteF (rdT_bindT R1 h1 (fun d k z => by cases d <;> first | rfl | exact absurd rfl (z _)) fun b2 k2 G2 H2 _ E2 R2 h2 => ?_)
    exact h2 G2 H2 (Ext.refl R2.sub)
theorem and_coreV {X : Cx} {cl : Str → Value} {W : WX} {a b : ME} {σ : L2.St} {H : Hp} {Q : VK} {S : List SV} {G : Hp} (R : EvRel X.K S σ G H) (h : Kx X.K cl W σ G H (evE (.and a b) S) Q) :
    tAndV (rd X.K cl W a) (rd X.K cl W b) σ H Q := by
  rw [evE] at h
  refine rd_bind R h fun d k v G1 H1 ev1 E1 r1 R1 h1 => ?_
  cases d <;> try exact False.elim h1
  rename_i b'
  obtain rfl := r1.bl
  clear ev1
  cases b' with
  | false => exact ⟨false, rfl, iteF (h1.fin R1.sub (.bl false))⟩
  | true =>
    refine ⟨true, rfl, iteT (rd_bind R1 h1 fun d2 k2 v2 G2 H2 _ E2 r2 R2 h2 => ?_)⟩
    cases d2 <;> try exact False.elim h2
    exact h2.fin R2.sub (r2.rep (by intro ds e; cases e))
theorem or_coreV {X : Cx} {cl : Str → Value} {W : WX} {a b : ME} {σ : L2.St} {H : Hp} {Q : VK} {S : List SV} {G : Hp} (R : EvRel X.K S σ G H) (h : Kx X.K cl W σ G H (evE (.or a b) S) Q) :
    tOrV (rd X.K cl W a) (rd X.K cl W b) σ H Q := by
  rw [evE] at h
  refine rd_bind R h fun d k v G1 H1 ev1 E1 r1 R1 h1 => ?_
  cases d <;> try exact False.elim h1
  rename_i b'
  obtain rfl := r1.bl
  clear ev1
  cases b' with
  | true => exact ⟨true, rfl, iteT (h1.fin R1.sub (.bl true))⟩
  | false =>
    refine ⟨false, rfl, iteF (rd_bind R1 h1 fun d2 k2 v2 G2 H2 _ E2 r2 R2 h2 => ?_)⟩
    cases d2 <;> try exact False.elim h2
    exact h2.fin R2.sub (r2.rep (by intro ds e; cases e))
theorem snd_and {a b : ME} (ia : Snd a) (ib : Snd b) : Snd (.and a b) := by
  intro X N sc cl W k e x hc hf hg
  obtain ⟨f1, f2⟩ := AllC.app (show AllC _ (callsE a ++ callsE b) from hf)
  obtain ⟨g1, g2⟩ := AllC.app (show AllC _ (glosE a ++ glosE b) from hg)
  cases e <;> try exact absurd hc Bool.false_ne_true
  rename_i op vs pos
  match op, vs, hc with
  | .And, [l, r], hc =>
    have hc : (chkE N a sc l && chkE N b sc r) = true := hc
    rw [Bool.and_eq_true] at hc
    have p1 := ia X N sc cl W k l x hc.1 f1 g1
    have p2 := ib X N sc cl W k r x hc.2 f2 g2
    have pw : PW X (.BoolOp .And [l, r] pos) (rdT X.K cl W (.and a b)) := pw_imp (pw_and p1.2.1 (pw_and1 p2.2.1)) fun σ H Q ⟨S, G, R, h⟩ => and_core R h
    exact ⟨pe_imp (pe_and p1.1 (pe_one p2.1)) fun σ H Q ⟨S, G, R, h⟩ => and_coreV R h, pw.pt, fun _ => pw⟩
  | .And, l :: r :: q :: t, hc =>
    have hc : (chkE N a sc l && chkE N b sc (.BoolOp .And (r :: q :: t) pos)) = true := hc
    rw [Bool.and_eq_true] at hc
    have p1 := ia X N sc cl W k l x hc.1 f1 g1
    have p2 := ib X N sc cl W k _ x hc.2 f2 g2
    have pw : PW X (.BoolOp .And (l :: r :: q :: t) pos) (rdT X.K cl W (.and a b)) := pw_imp (pw_and p1.2.1 (p2.2.2 rfl)) fun σ H Q ⟨S, G, R, h⟩ => and_core R h
    exact ⟨pe_imp (pe_and p1.1 p2.1) fun σ H Q ⟨S, G, R, h⟩ => and_coreV R h, pw.pt, fun _ => pw⟩
  | .And, [], hc => exact absurd hc Bool.false_ne_true
  | .And, [_], hc => exact absurd hc Bool.false_ne_true
  | .Or, _, hc => exact absurd hc (by simp [chkE])
theorem snd_or {a b : ME} (ia : Snd a) (ib : Snd b) : Snd (.or a b) := by
  intro X N sc cl W k e x hc hf hg
  obtain ⟨f1, f2⟩ := AllC.app (show AllC _ (callsE a ++ callsE b) from hf)
  obtain ⟨g1, g2⟩ := AllC.app (show AllC _ (glosE a ++ glosE b) from hg)
  cases e <;> try exact absurd hc Bool.false_ne_true
  rename_i op vs pos
  match op, vs, hc with
  | .Or, [l, r], hc =>
    have hc : (chkE N a sc l && chkE N b sc r) = true := hc
    rw [Bool.and_eq_true] at hc
    have p1 := ia X N sc cl W k l x hc.1 f1 g1
    have p2 := ib X N sc cl W k r x hc.2 f2 g2
    have pw : PW X (.BoolOp .Or [l, r] pos) (rdT X.K cl W (.or a b)) := pw_imp (pw_or p1.2.1 (pw_or1 p2.2.1)) fun σ H Q ⟨S, G, R, h⟩ => or_core R h
    exact ⟨pe_imp (pe_or p1.1 (pe_one p2.1)) fun σ H Q ⟨S, G, R, h⟩ => or_coreV R h, pw.pt, fun _ => pw⟩
  | .Or, l :: r :: q :: t, hc =>
    have hc : (chkE N a sc l && chkE N b sc (.BoolOp .Or (r :: q :: t) pos)) = true := hc
    rw [Bool.and_eq_true] at hc
    have p1 := ia X N sc cl W k l x hc.1 f1 g1
    have p2 := ib X N sc cl W k _ x hc.2 f2 g2
    have pw : PW X (.BoolOp .Or (l :: r :: q :: t) pos) (rdT X.K cl W (.or a b)) := pw_imp (pw_or p1.2.1 (p2.2.2 rfl)) fun σ H Q ⟨S, G, R, h⟩ => or_core R h
    exact ⟨pe_imp (pe_or p1.1 p2.1) fun σ H Q ⟨S, G, R, h⟩ => or_coreV R h, pw.pt, fun _ => pw⟩
  | .Or, [], hc => exact absurd hc Bool.false_ne_true
  | .Or, [_], hc => exact absurd hc Bool.false_ne_true
  | .And, _, hc => exact absurd hc (by simp [chkE])
theorem snd_not {a : ME} (ia : Snd a) : Snd (.not a) := by
  intro X N sc cl W k e x hc hf hg
  cases e <;> try exact absurd hc Bool.false_ne_true
  rename_i op l pos
  cases op <;> try exact absurd hc Bool.false_ne_true
  have p1 := ia X N sc cl W k l x hc hf hg
  refine ⟨pe_imp (pe_not p1.1) fun σ H Q ⟨S, G, R, h⟩ => ?_, pt_imp (pt_not p1.2.1) fun σ H Q ⟨S, G, R, h⟩ => ?_, fun z => nomatch z⟩
  · rw [evE] at h
    refine rd_bind R h fun d k v G1 H1 _ E1 r1 R1 h1 => ?_
    cases d <;> try exact False.elim h1
    obtain rfl := r1.bl
    exact ⟨_, rfl, h1.fin R1.sub (.bl _)⟩
  · rw [evE] at h
    refine rdT_bindT R h (fun d k z => by cases d <;> first | rfl | exact absurd rfl (z _)) fun b k' G1 H1 _ E1 R1 h1 => ?_
    exact h1 G1 H1 (Ext.refl R1.sub)
theorem snd_ife {c a b : ME} (ic : Snd c) (ia : Snd a) (ib : Snd b) : Snd (.ife c a b) := by
  intro X N sc cl W k e x hc hf hg
  obtain ⟨f0, f⟩ := AllC.app (show AllC _ (callsE c ++ (callsE a ++ callsE b)) from hf)
  obtain ⟨f1, f2⟩ := AllC.app f
  obtain ⟨g0, g⟩ := AllC.app (show AllC _ (glosE c ++ (glosE a ++ glosE b)) from hg)
  obtain ⟨g1, g2⟩ := AllC.app g
  cases e <;> try exact absurd hc Bool.false_ne_true
  rename_i d l r pos
  have hc : (chkE N c sc d && chkE N a sc l && chkE N b sc r) = true := hc
  rw [Bool.and_eq_true, Bool.and_eq_true] at hc
  have p0 := ic X N sc cl W k d x hc.1.1 f0 g0
  have p1 := ia X N sc cl W k l x hc.1.2 f1 g1
  have p2 := ib X N sc cl W k r x hc.2 f2 g2
  refine ⟨pe_imp (pe_ifExp p0.2.1 p1.1 p2.1) fun σ H Q ⟨S, G, R, h⟩ => ?_, ?_, fun z => nomatch z⟩
  · rw [evE] at h
    refine rdT_bind R h (fun d k z => by cases d <;> first | rfl | exact absurd rfl (z _)) fun b' k' G1 H1 _ E1 R1 h1 => ?_
    cases b' with
    | true => exact iteT ⟨S, G1, R1, h1⟩
    | false => exact iteF ⟨S, G1, R1, h1⟩
  · refine ⟨fun pins s σ H Q I ⟨S, G, R, h⟩ => ?_⟩
    refine isTrue_IfExp ?_
    have go : rdT X.K cl W c σ H (fun bb H1 => if bb = true then rdT X.K cl W a σ H1 Q else rdT X.K cl W b σ H1 Q) := by
      rw [evE] at h
      refine rdT_bindT R h (fun d k z => by cases d <;> first | rfl | exact absurd rfl (z _)) fun b' k' G1 H1 _ E1 R1 h1 => ?_
      cases b' with
      | true => exact iteT ⟨S, G1, R1, h1⟩
      | false => exact iteF ⟨S, G1, R1, h1⟩
    refine thn (p0.2.1.run pins s σ H _ I go) fun bb s1 ⟨H1, I1, q1⟩ => ?_
    cases bb with
    | true => exact p1.2.1.run pins s1 σ H1 Q I1 q1
    | false => exact p2.2.1.run pins s1 σ H1 Q I1 q1
end MP
set_option Elab.async false
set_option linter.all false
set_option maxRecDepth 100000
set_option maxHeartbeats 4000000
namespace MP
open PySem PySem.Spec PyProof.Rows L2 RT

/-! ### lists of a call's arguments taken among the plain data -/
def tops : List V → List (D × Kd) → List Addr
  | .ref p :: vs, r :: rs => if r.2 = .sh then tops vs rs else p :: tops vs rs
  | _ :: vs, _ :: rs => tops vs rs
  | _, _ => []
def over (G H : Hp) (L : List Addr) : Hp := fun b => match G b with
  | some o => some o
  | none => if b ∈ L then H b else none
section
variable {K : PySem.W.Frag} {G H G1 H1 Hs : Hp} {L : List Addr}
theorem over_same : Same G (over G H L) := fun b o q => by
  unfold over
  rw [q]
theorem over_at {p : Addr} (g : G p = none) (h : p ∈ L) : over G H L p = H p := by
  unfold over
  rw [g]
  exact if_pos h
theorem over_sub (s : Same G H) : Same (over G H L) H := fun b o q => by
  cases e : G b with
  | some u =>
    have z : over G H L b = some u := over_same b u e
    rw [z] at q
    rw [← q]
    exact s _ _ e
  | none =>
    unfold over at q
    rw [e] at q
    by_cases z : b ∈ L
    · simp only [z, if_true] at q
      exact q
    · simp only [z, if_false] at q
      cases q
theorem over_ext (e : Ext G H G1 H1) (hL : ∀ p ∈ L, H p = none) : Ext G H (over G1 H1 L) H1 := ⟨e.g.trans over_same, e.h, over_sub e.sub, fun b o q n => by
  cases z : G1 b with
  | some u => exact e.new b u z n
  | none =>
    unfold over at q
    rw [z] at q
    by_cases y : b ∈ L
    · exact hL b y
    · simp only [y, if_false] at q
      cases q⟩
theorem over_rep : ∀ {vs : List V} {rs : List (D × Kd)}, VRs K Hs G H vs rs → (∀ p ∈ tops vs rs, p ∈ L) → RepL K (over G H L) vs (args1 rs)
  | [], [], _, _ => .nil
  | v :: vs, (d, k) :: rs, h, hl => by
    obtain ⟨h1, h2⟩ := h
    have sub : ∀ p ∈ tops vs rs, p ∈ L := fun p hp => hl p (by
      cases v <;> simp only [tops] <;> first
        | exact hp
        | (split <;> first | exact hp | exact List.mem_cons_of_mem _ hp))
    refine .cons ?_ (over_rep h2 sub)
    cases k with
    | sh => exact Rep.mono over_same h1
    | fr =>
      rcases h1 with ⟨p, xs, ds, rfl, e2, h0, h1, g, r⟩ | h1
      · have e2 : d = .lst ds := e2
        subst e2
        refine .lst ?_ (r.mono over_same)
        rw [over_at g (hl p (by simp [tops]))]
        exact h1
      · exact Rep.mono over_same h1.rep
    | bo =>
      obtain ⟨p, xs, ds, rfl, e2, h1, g, r⟩ := h1
      have e2 : d = .lst ds := e2
      subst e2
      refine .lst ?_ (r.mono over_same)
      rw [over_at g (hl p (by simp [tops]))]
      exact h1
  | [], _ :: _, h, _ => False.elim h
  | _ :: _, [], h, _ => False.elim h
theorem tops_fresh : ∀ {vs : List V} {rs : List (D × Kd)}, VRs K Hs G H vs rs → hasBo rs = false → ∀ p ∈ tops vs rs, Hs p = none
  | [], [], _, _, p, hp => by simp [tops] at hp
  | v :: vs, (d, k) :: rs, h, hb, p, hp => by
    obtain ⟨h1, h2⟩ := h
    have hb' : (decide (k = .bo) || hasBo rs) = false := hb
    rw [Bool.or_eq_false_iff] at hb'
    have ih := tops_fresh h2 hb'.2
    cases k with
    | sh =>
      cases v <;> exact ih p (by simpa [tops] using hp)
    | fr =>
      rcases h1 with ⟨q, xs, ds, rfl, e2, h0, _⟩ | h1
      · have hp' : p = q ∨ p ∈ tops vs rs := by simpa [tops] using hp
        rcases hp' with rfl | hp'
        · exact h0
        · exact ih p hp'
      · obtain ⟨q, zs, rfl, h0, _⟩ := h1.top
        have hp' : p = q ∨ p ∈ tops vs rs := by simpa [tops] using hp
        rcases hp' with rfl | hp'
        · exact h0
        · exact ih p hp'
    | bo => exact absurd hb'.1 (by simp)
  | [], _ :: _, h, _, _, _ => False.elim h
  | _ :: _, [], h, _, _, _ => False.elim h
theorem VRs.len : ∀ {vs : List V} {rs : List (D × Kd)}, VRs K Hs G H vs rs → vs.length = rs.length
  | [], [], _ => rfl
  | _ :: _, _ :: _, h => by rw [List.length_cons, List.length_cons, VRs.len h.2]
  | [], _ :: _, h => False.elim h
  | _ :: _, [], h => False.elim h
/-- none of them a list of the def's own: all taken -/
theorem VRs.fix {vs : List V} {rs : List (D × Kd)} (e : Ext G H G1 H1) (h : VRs K H G1 H1 vs rs) (hb : hasBo rs = false) : ∃ G2, Ext G H G2 H1 ∧ Same G1 G2 ∧ RepL K G2 vs (args1 rs) :=
  ⟨over G1 H1 (tops vs rs), over_ext e (tops_fresh h hb), over_same, over_rep h fun _ z => z⟩
theorem seqT_but {a : Addr} {xs : List V} {L : List Addr} {G1 G' : Hp} (hL : ∀ p ∈ L, G1 p = none → ∃ ys, G' p = some (.lst ys)) (h : SqT K G' a xs) : SqT K (fun b => if b ∈ L ∧ G1 b = none then none else G' b) a xs := by
  have key : ∀ o, G' a = some o → (∀ ys, o ≠ .lst ys) → (if a ∈ L ∧ G1 a = none then none else G' a) = some o := fun o e ho => by
    split
    · rename_i z
      obtain ⟨ys, hy⟩ := hL a z.1 z.2
      rw [e] at hy
      cases hy
      exact absurd rfl (ho ys)
    · exact e
  rcases h with (h | ⟨o, h⟩) | h
  · exact .inl (.inl (key _ h fun _ z => by cases z))
  · exact .inl (.inr ⟨o, key _ h fun _ z => by cases z⟩)
  · exact .inr h
mutual
theorem noL_rep {L : List Addr} {G1 G' : Hp} (hL : ∀ p ∈ L, G1 p = none → ∃ ys, G' p = some (.lst ys)) : ∀ {v : V} {d : D}, Rep K G' v d → noL d = true → Rep K (fun b => if b ∈ L ∧ G1 b = none then none else G' b) v d
  | _, _, .non, _ => .non
  | _, _, .bl b, _ => .bl b
  | _, _, .int i, _ => .int i
  | _, _, .str i, _ => .str i
  | _, _, .tup h r, z => .tup (seqT_but hL h) (noLs_rep hL r (by unfold noL at z; exact z))
  | _, _, .lst h r, z => by unfold noL at z; cases z
  | _, _, .scr h, z => by unfold noL at z; cases z
  | _, _, .ob _ _ _ _ _ _, z => by unfold noL at z; cases z
theorem noLs_rep {L : List Addr} {G1 G' : Hp} (hL : ∀ p ∈ L, G1 p = none → ∃ ys, G' p = some (.lst ys)) : ∀ {v : List V} {d : List D}, RepL K G' v d → noLs d = true → RepL K (fun b => if b ∈ L ∧ G1 b = none then none else G' b) v d
  | _, _, .nil, _ => .nil
  | _, _, .cons h r, z => by
    unfold noLs at z
    rw [Bool.and_eq_true] at z
    exact .cons (noL_rep hL h z.1) (noLs_rep hL r z.2)
end
/-- the borrowed lists are lists -/
theorem tops_lst : ∀ {vs : List V} {rs : List (D × Kd)}, VRs K Hs G H vs rs → ∀ p ∈ tops vs rs, G p = none → ∃ ys, H p = some (.lst ys)
  | [], [], _, p, hp, _ => by simp [tops] at hp
  | v :: vs, (d, k) :: rs, h, p, hp, g => by
    obtain ⟨h1, h2⟩ := h
    have ih := tops_lst h2
    cases k with
    | sh =>
      cases v <;> exact ih p (by simpa [tops] using hp) g
    | fr =>
      rcases h1 with ⟨q, xs, ds, rfl, e2, h0, e3, _⟩ | h1
      · have hp' : p = q ∨ p ∈ tops vs rs := by simpa [tops] using hp
        rcases hp' with rfl | hp'
        · exact ⟨_, e3⟩
        · exact ih p hp' g
      · obtain ⟨q, zs, rfl, _, h0⟩ := h1.top
        have hp' : p = q ∨ p ∈ tops vs rs := by simpa [tops] using hp
        rcases hp' with rfl | hp'
        · rw [g] at h0; cases h0
        · exact ih p hp' g
    | bo =>
      obtain ⟨q, xs, ds, rfl, e2, e3, _⟩ := h1
      have hp' : p = q ∨ p ∈ tops vs rs := by simpa [tops] using hp
      rcases hp' with rfl | hp'
      · exact ⟨_, e3⟩
      · exact ih p hp' g
  | [], _ :: _, h, _, _, _ => False.elim h
  | _ :: _, [], h, _, _, _ => False.elim h
end

theorem snd_sub {a b : ME} (ia : Snd a) (ib : Snd b) : Snd (.sub a b) := by
  intro X N sc cl W k e x hc hf hg
  cases e <;> try exact absurd hc Bool.false_ne_true
  rename_i l r pos
  have hc : (chkE N a sc l && chkE N b sc r) = true := hc
  rw [Bool.and_eq_true] at hc
  obtain ⟨f1, f2⟩ := AllC.app (show AllC _ (callsE a ++ callsE b) from hf)
  obtain ⟨g1, g2⟩ := AllC.app (show AllC _ (glosE a ++ glosE b) from hg)
  have p1 := (ia X N sc cl W k l x hc.1 f1 g1).1
  have p2 := (ib X N sc cl W k r x hc.2 f2 g2).1
  refine three ⟨fun pins s σ H Q I ⟨S, G, R, h⟩ => (pe_ix (ix_any (cl := cl) (W := W) (σ0 := σ)) p1 p2 (chk_plainIx hc.2)).run pins s σ H Q I ?_⟩ (fun _ => rfl) rfl
  rw [evE] at h
  refine rd_bind R h fun d k v G1 H1 _ E1 r1 R1 h1 => rd_bind R1 h1 fun d2 k2 v2 G2 H2 _ E2 r2 R2 h2 => ?_
  exact ⟨d, k, d2, k2, H, G2, E2.sub, r1.ext E2, r2.old E1.h, h2⟩
theorem snd_slLo {a b : ME} (ia : Snd a) (ib : Snd b) : Snd (.slLo a b) := by
  intro X N sc cl W k e x hc hf hg
  cases e <;> try exact absurd hc Bool.false_ne_true
  rename_i l r pos
  match r, hc with
  | .Slice (some f) none none p2, hc =>
    have hc : (chkE N a sc l && chkE N b sc f) = true := hc
    rw [Bool.and_eq_true] at hc
    obtain ⟨f1, f2⟩ := AllC.app (show AllC _ (callsE a ++ callsE b) from hf)
    obtain ⟨g1, g2⟩ := AllC.app (show AllC _ (glosE a ++ glosE b) from hg)
    have p1 := (ia X N sc cl W k l x hc.1 f1 g1).1
    have p2 := (ib X N sc cl W k f x hc.2 f2 g2).1
    refine three ⟨fun pins s σ H Q I ⟨S, G, R, h⟩ => (pe_slice (sl_any (cl := cl) (W := W) (σ0 := σ)) p1 (po_some p2) po_none).run pins s σ H Q I ?_⟩ (fun _ => rfl) rfl
    rw [evE] at h
    refine rd_bind R h fun d k v G1 H1 _ E1 r1 R1 h1 => rd_bind R1 h1 fun d2 k2 v2 G2 H2 _ E2 r2 R2 h2 => ?_
    cases d2 <;> try exact False.elim h2
    obtain rfl := r2.int
    exact ⟨_, rfl, ⟨d, k, H, G2, E2.sub, r1.ext E2, h2⟩⟩
theorem snd_slHi {a b : ME} (ia : Snd a) (ib : Snd b) : Snd (.slHi a b) := by
  intro X N sc cl W k e x hc hf hg
  cases e <;> try exact absurd hc Bool.false_ne_true
  rename_i l r pos
  match r, hc with
  | .Slice none (some f) none p2, hc =>
    have hc : (chkE N a sc l && chkE N b sc f) = true := hc
    rw [Bool.and_eq_true] at hc
    obtain ⟨f1, f2⟩ := AllC.app (show AllC _ (callsE a ++ callsE b) from hf)
    obtain ⟨g1, g2⟩ := AllC.app (show AllC _ (glosE a ++ glosE b) from hg)
    have p1 := (ia X N sc cl W k l x hc.1 f1 g1).1
    have p2 := (ib X N sc cl W k f x hc.2 f2 g2).1
    refine three ⟨fun pins s σ H Q I ⟨S, G, R, h⟩ => (pe_slice (sl_any (cl := cl) (W := W) (σ0 := σ)) p1 po_none (po_some p2)).run pins s σ H Q I ?_⟩ (fun _ => rfl) rfl
    rw [evE] at h
    refine rd_bind R h fun d k v G1 H1 _ E1 r1 R1 h1 => rd_bind R1 h1 fun d2 k2 v2 G2 H2 _ E2 r2 R2 h2 => ?_
    cases d2 <;> try exact False.elim h2
    obtain rfl := r2.int
    exact ⟨_, rfl, ⟨d, k, H, G2, E2.sub, r1.ext E2, h2⟩⟩
theorem snd_sl {a b c : ME} (ia : Snd a) (ib : Snd b) (ic : Snd c) : Snd (.sl a b c) := by
  intro X N sc cl W k e x hc hf hg
  cases e <;> try exact absurd hc Bool.false_ne_true
  rename_i l r pos
  match r, hc with
  | .Slice (some f) (some g) none p2, hc =>
    have hc : (chkE N a sc l && chkE N b sc f && chkE N c sc g) = true := hc
    rw [Bool.and_eq_true, Bool.and_eq_true] at hc
    obtain ⟨f1, ff⟩ := AllC.app (show AllC _ (callsE a ++ (callsE b ++ callsE c)) from hf)
    obtain ⟨f2, f3⟩ := AllC.app ff
    obtain ⟨g1, gg⟩ := AllC.app (show AllC _ (glosE a ++ (glosE b ++ glosE c)) from hg)
    obtain ⟨g2, g3⟩ := AllC.app gg
    have p1 := (ia X N sc cl W k l x hc.1.1 f1 g1).1
    have p2 := (ib X N sc cl W k f x hc.1.2 f2 g2).1
    have p3 := (ic X N sc cl W k g x hc.2 f3 g3).1
    refine three ⟨fun pins s σ H Q I ⟨S, G, R, h⟩ => (pe_slice (sl_any (cl := cl) (W := W) (σ0 := σ)) p1 (po_some p2) (po_some p3)).run pins s σ H Q I ?_⟩ (fun _ => rfl) rfl
    rw [evE] at h
    refine rd_bind R h fun d k v G1 H1 _ E1 r1 R1 h1 => rd_bind R1 h1 fun d2 k2 v2 G2 H2 _ E2 r2 R2 h2 => ?_
    cases d2 with
    | int i =>
      obtain rfl := r2.int
      refine ⟨_, rfl, rd_bind R2 h2 fun d3 k3 v3 G3 H3 _ E3 r3 R3 h3 => ?_⟩
      cases d3 <;> try exact False.elim h3
      obtain rfl := r3.int
      exact ⟨_, rfl, ⟨d, k, H, G3, E3.sub, (r1.ext E2).ext E3, h3⟩⟩
    | _ => exact False.elim h2
theorem evEs_len : ∀ {es : List ME} {S : List SV} {rs : List (D × Kd)}, evEs es S = .ok rs → rs.length = es.length
  | [], _, _, h => by
    rw [evEs] at h
    cases h
    rfl
  | e :: es, S, rs, h => by
    rw [evEs] at h
    cases e1 : evE e S with
    | stuck => rw [e1] at h; cases h
    | exc => rw [e1] at h; cases h
    | ok r =>
      rw [e1] at h
      have h : ((evEs es S).bind fun rs => Res.ok (r :: rs)) = .ok rs := h
      cases e2 : evEs es S with
      | stuck => rw [e2] at h; cases h
      | exc => rw [e2] at h; cases h
      | ok r2 =>
        rw [e2] at h
        cases h
        rw [List.length_cons, List.length_cons, evEs_len e2]
theorem snd_call (y : Str) (f : Fn) {es : List ME} (ie : SndA es) : Snd (.call y f es) := by
  intro X N sc cl W k e x hc hf hg
  cases e <;> try exact absurd hc Bool.false_ne_true
  rename_i fn as kws pos
  match fn, as, kws, hc with
  | .Name z zp, a :: as, [], hc =>
    have hc : (decide (y = z) && glE sc y && chkEs N es sc (a :: as)) = true := hc
    rw [Bool.and_eq_true, Bool.and_eq_true, decide_eq_true_eq] at hc
    obtain ⟨⟨e1, hc1⟩, hc2⟩ := hc
    subst e1
    obtain ⟨gl1, gl2⟩ := glE_ok x hc1
    obtain ⟨⟨fa, fd, ps, m1, F, kp, bb⟩, ff⟩ := (show GoodFn X.prog X.w X.K X.mg X.base cl k (.fn y es.length f) ∧ AllC _ (callsEs es) from hf)
    have pa := ie X N sc cl W k _ x hc2 ff hg
    have hst : starEach (a :: as) X.env = (false, eval a X.env) :: starEach as X.env := by
      cases es with
      | nil => exact absurd hc2 Bool.false_ne_true
      | cons m ms =>
        have hc2 : (chkE N m sc a && chkEs N ms sc as) = true := hc2
        rw [Bool.and_eq_true] at hc2
        exact chk_star hc2.1
    have hbk : (backTo pos (starEach as X.env)).any (·.1) = false := by
      cases es with
      | nil => exact absurd hc2 Bool.false_ne_true
      | cons m ms =>
        have hc2 : (chkE N m sc a && chkEs N ms sc as) = true := hc2
        rw [Bool.and_eq_true] at hc2
        exact chks_back hc2.2
    refine three (pe_imp (pe_callS F x.room gl1 m1 kp bb (fun σ => passAt x.tk σ) pa gl2 hst hbk) fun σ H Q ⟨S, G, R, h⟩ => ?_) (fun _ => rfl) rfl
    rw [evE] at h
    refine rdA_bind R h fun rs vs G1 H1 ee E1 rr R1 h1 => ?_
    have hlen : vs.length = es.length := by
      rw [rr.len]
      exact evEs_len ee
    refine ⟨hlen, ?_⟩
    cases hb : hasBo rs with
    | false =>
      obtain ⟨G2, E2, s2, rp⟩ := rr.fix E1 hb
      refine ⟨G2, _, E2.sub, rp, ?_⟩
      try dsimp only
      cases ef : f (args1 rs) with
      | stuck => rw [ef] at h1; exact h1
      | exc c =>
        rw [ef] at h1
        exact fun G' H' E' => h1 G' H' (E2.trans E')
      | ok r =>
        rw [ef] at h1
        simp only [Res.bind, hb, Bool.false_eq_true, if_false] at h1
        exact fun v G' H' E' q => h1 v G' H' (E2.trans E') (VR.old E2.h q)
    | true =>
      refine ⟨over G1 H1 (tops vs rs), _, over_sub E1.sub, over_rep rr fun _ z => z, ?_⟩
      try dsimp only
      have hL : ∀ {G' H' : Hp}, Ext (over G1 H1 (tops vs rs)) H1 G' H' → ∀ p ∈ tops vs rs, G1 p = none → ∃ ys, G' p = some (.lst ys) := fun {G' H'} E' p hp g => by
        obtain ⟨ys, hy⟩ := tops_lst rr p hp g
        exact ⟨ys, E'.g _ _ ((over_at g hp).trans hy)⟩
      have mk : ∀ {G' H' : Hp}, Ext (over G1 H1 (tops vs rs)) H1 G' H' → Ext G H (fun b => if b ∈ tops vs rs ∧ G1 b = none then none else G' b) H' := fun {G' H'} E' => ⟨fun b o q => by
        have z := E1.g b o q
        show (if b ∈ tops vs rs ∧ G1 b = none then none else G' b) = _
        rw [if_neg (fun y => by rw [z] at y; cases y.2)]
        exact E'.g b o (over_same b o z), E1.h.trans E'.h, fun b o q => by
        replace q : (if b ∈ tops vs rs ∧ G1 b = none then none else G' b) = some o := q
        split at q
        · cases q
        · exact E'.sub b o q, fun b o q n => by
        replace q : (if b ∈ tops vs rs ∧ G1 b = none then none else G' b) = some o := q
        split at q
        · cases q
        · rename_i y
          cases z : G1 b with
          | some u => exact E1.new b u z n
          | none =>
            refine E1.h.free (E'.new b o q ?_)
            unfold over
            rw [z]
            exact if_neg fun m => y ⟨m, z⟩⟩
      cases ef : f (args1 rs) with
      | stuck => rw [ef] at h1; exact h1
      | exc c =>
        rw [ef] at h1
        exact fun G' H' E' => h1 _ H' (mk E')
      | ok r =>
        rw [ef] at h1
        simp only [Res.bind, hb, if_true] at h1
        split at h1
        · rename_i hz
          intro v G' H' E' q
          refine h1 v _ H' (mk E') ?_
          obtain ⟨d, fr⟩ := r
          cases fr with
          | false =>
            have hz : noL d = true := by cases d <;> exact hz
            exact noL_rep (hL E') q hz
          | true =>
            rcases q with ⟨p, xs, ds, e1, e2, h0, h2, h3, rp⟩ | q
            rotate_left
            · obtain ⟨_, e2⟩ := q.isTup
              have e2 : d = .tup _ := e2
              subst e2
              cases hz
            have e2 : d = .lst ds := e2
            subst e2
            refine .inl ⟨p, xs, ds, e1, rfl, E1.h.free h0, h2, ?_, noLs_rep (hL E') rp hz⟩
            show (if p ∈ tops vs rs ∧ G1 p = none then none else G' p) = none
            split
            · rfl
            · exact h3
        · exact False.elim h1
/-- a list of an object -/
theorem snd_attr (i : Nat) (w : Bool) : Snd (.attr i w) := by
  intro X N sc cl W k e x hc hf hg
  unfold chkE at hc
  split at hc
  case h_2 => exact absurd hc Bool.false_ne_true
  rename_i z zp y pos
  rw [Bool.and_eq_true, decide_eq_true_eq] at hc
  obtain ⟨hy, hv⟩ := hc
  obtain ⟨v1, v2, v3, v4⟩ := visE_ok x hv
  refine three (pe_imp (pe_fld (pe_var v1 v2 v3 v4) rfl) fun σ H Q ⟨S, G, R, h⟩ => ?_) (fun _ => rfl) rfl
  rw [evE] at h
  split at h
  · rename_i d hS
    obtain ⟨v, e1, r⟩ := R.sl i _ hS
    cases d <;> try exact False.elim h
    rename_i rows cls
    cases r with
    | ob hC ha hr hcl r1 r2 =>
      cases w with
      | false =>
        have hy : y = "rows" := hy
        subst hy
        exact ⟨_, e1, _, _, _, _, _, rfl, R.sub _ _ ha, hC.cl, hC.nR, spF_rows _ _, h.fin R.sub (.lst hr r1)⟩
      | true =>
        have hy : y = "cleared" := hy
        subst hy
        exact ⟨_, e1, _, _, _, _, _, rfl, R.sub _ _ ha, hC.cl, hC.nC, spF_cleared _ _, h.fin R.sub (.lst hcl r2)⟩
  · exact False.elim h
theorem isOb_ob {d : D} (h : isOb d = true) : ∃ rows cl, d = .ob rows cl := by
  cases d <;> first
    | exact ⟨_, _, rfl⟩
    | (unfold isOb at h; cases h)
theorem meth_ht {z y : Str} {zp ap pos : Pos} {a : Expr} {env : Env} (hst : starEach [a] env = (false, eval a env) :: starEach [] env) (hl : (ap.endLine == pos.line) = true) :
    eval (.Call (.Attribute (.Name z zp) y ap) [a] [] pos) env = (do
      let ov ← eval (.Name z zp) env
      standAt ap.atName
      let (f, first) ← holding [ov] (getMethod ov y (do return (← importBound (.Name z zp) env).getD true))
      callWith pos f first (backTo pos (starEach [a] env)) (backToKw pos (keywordEach [] env))) := by
  rw [arm_eval_Call]
  have hbase : attributeBase (.Name z zp) y env (eval (.Name z zp) env) = eval (.Name z zp) env := rfl
  have hform : methodCallForm ([a].length + ([] : List Keyword).length) (backTo pos (starEach [a] env)) (backToKw pos (keywordEach [] env)) = true := by
    rw [hst]; rfl
  rw [hbase]
  unfold methodCall
  rw [hform]
  unfold calleeOf methodCallPos
  simp only [hl, if_true, Bool.not_true, Bool.or_true]
  rfl
/-- a method that reads its object -/
theorem snd_mcall (i : Nat) (y : Str) (f : Fn) {m : ME} (ie : Snd m) : Snd (.mcall i y f m) := by
  intro X N sc cl W k e x hc hf hg
  unfold chkE at hc
  split at hc
  case h_2 => exact absurd hc Bool.false_ne_true
  rename_i z zp y' ap a pos
  simp only [Bool.and_eq_true, decide_eq_true_eq] at hc
  obtain ⟨⟨⟨rfl, hv⟩, hl⟩, hcM⟩ := hc
  obtain ⟨v1, v2, v3, v4⟩ := visE_ok x hv
  obtain ⟨⟨C, fa, fd, ps, hC, hm, hno, F, bb⟩, ff⟩ := (show GoodFn X.prog X.w X.K X.mg X.base cl k (.mt y' 2 f) ∧ AllC _ (callsE m) from hf)
  have pe := (ie X N sc cl W k a x hcM ff hg).1
  have hst : starEach [a] X.env = (false, eval a X.env) :: starEach [] X.env := chk_star hcM
  refine three (pe_imp (pe_meth (pe_var v1 v2 v3 v4) hC.cl hm F x.room bb .nil passL (pa_cons pe pa_nil hst) hst rfl (meth_ht hst hl)) fun σ H Q ⟨S, G, R, h⟩ => ?_) (fun _ => rfl) rfl
  rw [evE] at h
  split at h
  · rename_i d hS
    obtain ⟨v, e1, r⟩ := R.sl i _ hS
    split at h
    · rename_i hob
      obtain ⟨rows, cls, rfl⟩ := isOb_ob hob
      cases r with
      | ob hC' ha hr hcl r1 r2 =>
        cases hC.uniq hC'
        refine ⟨_, e1, _, _, _, rfl, R.sub _ _ ha, hno _ _, ?_⟩
        refine ⟨S, G, R, ?_⟩
        cases ev : evE m S with
        | stuck => rw [ev] at h; exact h
        | exc c => rw [ev] at h; exact h
        | ok q =>
          rw [ev] at h
          obtain ⟨d, kd⟩ := q
          intro v G1 H1 E1 rr
          have h1 : Kx X.K cl W σ G H (if kd = Kd.bo then Res.stuck else retD (f [.ob rows cls, d])) Q := h
          split at h1
          · exact False.elim h1
          · rename_i hb
            obtain ⟨G2, E2, s2, rp⟩ := VR.fix E1 rr hb
            have rp2 : RepL X.K G2 _ [.ob rows cls, d] := .cons (.ob hC' (E2.g _ _ ha) (E2.g _ _ hr) (E2.g _ _ hcl) (r1.mono E2.g) (r2.mono E2.g)) (.cons rp .nil)
            refine ⟨rfl, G2, [.ob rows cls, d], E2.sub, rp2, ?_⟩
            cases ef : f [.ob rows cls, d] with
            | stuck => rw [ef] at h1; exact False.elim h1
            | exc c => rw [ef] at h1; exact False.elim h1
            | ok r =>
              rw [ef] at h1
              exact fun v' G' H' E' q => h1 v' G' H' (E2.trans E') (VR.old E2.h q)
    · exact False.elim h
  · exact False.elim h
end MP
set_option Elab.async false
set_option linter.all false
set_option maxRecDepth 100000
set_option maxHeartbeats 4000000
namespace MP
open PySem PySem.Spec PyProof.Rows L2 RT

section
variable {X : Cx} {N : List Str} {sc : Scope} {W : WX} {k : Nat}
theorem chks_star {es : List ME} {a : Expr} {as : List Expr} (hc : chkEs N es sc (a :: as) = true) : starEach (a :: as) X.env = (false, eval a X.env) :: starEach as X.env ∧ ∀ pos, (backTo pos (starEach as X.env)).any (·.1) = false := by
  cases es with
  | nil => exact absurd hc Bool.false_ne_true
  | cons m ms =>
    have hc : (chkE N m sc a && chkEs N ms sc as) = true := hc
    rw [Bool.and_eq_true] at hc
    exact ⟨chk_star hc.1, fun pos => chks_back hc.2⟩
end
theorem snd_blt (b : Blt) {es : List ME} (ie : SndA es) : Snd (.blt b es) := by
  intro X N sc cl W k e x hc hf hg
  cases e <;> try exact absurd hc Bool.false_ne_true
  rename_i fn as kws pos
  match fn, as, kws, hc with
  | .Name z zp, a :: as, [], hc =>
    have hc : (decide (z = bltName b) && glE sc z && chkEs N es sc (a :: as)) = true := hc
    rw [Bool.and_eq_true, Bool.and_eq_true, decide_eq_true_eq] at hc
    obtain ⟨⟨e1, hc1⟩, hc2⟩ := hc
    subst e1
    obtain ⟨gl1, gl2⟩ := glE_ok x hc1
    have pa := ie X N sc cl W k _ x hc2 hf hg
    obtain ⟨hst, hbk⟩ := chks_star (X := X) hc2
    have go : ∀ {σ : L2.St} {H : Hp} {Q : VK}, rd X.K cl W (.blt b es) σ H Q → tCB (rArgs X.K cl W σ (evBlt b)) (rdA X.K cl W es) σ H Q := fun {σ H Q} ⟨S, G, R, h⟩ => by
      rw [evE] at h
      exact rdA_bind R h fun rs vs G1 H1 ee E1 rr R1 h1 => ⟨rs, H, G1, E1.sub, rr, h1.ext E1⟩
    cases b with
    | len => exact three ⟨fun pins s σ H Q I h => (pe_callB (b_len (cl := cl) (W := W) (σ0 := σ)) gl1 x.blt.len (by decide +kernel) pa (by decide +kernel) gl2 hst (hbk _)).run pins s σ H Q I (go h)⟩ (fun _ => rfl) rfl
    | abs => exact three ⟨fun pins s σ H Q I h => (pe_callB (b_abs (cl := cl) (W := W) (σ0 := σ)) gl1 x.blt.abs (by decide +kernel) pa (by decide +kernel) gl2 hst (hbk _)).run pins s σ H Q I (go h)⟩ (fun _ => rfl) rfl
    | max => exact three ⟨fun pins s σ H Q I h => (pe_callB (b_max (cl := cl) (W := W) (σ0 := σ) x.calm) gl1 x.blt.max (by decide +kernel) pa (by decide +kernel) gl2 hst (hbk _)).run pins s σ H Q I (go h)⟩ (fun _ => rfl) rfl
    | min => exact three ⟨fun pins s σ H Q I h => (pe_callB (b_min (cl := cl) (W := W) (σ0 := σ) x.calm) gl1 x.blt.min (by decide +kernel) pa (by decide +kernel) gl2 hst (hbk _)).run pins s σ H Q I (go h)⟩ (fun _ => rfl) rfl
    | list => exact three ⟨fun pins s σ H Q I h => (pe_callTy (b_list (cl := cl) (W := W) (σ0 := σ)) gl1 x.blt.list (by decide +kernel) pa (by decide +kernel) gl2 hst (hbk _)).run pins s σ H Q I (go h)⟩ (fun _ => rfl) rfl
    | tuple => exact three ⟨fun pins s σ H Q I h => (pe_callTy (b_tuple (cl := cl) (W := W) (σ0 := σ)) gl1 x.blt.tuple (by decide +kernel) pa (by decide +kernel) gl2 hst (hbk _)).run pins s σ H Q I (go h)⟩ (fun _ => rfl) rfl
    | str => exact three ⟨fun pins s σ H Q I h => (pe_callTy (b_str (cl := cl) (W := W) (σ0 := σ)) gl1 x.blt.str (by decide +kernel) pa (by decide +kernel) gl2 hst (hbk _)).run pins s σ H Q I (go h)⟩ (fun _ => rfl) rfl
    | int => exact three ⟨fun pins s σ H Q I h => (pe_callTy (b_int (cl := cl) (W := W) (σ0 := σ)) gl1 x.blt.int (by decide +kernel) pa (by decide +kernel) gl2 hst (hbk _)).run pins s σ H Q I (go h)⟩ (fun _ => rfl) rfl

theorem boot_ty (t : Ty) : bootBuiltins (PySem.Str.ofString (tyName t)) = some (.type (tyName t)) := by
  cases t <;> decide +kernel
theorem snd_isi (t : Ty) {a : ME} (ia : Snd a) : Snd (.isi a t) := by
  intro X N sc cl W k e x hc hf hg
  cases e <;> try exact absurd hc Bool.false_ne_true
  rename_i fn as kws pos
  match fn, as, kws, hc with
  | .Name y yp, [l, .Name z zp], [], hc =>
    have hc : (decide (y = "isinstance") && decide (z = PySem.Str.ofString (tyName t)) && glE sc y && glE sc z && chkE N a sc l) = true := hc
    simp only [Bool.and_eq_true, decide_eq_true_eq] at hc
    obtain ⟨⟨⟨⟨e1, e2⟩, hc1⟩, hc2⟩, hc3⟩ := hc
    subst e1 e2
    obtain ⟨gl1, gl2⟩ := glE_ok x hc1
    obtain ⟨gt1, gt2⟩ := glE_ok x hc2
    have p1 := (ia X N sc cl W k l x hc3 hf hg).1
    have hm : X.mg (PySem.Str.ofString (tyName t)) = none := by
      cases t
      · exact x.blt.int
      · exact x.blt.bool
      · exact x.blt.tuple
      · exact x.blt.list
      · exact x.blt.str
    have pty : PE X (.Name (PySem.Str.ofString (tyName t)) zp) (tC (.ty (tyName t))) := pe_bltn gt1 hm (boot_ty t) rfl (by cases t <;> decide +kernel) gt2
    have pa : PA X [l, .Name (PySem.Str.ofString (tyName t)) zp] _ := pa_cons p1 (pa_cons pty pa_nil) (chk_star hc3)
    refine three ⟨fun pins s σ H Q I ⟨S, G, R, h⟩ => (pe_callB call_isi gl1 x.blt.isi (by decide +kernel) pa (by decide +kernel) gl2 (chk_star hc3) rfl).run pins s σ H Q I ?_⟩ (fun _ => rfl) rfl
    rw [evE] at h
    show rd X.K cl W a σ H _
    refine rd_bind R h fun d kd v G1 H1 _ E1 r1 R1 h1 => ?_
    have fin : ∀ d', d = d' → (∀ ns, d' ≠ .scr ns) → (∀ rows cl, d' ≠ .ob rows cl) → Kx X.K cl W σ G1 H1 (.ok (.bl (evIsi d' t), .sh)) Q → rIsi X.K [v, .ty (tyName t)] H1 Q := fun d' e hd ho h1 => by
      subst e
      exact ⟨v, .ty (tyName t), .type (tyOfD d), .type (tyName t), evIsi d t, rfl, .ty _, tyx R1.sub r1 hd ho, kit_ty (kit_all d t hd ho), h1.fin R1.sub (.bl _)⟩
    cases d with
    | scr ns => exact False.elim h1
    | ob rows cls => exact False.elim h1
    | _ => exact fin _ rfl (fun _ z => by cases z) (fun _ _ z => by cases z) h1

theorem snd_tup {es : List ME} (ie : SndA es) : Snd (.tup es) := by
  intro X N sc cl W k e x hc hf hg
  cases e <;> try exact absurd hc Bool.false_ne_true
  rename_i as kk pos
  have pa := ie X N sc cl W k as x hc hf hg
  refine three (pe_imp (pe_tup pa) fun σ H Q ⟨S, G, R, h⟩ => ?_) (fun _ => rfl) rfl
  rw [evE] at h
  refine rdA_bind R h fun rs vs G1 H1 ee E1 rr R1 h1 => ?_
  split at h1
  · exact False.elim h1
  · rename_i hb
    split at h1
    · rename_i hl
      obtain ⟨G2, E2, s2, rp⟩ := rr.fix E1 (by simpa using hb)
      refine ⟨by rw [rr.len, szl]; omega, fun p hp => ?_⟩
      exact h1.new (E2.trans (Ext.newG E2.sub hp)) (show Rep _ _ _ _ from .tup (SqT.of upd_same) (rp.mono (same_upd (E2.sub.free hp) _)))
    · exact False.elim h1
theorem snd_lst {es : List ME} (ie : SndA es) : Snd (.lst es) := by
  intro X N sc cl W k e x hc hf hg
  cases e <;> try exact absurd hc Bool.false_ne_true
  rename_i as pos
  have pa := ie X N sc cl W k as x hc hf hg
  refine three (pe_imp (pe_lst pa) fun σ H Q ⟨S, G, R, h⟩ => ?_) (fun _ => rfl) rfl
  rw [evE] at h
  refine rdA_bind R h fun rs vs G1 H1 ee E1 rr R1 h1 => ?_
  split at h1
  · exact False.elim h1
  · rename_i hb
    split at h1
    · rename_i hl
      obtain ⟨G2, E2, s2, rp⟩ := rr.fix E1 (by simpa using hb)
      refine ⟨by rw [rr.len, szl]; omega, fun p hp => ?_⟩
      exact h1.new (E2.trans (Ext.newH E2.sub hp)) (.inl ⟨p, _, _, rfl, rfl, E2.h.free hp, upd_same, E2.sub.free hp, rp⟩)
    · exact False.elim h1
theorem snd_nil : SndA [] := by
  intro X N sc cl W k es x hc hf hg
  cases es with
  | cons => exact absurd hc Bool.false_ne_true
  | nil =>
    refine pa_imp pa_nil fun σ H Q ⟨S, G, R, h⟩ => ?_
    rw [evEs] at h
    exact h [] G H (Ext.refl R.sub) trivial
theorem snd_cons {m : ME} {ms : List ME} (ia : Snd m) (ib : SndA ms) : SndA (m :: ms) := by
  intro X N sc cl W k es x hc hf hg
  cases es with
  | nil => exact absurd hc Bool.false_ne_true
  | cons e es =>
    have hc : (chkE N m sc e && chkEs N ms sc es) = true := hc
    rw [Bool.and_eq_true] at hc
    obtain ⟨f1, f2⟩ := AllC.app (show AllC _ (callsE m ++ callsEs ms) from hf)
    obtain ⟨g1, g2⟩ := AllC.app (show AllC _ (glosE m ++ glosEs ms) from hg)
    have p1 := (ia X N sc cl W k e x hc.1 f1 g1).1
    have p2 := ib X N sc cl W k es x hc.2 f2 g2
    refine pa_imp (pa_cons p1 p2 (chk_star hc.1)) fun σ H Q ⟨S, G, R, h⟩ => ?_
    rw [evEs] at h
    refine ⟨S, G, R, ?_⟩
    cases e1 : evE m S with
    | stuck => rw [e1] at h; exact h
    | exc c => rw [e1] at h; exact h
    | ok r =>
      rw [e1] at h
      intro v G1 H1 E1 r1
      refine ⟨S, G1, R.ext E1, ?_⟩
      cases e2 : evEs ms S with
      | stuck => simp only [Res.bind, e2] at h; exact h
      | exc c =>
        simp only [Res.bind, e2] at h
        exact fun G' H' E' => h G' H' (E1.trans E')
      | ok rs =>
        simp only [Res.bind, e2] at h
        intro vs G2 H2 E2 r2
        exact h (v :: vs) G2 H2 (E1.trans E2) ⟨r1.ext E2, VRs.old E1.h r2⟩
theorem snd_tupRev {a : ME} (ia : Snd a) : Snd (.tupRev a) := by
  intro X N sc cl W k e x hc hf hg
  unfold chkE at hc
  split at hc
  case h_2 => exact absurd hc Bool.false_ne_true
  rename_i y yp z zp f p2 pos
  have hcB : (decide (y = "tuple") && decide (z = "reversed") && glE sc y && glE sc z && chkE N a sc f) = true := hc
  simp only [Bool.and_eq_true, decide_eq_true_eq] at hcB
  obtain ⟨⟨⟨⟨rfl, rfl⟩, h1⟩, h2⟩, hcM⟩ := hcB
  have p1 := (ia X N sc cl W k f x hcM hf hg).1
  refine three (pe_imp (pe_tupRevA x.calm (glE_ok x h1).1 x.blt.tuple (glE_ok x h2).1 x.blt.rev p1 (chk_star hcM) rfl) fun σ H Q ⟨S, G, R, h⟩ => ?_) (fun _ => rfl) rfl
  rw [evE] at h
  refine rd_bind R h fun d k v G1 H1 _ E1 r1 R1 h1 => ?_
  cases d <;> try exact False.elim h1
  · obtain ⟨p, xs, rfl, t, q⟩ := r1.tup
    exact ⟨p, xs, rfl, .inr (seqT R1.sub t), fun q' hq => Kx.new h1 (Ext.newG R1.sub hq) (show Rep _ _ _ _ from .tup (SqT.of upd_same) (q.rev.mono (same_upd (R1.sub.free hq) _)))⟩
  · obtain ⟨p, xs, rfl, t, q⟩ := r1.list R1.sub
    exact ⟨p, xs, rfl, .inl (SqL.of t), fun q' hq => Kx.new h1 (Ext.newG R1.sub hq) (show Rep _ _ _ _ from .tup (SqT.of upd_same) (q.rev.mono (same_upd (R1.sub.free hq) _)))⟩
end MP
set_option Elab.async false
set_option linter.all false
set_option maxRecDepth 100000
set_option maxHeartbeats 4000000
namespace MP
open PySem PySem.Spec PyProof.Rows L2 RT

/-! ### what is walked, by its data -/
def evI (k : IK) (es : List ME) (S : List SV) : Res (List D) := (evEs es S).bind fun rs => if hasBo rs = true then .stuck else items k (args1 rs)
def Ki (K : PySem.W.Frag) (cl : Str → Value) (W : WX) (σ : L2.St) (G H : Hp) (r : Res (List D)) (R : It → Hp → Prop) : Prop := match r with
  | .ok ds => ∀ J vs G' H', Ext G H G' H' → WalkOk J G' vs → RepL K G' vs ds → R J H'
  | .exc c => ∀ G' H', Ext G H G' H' → W (cl c) none σ H'
  | .stuck => False
def rdI (K : PySem.W.Frag) (cl : Str → Value) (W : WX) (k : IK) (es : List ME) : TI := fun σ H R => ∃ S G, EvRel K S σ G H ∧ Ki K cl W σ G H (evI k es S) R
theorem pi_imp {X : Cx} {tg e : Expr} {t t' : TI} (h : PI X tg e t) (i : ∀ σ H R, t' σ H R → t σ H R) : PI X tg e t' := ⟨fun pins s σ H R I q => h.run pins s σ H R I (i σ H R q)⟩
def chkI (N : List Str) (sc : Scope) (k : IK) (es : List ME) (it : Expr) : Bool := match k, it with
  | .range1, .Call (.Name y _) [f] [] _ => decide (y = "range") && glE sc y && chkEs N es sc [f]
  | .range2, .Call (.Name y _) [f, g] [] _ => decide (y = "range") && glE sc y && chkEs N es sc [f, g]
  | .rev, .Call (.Name y _) [f] [] _ => decide (y = "reversed") && glE sc y && chkEs N es sc [f]
  | .val, f => chkEs N es sc [f]
  | _, _ => false
theorem chks_one {N : List Str} {sc : Scope} {es : List ME} {f : Expr} (h : chkEs N es sc [f] = true) : ∃ m, es = [m] ∧ chkE N m sc f = true := by
  match es, h with
  | [m], h =>
    have h : (chkE N m sc f && true) = true := h
    rw [Bool.and_true] at h
    exact ⟨m, rfl, h⟩
  | [], h => exact absurd h Bool.false_ne_true
  | m :: m2 :: ms, h =>
    have h : (chkE N m sc f && false) = true := h
    rw [Bool.and_false] at h
    cases h
theorem evI_args {k : IK} {es : List ME} {S : List SV} {K : PySem.W.Frag} {cl : Str → Value} {W : WX} {σ : L2.St} {G H : Hp} {R : It → Hp → Prop} {Q' : List V → Hp → Prop} (r : EvRel K S σ G H) (h : Ki K cl W σ G H (evI k es S) R)
    (hk : ∀ rs vs G1 H1, Ext G H G1 H1 → RepL K G1 vs (args1 rs) → Ki K cl W σ G H (items k (args1 rs)) R → Q' vs H1) : rdA K cl W es σ H Q' := by
  refine ⟨S, G, r, ?_⟩
  unfold evI at h
  cases e : evEs es S with
  | stuck => rw [e] at h; exact h
  | exc c => rw [e] at h; exact h
  | ok rs =>
    simp only [e, Res.bind] at h
    intro vs G1 H1 E1 rr
    split at h
    · exact False.elim h
    · rename_i hb
      obtain ⟨G2, E2, s2, rp⟩ := rr.fix E1 (by simpa using hb)
      exact hk rs vs G2 H1 E2 rp h
theorem sndA_of : ∀ {es : List ME}, AllC Snd es → SndA es
  | [], _ => snd_nil
  | _ :: _, h => snd_cons h.1 (sndA_of h.2)
theorem rd_one {X : Cx} {cl : Str → Value} {W : WX} {σ : L2.St} {m : ME} {k : IK} {S : List SV} {G H : Hp} {R : It → Hp → Prop} {Q' : VK} (r : EvRel X.K S σ G H) (h : Ki X.K cl W σ G H (evI k [m] S) R)
    (hk : ∀ d v G1 H1, Ext G H G1 H1 → Rep X.K G1 v d → Ki X.K cl W σ G H (items k [d]) R → Q' v H1) : rd X.K cl W m σ H Q' := by
  refine ⟨S, G, r, ?_⟩
  unfold evI at h
  rw [evEs] at h
  cases e : evE m S with
  | stuck => rw [e] at h; exact h
  | exc c => rw [e] at h; exact h
  | ok p =>
    obtain ⟨d, kd⟩ := p
    rw [e] at h
    simp only [Res.bind, evEs] at h
    intro v G1 H1 E1 rr
    by_cases hb : kd = .bo
    · subst hb
      exact False.elim h
    · have hb' : hasBo [(d, kd)] = false := by simp [hasBo, hb]
      rw [hb'] at h
      obtain ⟨G2, E2, s2, rp⟩ := rr.fix E1 hb
      exact hk d v G2 H1 E2 rp h
theorem chks_two {N : List Str} {sc : Scope} {es : List ME} {f g : Expr} (h : chkEs N es sc [f, g] = true) : ∃ m l, es = [m, l] ∧ chkE N m sc f = true ∧ chkE N l sc g = true := by
  cases es with
  | nil => exact absurd h Bool.false_ne_true
  | cons m ms =>
    have h : (chkE N m sc f && chkEs N ms sc [g]) = true := h
    rw [Bool.and_eq_true] at h
    obtain ⟨l, e, z⟩ := chks_one h.2
    subst e
    exact ⟨m, l, rfl, h.1, z⟩
theorem rng_items {lo : Int} {n : Nat} {K : PySem.W.Frag} {G : Hp} : RepL K G ((List.range n).map fun (i : Nat) => V.int (lo + i)) ((List.range n).map fun (i : Nat) => D.int (lo + i)) := by
  have e1 : ((List.range n).map fun (i : Nat) => V.int (lo + i)) = ((List.range n).map fun (i : Nat) => lo + (i : Int)).map V.int := by rw [List.map_map]; rfl
  have e2 : ((List.range n).map fun (i : Nat) => D.int (lo + i)) = ((List.range n).map fun (i : Nat) => lo + (i : Int)).map D.int := by rw [List.map_map]; rfl
  rw [e1, e2]
  exact RepL.ints _
theorem snd_pi {k : IK} {es : List ME} (ie : AllC Snd es) {X : Cx} {N : List Str} {sc : Scope} {cl : Str → Value} {W : WX} {n : Nat} {tg it : Expr} (x : XOk X N sc W n) (hc : chkI N sc k es it = true)
    (hf : AllC (GoodFn X.prog X.w X.K X.mg X.base cl n) (callsEs es)) (hg : AllC (GoodGl X.K X.mg) (glosEs es)) : PI X tg it (rdI X.K cl W k es) ∧ ∀ v, foldedSetIterable it X.env v = pure v := by
  have single : ∀ {m : ME} {f : Expr}, es = [m] → chkE N m sc f = true → PE X f (rd X.K cl W m) := fun {m f} e hm => by
    subst e
    exact (ie.1 X N sc cl W n f x hm (AllC.app (show AllC _ (callsE m ++ callsEs []) from hf)).1 (AllC.app (show AllC _ (glosE m ++ glosEs []) from hg)).1).1
  cases k with
  | val =>
    obtain ⟨m, e, hm⟩ := chks_one (show chkEs N es sc [it] = true from hc)
    refine ⟨pi_imp (pi_any (single e hm)) fun σ H R ⟨S, G, r, h⟩ => ?_, chk_folded hm⟩
    subst e
    refine rd_one r h fun d v G1 H1 E1 rp h1 => ?_
    cases d <;> try exact False.elim h1
    · cases rp with
      | tup t q => exact ⟨_, rfl, .inr ⟨⟨_, seqT E1.sub t⟩, h1 _ _ G1 H1 E1 (walk_tup t) q⟩⟩
    · cases rp with
      | lst t q => exact ⟨_, rfl, .inl ⟨⟨_, SqL.of (E1.sub _ _ t)⟩, h1 _ _ G1 H1 E1 (walk_list t) q⟩⟩
  | rev =>
    cases it <;> try exact absurd hc Bool.false_ne_true
    rename_i fn as kws pos
    match fn, as, kws, hc with
    | .Name y yp, [f], [], hc =>
      have hc : (decide (y = "reversed") && glE sc y && chkEs N es sc [f]) = true := hc
      simp only [Bool.and_eq_true, decide_eq_true_eq] at hc
      obtain ⟨⟨e1, hc1⟩, hc2⟩ := hc
      subst e1
      obtain ⟨m, e, hm⟩ := chks_one hc2
      refine ⟨pi_imp (pi_revA (glE_ok x hc1).1 x.blt.rev (single e hm) (chk_star hm)) fun σ H R ⟨S, G, r, h⟩ => ?_, fun _ => rfl⟩
      subst e
      refine rd_one r h fun d v G1 H1 E1 rp h1 => ?_
      cases d <;> try exact False.elim h1
      · cases rp with
        | tup t q => exact ⟨_, _, rfl, .inr ⟨seqT E1.sub t, h1 _ _ G1 H1 E1 (walk_revT t) q.rev⟩⟩
      · cases rp with
        | lst t q => exact ⟨_, _, rfl, .inl ⟨SqL.of (E1.sub _ _ t), h1 _ _ G1 H1 E1 (walk_rev t) q.rev⟩⟩
    | .Name y yp, [], [], hc => exact absurd hc Bool.false_ne_true
    | .Name y yp, [_], _ :: _, hc => exact absurd hc Bool.false_ne_true
    | .Name y yp, _ :: _ :: _, _, hc => exact absurd hc (by simp [chkI])
  | range1 =>
    cases it <;> try exact absurd hc Bool.false_ne_true
    rename_i fn as kws pos
    match fn, as, kws, hc with
    | .Name y yp, [f], [], hc =>
      have hc : (decide (y = "range") && glE sc y && chkEs N es sc [f]) = true := hc
      simp only [Bool.and_eq_true, decide_eq_true_eq] at hc
      obtain ⟨⟨e1, hc1⟩, hc2⟩ := hc
      subst e1
      obtain ⟨m, e, hm⟩ := chks_one hc2
      have pa := sndA_of ie X N sc cl W n [f] x hc2 hf hg
      refine ⟨pi_imp (pi_range1 (glE_ok x hc1).1 x.blt.range pa (chk_star hm)) fun σ H R ⟨S, G, r, h⟩ => ?_, fun _ => rfl⟩
      refine evI_args r h fun rs vs G1 H1 E1 rp h1 => ?_
      generalize args1 rs = as at h1 rp
      match as, h1, rp with
      | [.int j], h1, rp =>
        cases rp with
        | cons q qs =>
          cases q
          cases qs
          simp only [items] at h1
          split at h1
          · refine ⟨j, rfl, by omega, by omega, ?_⟩
            have w := walk_rng (G := G1) 0 j.toNat
            have rr := rng_items (lo := 0) (n := j.toNat) (K := X.K) (G := G1)
            simp only [Int.zero_add] at w rr
            exact h1 _ _ G1 H1 E1 w rr
          · exact False.elim h1
    | .Name y yp, [], [], hc => exact absurd hc Bool.false_ne_true
    | .Name y yp, [_], _ :: _, hc => exact absurd hc Bool.false_ne_true
    | .Name y yp, _ :: _ :: _, _, hc => exact absurd hc (by simp [chkI])
  | range2 =>
    cases it <;> try exact absurd hc Bool.false_ne_true
    rename_i fn as kws pos
    match fn, as, kws, hc with
    | .Name y yp, [f, g], [], hc =>
      have hc : (decide (y = "range") && glE sc y && chkEs N es sc [f, g]) = true := hc
      simp only [Bool.and_eq_true, decide_eq_true_eq] at hc
      obtain ⟨⟨e1, hc1⟩, hc2⟩ := hc
      subst e1
      obtain ⟨m, l, e, hm, hl⟩ := chks_two hc2
      have pa := sndA_of ie X N sc cl W n [f, g] x hc2 hf hg
      refine ⟨pi_imp (pi_range2 (glE_ok x hc1).1 x.blt.range pa (by rw [chk_star hm, chk_star hl]; rfl) (chk_star hl)) fun σ H R ⟨S, G, r, h⟩ => ?_, fun _ => rfl⟩
      refine evI_args r h fun rs vs G1 H1 E1 rp h1 => ?_
      generalize args1 rs = as at h1 rp
      match as, h1, rp with
      | [.int i, .int j], h1, rp =>
        cases rp with
        | cons q qs =>
          cases q
          cases qs with
          | cons q2 qs =>
            cases q2
            cases qs
            simp only [items] at h1
            split at h1
            · rename_i hz
              refine ⟨i, j, rfl, ⟨by omega, by omega, by omega, by omega⟩, ?_⟩
              exact h1 _ _ G1 H1 E1 (walk_rng i (j - i).toNat) rng_items
            · exact False.elim h1
    | .Name y yp, [], _, hc => exact absurd hc (by simp [chkI])
    | .Name y yp, [_], _, hc => exact absurd hc (by simp [chkI])
    | .Name y yp, [_, _], _ :: _, hc => exact absurd hc Bool.false_ne_true
    | .Name y yp, _ :: _ :: _ :: _, _, hc => exact absurd hc (by simp [chkI])

/-! ### comprehensions -/
theorem Ext.mut {G H G' H' : Hp} {D : Addr} {o : HO} (e : Ext G H G' H') (h : H D = none) (g : G' D = none) : Ext G H G' (upd H' D o) := ⟨e.g, fun b u q => by
  rw [upd_ne (ne_of_none q h)]
  exact e.h _ _ q, fun b u q => by
  rw [upd_ne (ne_of_none q g)]
  exact e.sub _ _ q, e.new⟩
theorem EvRel.blk {K : PySem.W.Frag} {S : List SV} {σ : L2.St} {G H : Hp} {i : Nat} {v : V} {d : D} (R : EvRel K S σ G H) (r : Rep K G v d) (hi : i < σ.length) : EvRel K (S.set i (.sh d)) ((wipe σ [i]).set i (some v)) G H := by
  have ew : wipe σ [i] = σ.set i none := rfl
  refine ⟨R.sub, by rw [ew]; simp [R.len], fun j sv hj => ?_⟩
  rw [ew, List.set_set]
  by_cases e : i = j
  · subst e
    rw [List.getElem?_set_self (by rw [R.len]; exact hi)] at hj
    cases hj
    exact ⟨v, by rw [List.getElem?_set_self hi], r⟩
  · rw [List.getElem?_set_ne e] at hj ⊢
    exact R.sl j sv hj
/-- no exception leaves a block -/
abbrev W0 : WX := fun _ _ _ _ => False
theorem comp_loop {X : Cx} {cl : Str → Value} {elt : ME} {i : Nat} {S : List SV} {σ : L2.St} {G H G1 H1 : Hp} {Q : VK} {J : It} {vs : List V} {xs ds : List D} (R : EvRel X.K S σ G H) (E1 : Ext G H G1 H1) (hi : i < σ.length)
    (w : WalkOk J G1 vs) (rp : RepL X.K G1 vs xs) (hl : xs.length ≤ 16777216) (hd : compL i (evE elt) S xs = .ok ds)
    (q : ∀ v G' H', Ext G H G' H' → VR X.K H G' H' v (.lst ds) .fr → Q v H') (Da : Addr) (hD : H1 Da = none) :
    ∃ W : Nat → Nat → Hp → Prop, (∃ m, W 0 m (upd H1 Da (.lst []))) ∧ ∀ i' m H, W i' m H →
      (J.stop i' H ∧ Q (.ref Da) H) ∨ (J.go i' H ∧ ∃ Nx : Hp → Prop, (∀ H', Nx H' → ∃ m', m' < m ∧ W (i' + 1) m' H') ∧ ∀ x H', J.yld i' H x H' → gName i x (wipe σ [i]) H' fun σ2 H2 => wipe σ2 [i] = wipe σ [i] ∧ tYes σ2 H2 fun b H3 =>
        if b = true then rd X.K cl W0 elt σ2 H3 fun y H4 => ∃ acc, H4 Da = some (.lst acc) ∧ acc.length < sizeLine ∧ Nx (upd H4 Da (.lst (acc ++ [y]))) else Nx H3) := by
  -- the state at turn n
  let P : Nat → Hp → Prop := fun n H' => ∃ G' acc dacc drest, Ext G1 H1 G' H' ∧ G' Da = none ∧ H' Da = some (.lst acc) ∧ RepL X.K G' acc dacc ∧ compL i (evE elt) S (xs.drop n) = .ok drest ∧ dacc ++ drest = ds ∧ acc.length = n
  refine ⟨fun n m H' => m = vs.length - n ∧ n ≤ vs.length ∧ P n H', ⟨vs.length, by simp, Nat.zero_le _, G1, [], [], ds, Ext.newH E1.sub hD, E1.sub.free hD, upd_same, .nil, hd, rfl, rfl⟩, ?_⟩
  rintro n m H' ⟨rfl, hn, G', acc, dacc, drest, E2, gD, eD, ra, ed, es, el⟩
  have s1 : Same G1 H' := E2.g.trans E2.sub
  by_cases hlt : n < vs.length
  · refine .inr ⟨w.1 n H' s1 hlt, P (n + 1), fun H3 p => ⟨vs.length - (n + 1), by omega, rfl, hlt, p⟩, fun x H3 y => ?_⟩
    obtain ⟨e3, hx⟩ := w.2.2 n H' x H3 s1 hlt y
    subst e3
    have hln : n < xs.length := by rw [← rp.len]; exact hlt
    have hdr : xs.drop n = xs[n] :: xs.drop (n + 1) := List.drop_eq_getElem_cons hln
    obtain ⟨x', hx', rx⟩ := rp.get (i := n) (x := xs[n]) (List.getElem?_eq_getElem hln)
    rw [hx] at hx'
    cases hx'
    rw [hdr, compL] at ed
    split at ed <;> try exact (stuck_ne ed).elim
    rename_i r er
    split at ed
    · exact (stuck_ne ed).elim
    · rename_i hk
      cases e4 : compL i (evE elt) S (xs.drop (n + 1)) with
      | stuck => rw [e4] at ed; exact (stuck_ne ed).elim
      | exc => rw [e4] at ed; exact (exc_ne ed).elim
      | ok d4 =>
        rw [e4] at ed
        have ed : r.1 :: d4 = drest := Res.ok.inj ed
        subst ed
        refine ⟨by show ((σ.set i none).set i (some x)).set i none = σ.set i none; rw [List.set_set, List.set_set], ?_⟩
        unfold tYes
        dsimp only
        rw [if_pos rfl]
        refine ⟨S.set i (.sh xs[n]), G', ((R.ext E1).ext E2).blk (rx.mono E2.g) hi, ?_⟩
        rw [er]
        intro v G4 H4 E4 rv
        obtain ⟨G5, E5, s5, r5⟩ := rv.fix E4 hk
        refine ⟨acc, E5.h _ _ eD, by rw [szl, el]; omega, G5, acc ++ [v], dacc ++ [r.1], d4, (E2.trans E5).mut hD (E5.gnone eD gD), E5.gnone eD gD, upd_same, (ra.mono E5.g).app (.cons r5 .nil), e4, by rw [← es]; simp, by simp [el]⟩
  · have e : n = vs.length := by omega
    subst e
    have hdr : xs.drop vs.length = [] := List.drop_eq_nil_of_le (by rw [rp.len]; exact Nat.le_refl _)
    rw [hdr, compL] at ed
    have ed : [] = drest := Res.ok.inj ed
    subst ed
    rw [List.append_nil] at es
    subst es
    exact .inl ⟨w.2.1 _ H' s1 (Nat.le_refl _), q _ G' H' (E1.trans E2) (.inl ⟨Da, acc, dacc, rfl, rfl, E1.h.free hD, eD, gD, ra⟩)⟩
theorem compIf_loop {X : Cx} {cl : Str → Value} {elt c : ME} {i : Nat} {S : List SV} {σ : L2.St} {G H G1 H1 : Hp} {Q : VK} {J : It} {vs : List V} {xs ds : List D} (R : EvRel X.K S σ G H) (E1 : Ext G H G1 H1) (hi : i < σ.length)
    (w : WalkOk J G1 vs) (rp : RepL X.K G1 vs xs) (hl : xs.length ≤ 16777216) (hd : compC i (evE elt) (evE c) S xs = .ok ds)
    (q : ∀ v G' H', Ext G H G' H' → VR X.K H G' H' v (.lst ds) .fr → Q v H') (Da : Addr) (hD : H1 Da = none) :
    ∃ W : Nat → Nat → Hp → Prop, (∃ m, W 0 m (upd H1 Da (.lst []))) ∧ ∀ i' m H, W i' m H →
      (J.stop i' H ∧ Q (.ref Da) H) ∨ (J.go i' H ∧ ∃ Nx : Hp → Prop, (∀ H', Nx H' → ∃ m', m' < m ∧ W (i' + 1) m' H') ∧ ∀ x H', J.yld i' H x H' → gName i x (wipe σ [i]) H' fun σ2 H2 => wipe σ2 [i] = wipe σ [i] ∧ rdT X.K cl W0 c σ2 H2 fun b H3 =>
        if b = true then rd X.K cl W0 elt σ2 H3 fun y H4 => ∃ acc, H4 Da = some (.lst acc) ∧ acc.length < sizeLine ∧ Nx (upd H4 Da (.lst (acc ++ [y]))) else Nx H3) := by
  let P : Nat → Hp → Prop := fun n H' => ∃ G' acc dacc drest, Ext G1 H1 G' H' ∧ G' Da = none ∧ H' Da = some (.lst acc) ∧ RepL X.K G' acc dacc ∧ compC i (evE elt) (evE c) S (xs.drop n) = .ok drest ∧ dacc ++ drest = ds ∧ acc.length ≤ n
  refine ⟨fun n m H' => m = vs.length - n ∧ n ≤ vs.length ∧ P n H', ⟨vs.length, by simp, Nat.zero_le _, G1, [], [], ds, Ext.newH E1.sub hD, E1.sub.free hD, upd_same, .nil, hd, rfl, Nat.le_refl _⟩, ?_⟩
  rintro n m H' ⟨rfl, hn, G', acc, dacc, drest, E2, gD, eD, ra, ed, es, el⟩
  have s1 : Same G1 H' := E2.g.trans E2.sub
  by_cases hlt : n < vs.length
  · refine .inr ⟨w.1 n H' s1 hlt, P (n + 1), fun H3 p => ⟨vs.length - (n + 1), by omega, rfl, hlt, p⟩, fun x H3 y => ?_⟩
    obtain ⟨e3, hx⟩ := w.2.2 n H' x H3 s1 hlt y
    subst e3
    have hln : n < xs.length := by rw [← rp.len]; exact hlt
    have hdr : xs.drop n = xs[n] :: xs.drop (n + 1) := List.drop_eq_getElem_cons hln
    obtain ⟨x', hx', rx⟩ := rp.get (i := n) (x := xs[n]) (List.getElem?_eq_getElem hln)
    rw [hx] at hx'
    cases hx'
    have RB := ((R.ext E1).ext E2).blk (rx.mono E2.g) hi
    refine ⟨by show ((σ.set i none).set i (some x)).set i none = σ.set i none; rw [List.set_set, List.set_set], ⟨S.set i (.sh xs[n]), G', RB, ?_⟩⟩
    rw [hdr, compC] at ed
    split at ed <;> try exact (stuck_ne ed).elim
    · rename_i kc ec
      rw [ec]
      intro G3 H3 E3
      split at ed <;> try exact (stuck_ne ed).elim
      rename_i r er
      split at ed
      · exact (stuck_ne ed).elim
      · rename_i hk
        cases e4 : compC i (evE elt) (evE c) S (xs.drop (n + 1)) with
        | stuck => rw [e4] at ed; exact (stuck_ne ed).elim
        | exc => rw [e4] at ed; exact (exc_ne ed).elim
        | ok d4 =>
          rw [e4] at ed
          have ed : r.1 :: d4 = drest := Res.ok.inj ed
          subst ed
          refine iteT ⟨S.set i (.sh xs[n]), G3, RB.ext E3, ?_⟩
          rw [er]
          intro v G4 H4 E4 rv
          obtain ⟨G5, E5, s5, r5⟩ := rv.fix E4 hk
          have E6 := E3.trans E5
          refine ⟨acc, E6.h _ _ eD, by rw [szl]; omega, G5, acc ++ [v], dacc ++ [r.1], d4, (E2.trans E6).mut hD (E6.gnone eD gD), E6.gnone eD gD, upd_same, (ra.mono E6.g).app (.cons r5 .nil), e4, by rw [← es]; simp, by simp; omega⟩
    · rename_i kc ec
      rw [ec]
      intro G3 H3 E3
      exact iteF ⟨G3, acc, dacc, drest, E2.trans E3, E3.gnone eD gD, E3.h _ _ eD, ra.mono E3.g, ed, es, by omega⟩
  · have e : n = vs.length := by omega
    subst e
    have hdr : xs.drop vs.length = [] := List.drop_eq_nil_of_le (by rw [rp.len]; exact Nat.le_refl _)
    rw [hdr, compC] at ed
    have ed : [] = drest := Res.ok.inj ed
    subst ed
    rw [List.append_nil] at es
    subst es
    exact .inl ⟨w.2.1 _ H' s1 (Nat.le_refl _), q _ G' H' (E1.trans E2) (.inl ⟨Da, acc, dacc, rfl, rfl, E1.h.free hD, eD, gD, ra⟩)⟩
end MP
set_option Elab.async false
set_option linter.all false
set_option maxRecDepth 100000
set_option maxHeartbeats 4000000
namespace MP
open PySem PySem.Spec PyProof.Rows L2 RT

theorem comp_facts {X : Cx} {N : List Str} {sc : Scope} {W : WX} {n : Nat} (x : XOk X N sc W n) {scope : Scope} {i : Nat} {y : Str} (h : ownE N sc scope i y = true) :
    BlkOk X.N X.env.scope scope [(y, i)] ∧ i < N.length ∧
    (∀ (p : Pos) (s : Shared) (H : Hp) (C : Addr) (cl : List (Str × Addr)) (fp : List Addr), PG (X.blk s H scope (compEnvC scope cl C X.env) fp) (.Name y p) (gName i)) ∧
    ∀ (s : Shared) (H : Hp) (C : Addr) (cl : List (Str × Addr)) (fp : List Addr), XOk (X.blk s H scope (compEnvC scope cl C X.env) fp) N (relS scope sc) W0 n := by
  unfold ownE locE at h
  simp only [Bool.and_eq_true, Bool.or_eq_true, decide_eq_true_eq] at h
  obtain ⟨⟨⟨⟨h1, h2⟩, h3⟩, h4⟩, h5⟩ := h
  have hb : BlkOk X.N X.env.scope scope [(y, i)] := by
    rw [x.hN, x.sc]
    exact blkOk_by h5
  have es : ∀ (C : Addr) (cl : List (Str × Addr)), (compEnvC scope cl C X.env).scope = relS scope sc := fun C cl => by
    rw [← x.sc]
    rfl
  refine ⟨hb, (List.getElem?_eq_some_iff.mp h1).1, fun p s H C cl fp => ?_, fun s H C cl fp => ⟨x.hN, es C cl, x.calm, x.nd, x.room, takes0, x.blt⟩⟩
  refine pg_name x.nd (by show X.N[i]? = some y; rw [x.hN]; exact h1) ?_ ?_
  · show Loc (compEnvC scope cl C X.env).scope y
    rw [es]
    exact h2
  · rcases h4 with h4 | h4
    · left
      show (scope.names.lookup y == some .cell) = true
      rw [h4]
      rfl
    · right
      show (compEnvC scope cl C X.env).scope.names.lookup y = _
      rw [es]
      exact h4
/-- a list comprehension, taken apart -/
structure IsLc (X : Cx) (cl : Str → Value) (W : WX) (m : ME) (elt tg iter : Expr) (ifs : List Expr) (scope : Scope) (own : List (Str × Nat)) (wi : TI) (g : TG) (tt : TT) (te : TE) : Prop where
  pi : PI X tg iter wi
  ok : BlkOk X.N X.env.scope scope own
  hg : ∀ (s : Shared) (H : Hp) (C : Addr) (cl : List (Str × Addr)) (fp : List Addr), PG (X.blk s H scope (compEnvC scope cl C X.env) fp) tg g
  ht : ∀ (s : Shared) (H : Hp) (C : Addr) (cl : List (Str × Addr)) (fp : List Addr), PTs (X.blk s H scope (compEnvC scope cl C X.env) fp) ifs tt
  he : ∀ (s : Shared) (H : Hp) (C : Addr) (cl : List (Str × Addr)) (fp : List Addr), PE (X.blk s H scope (compEnvC scope cl C X.env) fp) elt te
  hs : ∀ x, foldedSetIterable iter X.env x = pure x
  rd : ∀ (σ : L2.St) (H : Hp) (Q : VK), σ.length = X.N.length → rd X.K cl W m σ H Q → tLc wi g tt te (own.map (·.2)) σ H Q
theorem lc_comp {elt : ME} (i : Nat) (k : IK) {es : List ME} (ia : Snd elt) (ie : AllC Snd es) {X : Cx} {N : List Str} {sc : Scope} {cl : Str → Value} {W : WX} {n : Nat} (x : XOk X N sc W n) {b it : Expr} {scope : Scope} {y : Str} {yp : Pos}
    (hc1 : ownE N sc scope i y = true) (hc2 : chkE N elt (relS scope sc) b = true) (hc3 : chkI N sc k es it = true) (hf : AllC (GoodFn X.prog X.w X.K X.mg X.base cl n) (callsE (.comp elt i k es))) (hg : AllC (GoodGl X.K X.mg) (glosE (.comp elt i k es))) :
    IsLc X cl W (.comp elt i k es) b (.Name y yp) it [] scope [(y, i)] (rdI X.K cl W k es) (gName i) tYes (rd X.K cl W0 elt) := by
  obtain ⟨f1, f2⟩ := AllC.app (show AllC _ (callsE elt ++ callsEs es) from hf)
  obtain ⟨g1, g2⟩ := AllC.app (show AllC _ (glosE elt ++ glosEs es) from hg)
  obtain ⟨ok, hi, pg, xo⟩ := comp_facts x hc1
  obtain ⟨pi, hs⟩ := snd_pi (cl := cl) (tg := .Name y yp) ie x hc3 f2 g2
  refine ⟨pi, ok, fun s H C c fp => pg yp s H C c fp, fun _ _ _ _ _ => pts_nil, fun s H C c fp => (ia _ N (relS scope sc) cl W0 n b (xo s H C c fp) hc2 f1 g1).1, hs, fun σ H Q hlen ⟨S, G, R, h⟩ => ?_⟩
  rw [evE] at h
  have hi' : i < σ.length := by rw [hlen, x.hN]; exact hi
  refine ⟨S, G, R, ?_⟩
  unfold evI
  cases e1 : evEs es S with
  | stuck => rw [e1] at h; exact h
  | exc c => rw [e1] at h; exact h
  | ok rs =>
    simp only [e1, Res.bind] at h ⊢
    cases hb : hasBo rs with
    | true => rw [hb] at h; exact h
    | false =>
      simp only [hb, Bool.false_eq_true, if_false] at h ⊢
      cases e2 : items k (args1 rs) with
      | stuck => simp only [e2] at h; exact h
      | exc c => simp only [e2] at h; exact h
      | ok xs =>
        simp only [e2] at h
        intro J vs G1 H1 E1 w rp Da hD
        split at h
        · rename_i hl
          cases e3 : compL i (evE elt) S xs with
          | stuck => rw [e3] at h; exact False.elim h
          | exc c =>
            exfalso
            clear h e2 hl rp
            revert c e3
            induction xs with
            | nil => intro c e3; rw [compL] at e3; cases e3
            | cons x xs ih =>
              intro c e3
              rw [compL] at e3
              split at e3
              · split at e3
                · cases e3
                · cases e4 : compL i (evE elt) S xs with
                  | stuck => rw [e4] at e3; cases e3
                  | exc c => exact ih _ e4
                  | ok d => rw [e4] at e3; cases e3
              · cases e3
          | ok ds =>
            rw [e3] at h
            exact comp_loop R E1 hi' w rp hl e3 h Da hD
        · exact False.elim h
theorem lc_compIf {elt c : ME} (i : Nat) (k : IK) {es : List ME} (ia : Snd elt) (ic : Snd c) (ie : AllC Snd es) {X : Cx} {N : List Str} {sc : Scope} {cl : Str → Value} {W : WX} {n : Nat} (x : XOk X N sc W n) {b it t : Expr} {scope : Scope} {y : Str} {yp : Pos}
    (hc1 : ownE N sc scope i y = true) (hc2 : chkE N elt (relS scope sc) b = true) (hct : chkE N c (relS scope sc) t = true) (hc3 : chkI N sc k es it = true) (hf : AllC (GoodFn X.prog X.w X.K X.mg X.base cl n) (callsE (.compIf elt i k es c))) (hg : AllC (GoodGl X.K X.mg) (glosE (.compIf elt i k es c))) :
    IsLc X cl W (.compIf elt i k es c) b (.Name y yp) it [t] scope [(y, i)] (rdI X.K cl W k es) (gName i) (rdT X.K cl W0 c) (rd X.K cl W0 elt) := by
  obtain ⟨f1, f⟩ := AllC.app (show AllC _ (callsE elt ++ (callsE c ++ callsEs es)) from hf)
  obtain ⟨f3, f2⟩ := AllC.app f
  obtain ⟨g1, g⟩ := AllC.app (show AllC _ (glosE elt ++ (glosE c ++ glosEs es)) from hg)
  obtain ⟨g3, g2⟩ := AllC.app g
  obtain ⟨ok, hi, pg, xo⟩ := comp_facts x hc1
  obtain ⟨pi, hs⟩ := snd_pi (cl := cl) (tg := .Name y yp) ie x hc3 f2 g2
  refine ⟨pi, ok, fun s H C c fp => pg yp s H C c fp, fun s H C cc fp => pts_one (ic _ N (relS scope sc) cl W0 n t (xo s H C cc fp) hct f3 g3).2.1, fun s H C c fp => (ia _ N (relS scope sc) cl W0 n b (xo s H C c fp) hc2 f1 g1).1, hs, fun σ H Q hlen ⟨S, G, R, h⟩ => ?_⟩
  rw [evE] at h
  have hi' : i < σ.length := by rw [hlen, x.hN]; exact hi
  refine ⟨S, G, R, ?_⟩
  unfold evI
  cases e1 : evEs es S with
  | stuck => rw [e1] at h; exact h
  | exc c => rw [e1] at h; exact h
  | ok rs =>
    simp only [e1, Res.bind] at h ⊢
    cases hb : hasBo rs with
    | true => rw [hb] at h; exact h
    | false =>
      simp only [hb, Bool.false_eq_true, if_false] at h ⊢
      cases e2 : items k (args1 rs) with
      | stuck => simp only [e2] at h; exact h
      | exc c => simp only [e2] at h; exact h
      | ok xs =>
        simp only [e2] at h
        intro J vs G1 H1 E1 w rp Da hD
        split at h
        · rename_i hl
          cases e3 : compC i (evE elt) (evE c) S xs with
          | stuck => rw [e3] at h; exact False.elim h
          | exc cc =>
            exfalso
            clear h e2 hl rp
            revert cc e3
            induction xs with
            | nil => intro cc e3; rw [compC] at e3; cases e3
            | cons x xs ih =>
              intro cc e3
              rw [compC] at e3
              split at e3
              · split at e3
                · split at e3
                  · cases e3
                  · cases e4 : compC i (evE elt) (evE c) S xs with
                    | stuck => rw [e4] at e3; cases e3
                    | exc c => exact ih _ e4
                    | ok d => rw [e4] at e3; cases e3
                · cases e3
              · exact ih _ e3
              · cases e3
          | ok ds =>
            rw [e3] at h
            exact compIf_loop R E1 hi' w rp hl e3 h Da hD
        · exact False.elim h
theorem snd_comp {elt : ME} (i : Nat) (k : IK) {es : List ME} (ia : Snd elt) (ie : AllC Snd es) : Snd (.comp elt i k es) := by
  intro X N sc cl W n e x hc hf hg
  cases e <;> try exact absurd hc Bool.false_ne_true
  rename_i b gens scope pos
  match gens, hc with
  | [⟨.Name y yp, it, [], 0⟩], hc =>
    have hc : (ownE N sc scope i y && chkE N elt (relS scope sc) b && chkI N sc k es it) = true := hc
    rw [Bool.and_eq_true, Bool.and_eq_true] at hc
    have L := lc_comp (cl := cl) (W := W) (yp := yp) i k ia ie x hc.1.1 hc.1.2 hc.2 hf hg
    exact three ⟨fun pins s σ H Q I h => (pe_lc x.calm x.nd L.pi L.ok L.hg L.ht L.he L.hs).run pins s σ H Q I (L.rd σ H Q I.len h)⟩ (fun _ => rfl) rfl
theorem snd_compIf {elt c : ME} (i : Nat) (k : IK) {es : List ME} (ia : Snd elt) (ic : Snd c) (ie : AllC Snd es) : Snd (.compIf elt i k es c) := by
  intro X N sc cl W n e x hc hf hg
  cases e <;> try exact absurd hc Bool.false_ne_true
  rename_i b gens scope pos
  match gens, hc with
  | [⟨.Name y yp, it, [t], 0⟩], hc =>
    have hc : (ownE N sc scope i y && chkE N elt (relS scope sc) b && chkE N c (relS scope sc) t && chkI N sc k es it) = true := hc
    rw [Bool.and_eq_true, Bool.and_eq_true, Bool.and_eq_true] at hc
    have L := lc_compIf (cl := cl) (W := W) (yp := yp) i k ia ic ie x hc.1.1.1 hc.1.1.2 hc.1.2 hc.2 hf hg
    exact three ⟨fun pins s σ H Q I h => (pe_lc x.calm x.nd L.pi L.ok L.hg L.ht L.he L.hs).run pins s σ H Q I (L.rd σ H Q I.len h)⟩ (fun _ => rfl) rfl

mutual
theorem snd_all : ∀ m : ME, Snd m
  | .loc i => snd_loc i
  | .glo x d => snd_glo x d
  | .int i => snd_int i
  | .bl b => snd_bl b
  | .non => snd_non
  | .str s => snd_str s
  | .bin o a b => snd_bin o (snd_all a) (snd_all b)
  | .neg a => snd_neg (snd_all a)
  | .cmp o a b => snd_cmp o (snd_all a) (snd_all b)
  | .cmp2 o1 o2 a b c => snd_cmp2 o1 o2 (snd_all a) (snd_all b) (snd_all c)
  | .isN n a => snd_isN n (snd_all a)
  | .and a b => snd_and (snd_all a) (snd_all b)
  | .or a b => snd_or (snd_all a) (snd_all b)
  | .not a => snd_not (snd_all a)
  | .ife c a b => snd_ife (snd_all c) (snd_all a) (snd_all b)
  | .sub a i => snd_sub (snd_all a) (snd_all i)
  | .slLo a i => snd_slLo (snd_all a) (snd_all i)
  | .slHi a i => snd_slHi (snd_all a) (snd_all i)
  | .sl a i j => snd_sl (snd_all a) (snd_all i) (snd_all j)
  | .call x f es => snd_call x f (sndA_of (snd_alls es))
  | .blt b es => snd_blt b (sndA_of (snd_alls es))
  | .isi a t => snd_isi t (snd_all a)
  | .tup es => snd_tup (sndA_of (snd_alls es))
  | .lst es => snd_lst (sndA_of (snd_alls es))
  | .comp elt i k es => snd_comp i k (snd_all elt) (snd_alls es)
  | .compIf elt i k es c => snd_compIf i k (snd_all elt) (snd_all c) (snd_alls es)
  | .tupRev a => snd_tupRev (snd_all a)
  | .attr i w => snd_attr i w
  | .mcall i x f a => snd_mcall i x f (snd_all a)
theorem snd_alls : ∀ ms : List ME, AllC Snd ms
  | [] => trivial
  | m :: ms => ⟨snd_all m, snd_alls ms⟩
end
end MP
set_option Elab.async false
set_option linter.all false
set_option maxRecDepth 100000
set_option maxHeartbeats 4000000
namespace MP
open PySem PySem.Spec PyProof.Rows L2 RT

inductive MS where
  | set (i : Nat) (e : ME)
  | own (i : Nat) (e : ME)
  | unp (is : List Nat) (e : ME)
  | app (i : Nat) (e : ME)
  | ins (i : Nat) (k e : ME)
  | popd (i : Nat) (k : ME)
  | spop (j i : Nat) (k : ME)
  | sto (i : Nat) (k e : ME)
  | ife (c : ME) (a b : List MS)
  | forI (i : Nat) (k : IK) (es : List ME) (b : List MS)
  | forU (is : List Nat) (k : IK) (es : List ME) (b : List MS)
  | whil (c : ME) (b : List MS)
  | ret (e : ME)
  | retL (i : Nat)
  /-- return (x, y), two lists of the def's own -/
  | ret2 (i j : Nat)
  /-- return (e, f), f a new list -/
  | retT (e f : ME)
  /-- return (e, x.rows), x the def's own object -/
  | retO (e : ME) (i : Nat)
  /-- x, y = e, where e hands back something and a new list -/
  | unpF (i j : Nat) (e : ME)
  | exp (e : ME)
  | rais (c : Str)
  | frz (i : Nat)
  /-- try: b; except K as e: marks = [isinstance(e, C), ..] -/
  | tryI (b : List MS) (K : Str) (i j : Nat) (cs : List Str) (tab : List (Str × List Bool))
  /-- try: b; except K: x = True or False -/
  | tryS (b : List MS) (K : Str) (j : Nat) (v : Bool) (tab : List (Str × List Bool))
  /-- name = Span() -/
  | mk (i : Nat)
  /-- name.put(e); if name.put(e): a else: b -/
  | put (i : Nat) (g : PutFn) (e : ME)
  | ifPut (i : Nat) (g : PutFn) (e : ME) (a b : List MS)

def tabAt : List (Str × List Bool) → Str → Option (List Bool)
  | [], _ => none
  | p :: ps, c => if c = p.1 then some p.2 else tabAt ps c
/-- what a body asks of the classes of errors -/
inductive ExI where
  | rais (c : Str)
  | tri (K : Str) (cs : List Str) (tab : List (Str × List Bool))

inductive SRes where
  | nx (S : List SV) | ret (d : D) (fr : Bool) | exc (c : Str) (S : List SV) | stuck

def bindS {α : Type} (S : List SV) (r : Res α) (f : α → SRes) : SRes := match r with
  | .ok a => f a
  | .exc c => .exc c S
  | .stuck => .stuck
def setAll : List SV → List Nat → List D → Option (List SV)
  | S, [], [] => some S
  | S, i :: is, d :: ds => setAll (S.set i (.sh d)) is ds
  | _, _, _ => none
def tgU (is : List Nat) (S : List SV) (d : D) : Option (List SV) := match d with
  | .tup ds => setAll S is ds
  | _ => none
def forL (f : List SV → SRes) (tg : List SV → D → Option (List SV)) : List D → List SV → SRes
  | [], S => .nx S
  | x :: xs, S => match tg S x with
    | none => .stuck
    | some S1 => match f S1 with
      | .nx S2 => forL f tg xs S2
      | r => r
def whileL (c : List SV → Res (D × Kd)) (f : List SV → SRes) : Nat → List SV → SRes
  | 0, _ => .stuck
  | n + 1, S => bindS S (c S) fun r => match r.1 with
    | .bl true => (match f S with
      | .nx S2 => whileL c f n S2
      | r => r)
    | .bl false => .nx S
    | _ => .stuck
def isLst : D → Bool
  | .lst _ => true
  | _ => false
theorem isLst_no {d : D} (h : isLst d = false) : ∀ es, d ≠ .lst es := fun es e => by subst e; cases h
def isObS : SV → Bool
  | .ob _ _ => true
  | _ => false
mutual
def exS (n : Nat) : MS → List SV → SRes
  | .set i e, S => bindS S (evE e S) fun r => if r.2 = .bo then .stuck else .nx (S.set i (.sh r.1))
  | .own i e, S => bindS S (evE e S) fun r => match r with
    | (.lst ds, .fr) => .nx (S.set i (.ow ds))
    | (.non, .sh) => .nx (S.set i (.sh .non))
    | _ => .stuck
  | .unp is e, S => bindS S (evE e S) fun r => match tgU is S r.1 with
    | some S1 => .nx S1
    | none => .stuck
  | .app i e, S => match S[i]? with
    | some (.ow xs) => bindS S (evE e S) fun r => if r.2 = .bo then .stuck else (if xs.length < 16777216 then .nx (S.set i (.ow (xs ++ [r.1]))) else .stuck)
    | _ => .stuck
  | .ins i k e, S => match S[i]? with
    | some (.ow xs) => bindS S (evE k S) fun q => match q.1 with
      | .int z => bindS S (evE e S) fun r => if r.2 = .bo then .stuck else (if xs.length < 16777216 ∧ 0 ≤ z ∧ z.natAbs < 16777216 then .nx (S.set i (.ow (xs.take z.toNat ++ [r.1] ++ xs.drop z.toNat))) else .stuck)
      | _ => .stuck
    | _ => .stuck
  | .popd i k, S => match S[i]? with
    | some (.ow xs) => bindS S (evE k S) fun q => match q.1 with
      | .int z => if 0 ≤ z ∧ z < xs.length ∧ xs.length ≤ 16777216 then .nx (S.set i (.ow (xs.eraseIdx z.toNat))) else .stuck
      | _ => .stuck
    | _ => .stuck
  | .spop j i k, S => match S[i]? with
    | some (.ow xs) => bindS S (evE k S) fun q => match q.1 with
      | .int z => if 0 ≤ z ∧ xs.length ≤ 16777216 then (match xs[z.toNat]? with
        | some d => .nx ((S.set i (.ow (xs.eraseIdx z.toNat))).set j (.sh d))
        | none => .stuck) else .stuck
      | _ => .stuck
    | _ => .stuck
  | .sto i k e, S => bindS S (evE e S) fun r => if r.2 = .bo then .stuck else (match S[i]? with
    | some (.ow xs) => bindS S (evE k S) fun q => match q.1 with
      | .int z => (match ixN xs.length z with
        | some j => .nx (S.set i (.ow (xs.set j r.1)))
        | none => .stuck)
      | _ => .stuck
    | _ => .stuck)
  | .ife c a b, S => bindS S (evE c S) fun r => match r.1 with
    | .bl true => exSs n a S
    | .bl false => exSs n b S
    | _ => .stuck
  | .forI i k es b, S => bindS S (evI k es S) fun xs => forL (exSs n b) (fun S d => some (S.set i (.sh d))) xs S
  | .forU is k es b, S => bindS S (evI k es S) fun xs => forL (exSs n b) (tgU is) xs S
  | .whil c b, S => whileL (evE c) (exSs n b) n S
  | .ret e, S => bindS S (evE e S) fun r => if r.2 = .bo then .stuck else .ret r.1 (decide (r.2 = .fr))
  | .retL i, S => match S[i]? with
    | some (.ow ds) => .ret (.lst ds) true
    | _ => .stuck
  | .ret2 i j, S => match S[i]?, S[j]? with
    | some (.ow ds), some (.ow es) => if i = j then .stuck else .ret (.tup [.lst ds, .lst es]) true
    | _, _ => .stuck
  | .retT e f, S => bindS S (evE e S) fun r => if r.2 = .bo ∨ isLst r.1 = true then .stuck else bindS S (evE f S) fun q => match q with
    | (.lst ds, .fr) => .ret (.tup [r.1, .lst ds]) true
    | _ => .stuck
  | .retO e i, S => match S[i]? with
    | some (.ob rows _) => bindS S (evE e S) fun r => if r.2 = .bo ∨ isLst r.1 = true then .stuck else .ret (.tup [r.1, .lst rows]) true
    | _ => .stuck
  | .unpF i j e, S => if i = j then .stuck else bindS S (evE e S) fun r => match r with
    | (.tup [x, .lst ds], .fr) => if isLst x = true then .stuck else .nx ((S.set i (.sh x)).set j (.ow ds))
    | _ => .stuck
  | .exp e, S => bindS S (evE e S) fun _ => .nx S
  | .rais c, S => .exc c S
  | .frz i, S => match S[i]? with
    | some (.ow ds) => .nx (S.set i (.sh (.lst ds)))
    | some (.ob rows cl) => .nx (S.set i (.sh (.ob rows cl)))
    | _ => .stuck
  | .mk i, S => if S.any isObS = true then .stuck else .nx (S.set i (.ob [] []))
  | .put i g e, S => match S[i]? with
    | some (.ob rows cl) => bindS S (evE e S) fun r => if r.2 = .bo then .stuck else (match g rows cl r.1 with
      | .ok q => .nx (S.set i (.ob q.2.1 q.2.2))
      | _ => .stuck)
    | _ => .stuck
  | .ifPut i g e a b, S => match S[i]? with
    | some (.ob rows cl) => bindS S (evE e S) fun r => if r.2 = .bo then .stuck else (match g rows cl r.1 with
      | .ok q => if q.1 = true then exSs n a (S.set i (.ob q.2.1 q.2.2)) else exSs n b (S.set i (.ob q.2.1 q.2.2))
      | _ => .stuck)
    | _ => .stuck
  | .tryI b _ i j _ tab, S => match exSs n b S with
    | .exc c S1 => (match tabAt tab c with
      | some bs => if S1.length = S.length then .nx ((S1.set i .no).set j (.sh (.lst (bs.map D.bl)))) else .stuck
      | none => .stuck)
    | r => r
  | .tryS b _ j v tab, S => match exSs n b S with
    | .exc c S1 => (match tabAt tab c with
      | some _ => if S1.length = S.length then .nx (S1.set j (.sh (.bl v))) else .stuck
      | none => .stuck)
    | r => r
def exSs (n : Nat) : List MS → List SV → SRes
  | [], S => .nx S
  | s :: ss, S => match exS n s S with
    | .nx S1 => exSs n ss S1
    | r => r
end

mutual
def callsS : MS → List CallI
  | .set _ e => callsE e
  | .own _ e => callsE e
  | .unp _ e => callsE e
  | .app _ e => callsE e
  | .ins _ k e => callsE k ++ callsE e
  | .popd _ k => callsE k
  | .spop _ _ k => callsE k
  | .sto _ k e => callsE k ++ callsE e
  | .ife c a b => callsE c ++ (callsSs a ++ callsSs b)
  | .forI _ _ es b => callsEs es ++ callsSs b
  | .forU _ _ es b => callsEs es ++ callsSs b
  | .whil c b => callsE c ++ callsSs b
  | .ret e => callsE e
  | .retL _ => []
  | .ret2 _ _ => []
  | .retT e f => callsE e ++ callsE f
  | .retO e _ => callsE e
  | .unpF _ _ e => callsE e
  | .exp e => callsE e
  | .rais _ => []
  | .frz _ => []
  | .tryI b _ _ _ _ _ => callsSs b
  | .tryS b _ _ _ _ => callsSs b
  | .mk _ => [.ini]
  | .put _ g e => .put g :: callsE e
  | .ifPut _ g e a b => .put g :: (callsE e ++ (callsSs a ++ callsSs b))
def callsSs : List MS → List CallI
  | [] => []
  | s :: ss => callsS s ++ callsSs ss
end
mutual
def glosS : MS → List (Str × D)
  | .set _ e => glosE e
  | .own _ e => glosE e
  | .unp _ e => glosE e
  | .app _ e => glosE e
  | .ins _ k e => glosE k ++ glosE e
  | .popd _ k => glosE k
  | .spop _ _ k => glosE k
  | .sto _ k e => glosE k ++ glosE e
  | .ife c a b => glosE c ++ (glosSs a ++ glosSs b)
  | .forI _ _ es b => glosEs es ++ glosSs b
  | .forU _ _ es b => glosEs es ++ glosSs b
  | .whil c b => glosE c ++ glosSs b
  | .ret e => glosE e
  | .retL _ => []
  | .ret2 _ _ => []
  | .retT e f => glosE e ++ glosE f
  | .retO e _ => glosE e
  | .unpF _ _ e => glosE e
  | .exp e => glosE e
  | .rais _ => []
  | .frz _ => []
  | .tryI b _ _ _ _ _ => glosSs b
  | .tryS b _ _ _ _ => glosSs b
  | .mk _ => []
  | .put _ _ e => glosE e
  | .ifPut _ _ e a b => glosE e ++ (glosSs a ++ glosSs b)
def glosSs : List MS → List (Str × D)
  | [] => []
  | s :: ss => glosS s ++ glosSs ss
end
mutual
def excsS : MS → List ExI
  | .rais c => [.rais c]
  | .ife _ a b => excsSs a ++ excsSs b
  | .forI _ _ _ b => excsSs b
  | .forU _ _ _ b => excsSs b
  | .whil _ b => excsSs b
  | .ifPut _ _ _ a b => excsSs a ++ excsSs b
  | .tryI b K _ _ cs tab => .tri K cs tab :: excsSs b
  | .tryS b K _ _ tab => .tri K [] tab :: excsSs b
  | _ => []
def excsSs : List MS → List ExI
  | [] => []
  | s :: ss => excsS s ++ excsSs ss
end
/-- isinstance(n, C), .. -/
def isChk (N : List Str) (sc : Scope) (i : Nat) : List Str → List Expr → Bool
  | [], [] => true
  | c :: cs, .Call (.Name y _) [.Name x _, .Name z _] [] _ :: es => decide (y = "isinstance") && glE sc y && visE N sc i x && decide (z = c) && glE sc z && isChk N sc i cs es
  | _, _ => false

def namesU (N : List Str) (sc : Scope) : List Nat → List Expr → Bool
  | [], [] => true
  | i :: is, .Name x _ :: es => locE N sc i x && namesU N sc is es
  | _, _ => false
def notTup : Expr → Bool
  | .Tuple _ _ _ => false
  | _ => true
def isCall : Expr → Bool
  | .Call _ _ _ _ => true
  | _ => false
mutual
def chkS (N : List Str) : MS → Scope → Stmt → Bool
  | .set i m, sc, st => match st with
    | .Assign [.Name x _] e _ => locE N sc i x && chkE N m sc e
    | _ => false
  | .own i m, sc, st => match st with
    | .Assign [.Name x _] e _ => locE N sc i x && chkE N m sc e
    | _ => false
  | .unp is m, sc, st => match st with
    | .Assign [.Tuple ts _ _] e _ => namesU N sc is ts && notTup e && chkE N m sc e
    | _ => false
  | .app i m, sc, st => match st with
    | .Expr (.Call (.Attribute (.Name x _) y ap) [e] [] cp) _ => decide (y = "append") && visE N sc i x && (ap.endLine == cp.line) && chkE N m sc e
    | _ => false
  | .ins i k m, sc, st => match st with
    | .Expr (.Call (.Attribute (.Name x _) y ap) [f, e] [] cp) _ => decide (y = "insert") && visE N sc i x && (ap.endLine == cp.line) && chkE N k sc f && chkE N m sc e
    | _ => false
  | .popd i k, sc, st => match st with
    | .Expr (.Call (.Attribute (.Name x _) y ap) [f] [] cp) _ => decide (y = "pop") && visE N sc i x && (ap.endLine == cp.line) && chkE N k sc f
    | _ => false
  | .spop j i k, sc, st => match st with
    | .Assign [.Name z _] (.Call (.Attribute (.Name x _) y ap) [f] [] cp) _ => decide (y = "pop") && visE N sc i x && (ap.endLine == cp.line) && chkE N k sc f && locE N sc j z && decide (j ≠ i)
    | _ => false
  | .sto i k m, sc, st => match st with
    | .Assign [.Subscript (.Name x _) f _] e _ => visE N sc i x && chkE N k sc f && chkE N m sc e
    | _ => false
  | .ife c a b, sc, st => match st with
    | .If t p q _ => chkE N c sc t && chkSs N a sc p && chkSs N b sc q
    | _ => false
  | .forI i k es b, sc, st => match st with
    | .For (.Name x _) it p [] _ => locE N sc i x && chkI N sc k es it && chkSs N b sc p
    | _ => false
  | .forU is k es b, sc, st => match st with
    | .For (.Tuple ts _ _) it p [] _ => namesU N sc is ts && chkI N sc k es it && chkSs N b sc p
    | _ => false
  | .whil c b, sc, st => match st with
    | .While t p [] _ => chkE N c sc t && chkSs N b sc p
    | _ => false
  | .ret m, sc, st => match st with
    | .Return (some e) _ => chkE N m sc e
    | _ => false
  | .retL i, sc, st => match st with
    | .Return (some (.Name x _)) _ => visE N sc i x
    | _ => false
  | .ret2 i j, sc, st => match st with
    | .Return (some (.Tuple [.Name x _, .Name y _] _ _)) _ => visE N sc i x && visE N sc j y
    | _ => false
  | .retT m l, sc, st => match st with
    | .Return (some (.Tuple [e, f] _ _)) _ => chkE N m sc e && chkE N l sc f
    | _ => false
  | .retO m i, sc, st => match st with
    | .Return (some (.Tuple [e, .Attribute (.Name x _) y _] _ _)) _ => chkE N m sc e && visE N sc i x && decide (y = "rows")
    | _ => false
  | .unpF i j m, sc, st => match st with
    | .Assign [.Tuple ts _ _] e _ => namesU N sc [i, j] ts && notTup e && chkE N m sc e
    | _ => false
  | .exp m, sc, st => match st with
    | .Expr e _ => isCall e && chkE N m sc e
    | _ => false
  | .rais c, sc, st => match st with
    | .Raise (some (.Call (.Name x _) [.Constant (.str _) _ _] [] _)) none _ => decide (x = c) && glE sc x
    | _ => false
  | .frz _, _, _ => false
  | .tryI b K i j cs _, sc, st => match st with
    | .Try body [.ExceptHandler (some (.Name x _)) (some e) [.Assign [.Name y _] (.List es _) _] _] [] [] _ => decide (x = K) && glE sc x && decide (N[i]? = some e) && decide (sc.names.lookup e = some .local) && locE N sc j y && decide (i ≠ j) && decide (cs.length ≤ 1000) && isChk N sc i cs es && chkSs N b sc body
    | _ => false
  | .tryS b K j v _, sc, st => match st with
    | .Try body [.ExceptHandler (some (.Name x _)) none [.Assign [.Name y _] (.Constant (.bool u) _ _) _] _] [] [] _ => decide (x = K) && glE sc x && locE N sc j y && decide (u = v) && chkSs N b sc body
    | _ => false
  | .mk i, sc, st => match st with
    | .Assign [.Name x _] (.Call (.Name y _) [] [] _) _ => decide (y = "Span") && glE sc y && locE N sc i x
    | _ => false
  | .put i _ m, sc, st => match st with
    | .Expr (.Call (.Attribute (.Name x _) y ap) [e] [] cp) _ => decide (y = "put") && visE N sc i x && (ap.endLine == cp.line) && chkE N m sc e
    | _ => false
  | .ifPut i _ m a b, sc, st => match st with
    | .If (.Call (.Attribute (.Name x _) y ap) [e] [] cp) p q _ => decide (y = "put") && visE N sc i x && (ap.endLine == cp.line) && chkE N m sc e && chkSs N a sc p && chkSs N b sc q
    | _ => false
def chkSs (N : List Str) : List MS → Scope → List Stmt → Bool
  | [], _, sts => match sts with
    | [] => true
    | _ => false
  | .frz _ :: ms, sc, sts => chkSs N ms sc sts
  | m :: ms, sc, sts => match sts with
    | st :: sts => chkS N m sc st && chkSs N ms sc sts
    | [] => false
end
/-- the same, but nothing computes through it -/
noncomputable def hide {α : Type} (a : α) : α := (Classical.choice (⟨⟨a, rfl⟩⟩ : Nonempty {b : α // b = a})).1
@[simp] theorem hide_eq {α : Type} (a : α) : hide a = a := (Classical.choice (⟨⟨a, rfl⟩⟩ : Nonempty {b : α // b = a})).2
/-- the mirror of a def: its slots, its body -/
noncomputable def mirror (slots : Nat) (n : Nat) (body : List MS) : Fn := hide fun ds => match exSs n body (ds.map SV.sh ++ List.replicate (slots - ds.length) SV.no) with
  | .nx _ => .ok (.non, false)
  | .ret d fr => .ok (d, fr)
  | .exc c _ => .exc c
  | .stuck => .stuck
end MP
set_option Elab.async false
set_option linter.all false
set_option maxRecDepth 100000
set_option maxHeartbeats 4000000
namespace MP
open PySem PySem.Spec PyProof.Rows L2 RT

/-! ### the state of a def's body: G0, H0 its entry -/
/-- the object at a, its two lists -/
def ObAt (H : Hp) (a r c : Addr) : Prop := ∃ C dx, H a = some (.ins C dx (spF r c))
theorem ObAt.uniq {H : Hp} {a r c r' c' : Addr} (h : ObAt H a r c) (h' : ObAt H a r' c') : r = r' ∧ c = c' := by
  obtain ⟨C, dx, h⟩ := h
  obtain ⟨C', dx', h'⟩ := h'
  rw [h] at h'
  injection h' with h'
  injection h' with _ _ h'
  exact spF_inj h'
theorem ObAt.mono {H H' : Hp} {a r c : Addr} (h : ObAt H a r c) (s : Same H H') : ObAt H' a r c := by
  obtain ⟨C, dx, h⟩ := h
  exact ⟨C, dx, s _ _ h⟩
structure StRel (K : PySem.W.Frag) (G0 H0 : Hp) (S : List SV) (σ : L2.St) (G H : Hp) : Prop where
  ev : EvRel K S σ G H
  ext : Ext G0 H0 G H
  own : ∀ (i : Nat) (a : Addr) (ds : List D), S[i]? = some (.ow ds) → σ[i]? = some (some (.ref a)) → H0 a = none
  dis : ∀ (i j : Nat) (a : Addr) (ds es : List D), i ≠ j → S[i]? = some (.ow ds) → S[j]? = some (.ow es) → σ[i]? = some (some (.ref a)) → σ[j]? = some (some (.ref a)) → False
  obo : ∀ (i : Nat) (a : Addr) (rows cl : List D), S[i]? = some (.ob rows cl) → σ[i]? = some (some (.ref a)) → ∃ r c, ObAt H a r c ∧ H0 a = none ∧ H0 r = none ∧ H0 c = none
  obd : ∀ (i j : Nat) (a b : Addr) (rows cl ds : List D), S[i]? = some (.ob rows cl) → S[j]? = some (.ow ds) → σ[i]? = some (some (.ref a)) → σ[j]? = some (some (.ref b)) → ∃ r c, ObAt H a r c ∧ b ≠ r ∧ b ≠ c
  obu : ∀ (i j : Nat) (rows cl rows' cl' : List D), S[i]? = some (.ob rows cl) → S[j]? = some (.ob rows' cl') → i = j
section
variable {K : PySem.W.Frag} {G0 H0 G H G1 H1 : Hp} {S : List SV} {σ : L2.St}
theorem StRel.grow (R : StRel K G0 H0 S σ G H) (e : Ext G H G1 H1) : StRel K G0 H0 S σ G1 H1 := ⟨R.ev.ext e, R.ext.trans e, R.own, R.dis, fun i a rows cl h q => by
  obtain ⟨r, c, h1, h2⟩ := R.obo i a rows cl h q
  exact ⟨r, c, h1.mono e.h, h2⟩, fun i j a b rows cl ds h1 h2 q1 q2 => by
  obtain ⟨r, c, h3, h4⟩ := R.obd i j a b rows cl ds h1 h2 q1 q2
  exact ⟨r, c, h3.mono e.h, h4⟩, R.obu⟩
theorem StRel.sub (R : StRel K G0 H0 S σ G H) : Same G H := R.ev.sub
/-- what is left where a slot is set -/
theorem set_ob {i j : Nat} {sv : SV} {rows cl : List D} (hs : ∀ rows cl, sv ≠ .ob rows cl) (h : (S.set i sv)[j]? = some (.ob rows cl)) : i ≠ j ∧ S[j]? = some (.ob rows cl) := by
  by_cases e : i = j
  · subst e
    by_cases hi : i < S.length
    · rw [List.getElem?_set_self hi] at h
      cases h
      exact absurd rfl (hs _ _)
    · rw [List.getElem?_eq_none (by simp; omega)] at h
      cases h
  · rw [List.getElem?_set_ne e] at h
    exact ⟨e, h⟩
theorem set_ow {i j : Nat} {sv : SV} {ds : List D} (hs : ∀ ds, sv ≠ .ow ds) (h : (S.set i sv)[j]? = some (.ow ds)) : i ≠ j ∧ S[j]? = some (.ow ds) := by
  by_cases e : i = j
  · subst e
    by_cases hi : i < S.length
    · rw [List.getElem?_set_self hi] at h
      cases h
      exact absurd rfl (hs _)
    · rw [List.getElem?_eq_none (by simp; omega)] at h
      cases h
  · rw [List.getElem?_set_ne e] at h
    exact ⟨e, h⟩
/-- a slot takes what is no list and no object of the def's own -/
theorem StRel.setPlain (R : StRel K G0 H0 S σ G H) {i : Nat} {o : Option V} {sv : SV} (hs : ∀ ds, sv ≠ .ow ds) (ho : ∀ rows cl, sv ≠ .ob rows cl) (r : ∀ {o'}, o' = some o → SlotRel K G H o' sv) (hz : i < σ.length ∨ sv = .no) : StRel K G0 H0 (S.set i sv) (σ.set i o) G H := by
  refine ⟨⟨R.sub, by simp [R.ev.len], fun j sv' h => ?_⟩, R.ext, fun j a ds h q => ?_, fun j l a ds es ne h1 h2 q1 q2 => ?_, fun j a rows cl h q => ?_, fun j l a b rows cl ds h1 h2 q1 q2 => ?_, fun j l rows cl rows' cl' h1 h2 => ?_⟩
  · by_cases e : i = j
    · subst e
      by_cases hi : i < S.length
      · rw [List.getElem?_set_self hi] at h
        cases h
        rcases hz with hz | hz
        · exact r (by rw [List.getElem?_set_self hz])
        · rw [hz]; trivial
      · rw [List.getElem?_eq_none (by simp; omega)] at h; cases h
    · rw [List.getElem?_set_ne e] at h ⊢
      exact R.ev.sl j sv' h
  · obtain ⟨ne, h⟩ := set_ow hs h
    rw [List.getElem?_set_ne ne] at q
    exact R.own j a ds h q
  · obtain ⟨n1, h1⟩ := set_ow hs h1
    obtain ⟨n2, h2⟩ := set_ow hs h2
    rw [List.getElem?_set_ne n1] at q1
    rw [List.getElem?_set_ne n2] at q2
    exact R.dis j l a ds es ne h1 h2 q1 q2
  · obtain ⟨ne, h⟩ := set_ob ho h
    rw [List.getElem?_set_ne ne] at q
    exact R.obo j a rows cl h q
  · obtain ⟨n1, h1⟩ := set_ob ho h1
    obtain ⟨n2, h2⟩ := set_ow hs h2
    rw [List.getElem?_set_ne n1] at q1
    rw [List.getElem?_set_ne n2] at q2
    exact R.obd j l a b rows cl ds h1 h2 q1 q2
  · exact R.obu j l _ _ _ _ (set_ob ho h1).2 (set_ob ho h2).2
/-- a slot takes plain data -/
theorem StRel.setSh (R : StRel K G0 H0 S σ G H) {i : Nat} {v : V} {d : D} (r : Rep K G v d) (hi : i < σ.length) : StRel K G0 H0 (S.set i (.sh d)) (σ.set i (some v)) G H :=
  R.setPlain (fun _ z => by cases z) (fun _ _ z => by cases z) (fun e => ⟨v, e, r⟩) (.inl hi)
theorem StRel.setNo (R : StRel K G0 H0 S σ G H) (i : Nat) (o : Option V) : StRel K G0 H0 (S.set i .no) (σ.set i o) G H :=
  R.setPlain (fun _ z => by cases z) (fun _ _ z => by cases z) (fun _ => trivial) (.inr rfl)
/-- a slot takes a new list of the def's own -/
theorem StRel.setOw (R : StRel K G0 H0 S σ G H) {i : Nat} {p : Addr} {xs : List V} {ds : List D} (h1 : H p = some (.lst xs)) (g : G p = none) (r : RepL K G xs ds) (h0 : H0 p = none) (hi : i < σ.length)
    (hn : ∀ (j : Nat) (es : List D), S[j]? = some (.ow es) → σ[j]? = some (some (.ref p)) → False) (ho : ∀ (j : Nat) (a : Addr) (rows cl : List D), S[j]? = some (.ob rows cl) → σ[j]? = some (some (.ref a)) → ∃ r c, ObAt H a r c ∧ p ≠ r ∧ p ≠ c) : StRel K G0 H0 (S.set i (.ow ds)) (σ.set i (some (.ref p))) G H := by
  have hS : i < S.length := by rw [R.ev.len]; exact hi
  have hob : ∀ rows cl, (SV.ow ds) ≠ .ob rows cl := fun _ _ z => by cases z
  refine ⟨⟨R.sub, by simp [R.ev.len], fun j sv h => ?_⟩, R.ext, fun j a es h q => ?_, fun j l a es fs ne q1 q2 q3 q4 => ?_, fun j a rows cl h q => ?_, fun j l a b rows cl es h1 h2 q1 q2 => ?_, fun j l rows cl rows' cl' h1 h2 => R.obu j l _ _ _ _ (set_ob hob h1).2 (set_ob hob h2).2⟩
  · by_cases e : i = j
    · subst e
      rw [List.getElem?_set_self hS] at h
      cases h
      exact ⟨p, xs, by rw [List.getElem?_set_self hi], h1, g, r⟩
    · rw [List.getElem?_set_ne e] at h ⊢
      exact R.ev.sl j sv h
  · by_cases e : i = j
    · subst e
      rw [List.getElem?_set_self hi] at q
      cases q
      exact h0
    · rw [List.getElem?_set_ne e] at h q
      exact R.own j a es h q
  · by_cases e : i = j
    · subst e
      rw [List.getElem?_set_self hi] at q3
      cases q3
      rw [List.getElem?_set_ne ne] at q2 q4
      exact hn l fs q2 q4
    · rw [List.getElem?_set_ne e] at q1 q3
      by_cases e2 : i = l
      · subst e2
        rw [List.getElem?_set_self hi] at q4
        cases q4
        exact hn j es q1 q3
      · rw [List.getElem?_set_ne e2] at q2 q4
        exact R.dis j l a es fs ne q1 q2 q3 q4
  · obtain ⟨ne, h⟩ := set_ob hob h
    rw [List.getElem?_set_ne ne] at q
    exact R.obo j a rows cl h q
  · obtain ⟨n1, h1⟩ := set_ob hob h1
    rw [List.getElem?_set_ne n1] at q1
    by_cases e2 : i = l
    · subst e2
      rw [List.getElem?_set_self hi] at q2
      cases q2
      exact ho j a rows cl h1 q1
    · rw [List.getElem?_set_ne e2] at h2 q2
      exact R.obd j l a b rows cl es h1 h2 q1 q2
/-- the def's own list is changed -/
theorem StRel.write (R : StRel K G0 H0 S σ G H) {i : Nat} {p : Addr} {xs : List V} {ds es : List D} (hS : S[i]? = some (.ow ds)) (hσ : σ[i]? = some (some (.ref p))) (r : RepL K G xs es) : StRel K G0 H0 (S.set i (.ow es)) σ G (upd H p (.lst xs)) := by
  obtain ⟨a, ys, q, ha, ga, ra⟩ := R.ev.sl i _ hS
  rw [hσ] at q
  cases q
  have hiS : i < S.length := (List.getElem?_eq_some_iff.mp hS).1
  have h0 := R.own i p ds hS hσ
  have hob : ∀ rows cl, (SV.ow es) ≠ .ob rows cl := fun _ _ z => by cases z
  have obk : ∀ {a r c : Addr}, ObAt H a r c → ObAt (upd H p (.lst xs)) a r c := fun {a r c} h => by
    obtain ⟨C, dx, h⟩ := h
    refine ⟨C, dx, ?_⟩
    rw [upd_ne (fun e => by subst e; rw [ha] at h; cases h)]
    exact h
  have old : ∀ (j : Nat) (fs : List D), (S.set i (.ow es))[j]? = some (.ow fs) → ∃ fs', S[j]? = some (.ow fs') := fun j fs h => by
    by_cases e : i = j
    · subst e
      exact ⟨ds, hS⟩
    · rw [List.getElem?_set_ne e] at h
      exact ⟨fs, h⟩
  refine ⟨⟨fun b o z => ?_, by simp [R.ev.len], fun j sv h => ?_⟩, R.ext.mut h0 ga, fun j a fs h z => ?_, fun j l a fs gs ne q1 q2 q3 q4 => ?_, fun j a rows cl h q => ?_, fun j l a b rows cl fs h1 h2 q1 q2 => ?_, fun j l rows cl rows' cl' h1 h2 => R.obu j l _ _ _ _ (set_ob hob h1).2 (set_ob hob h2).2⟩
  · rw [upd_ne (ne_of_none z ga)]
    exact R.sub _ _ z
  · by_cases e : i = j
    · subst e
      rw [List.getElem?_set_self hiS] at h
      cases h
      exact ⟨p, xs, hσ, upd_same, ga, r⟩
    · rw [List.getElem?_set_ne e] at h
      have z := R.ev.sl j sv h
      cases sv with
      | no => trivial
      | sh d => exact z
      | ow fs =>
        obtain ⟨b, zs, z1, z2, z3, z4⟩ := z
        have nb : b ≠ p := fun eb => by
          subst eb
          exact R.dis i j b ds fs e hS h hσ z1
        exact ⟨b, zs, z1, by rw [upd_ne nb]; exact z2, z3, z4⟩
      | ob rows cl =>
        obtain ⟨C, b, dx, rr, cc, zs, ws, z0, z1, z2, z3, z4, z5⟩ := z
        obtain ⟨r', c', y1, y2, y3⟩ := R.obd j i b p rows cl ds h hS z1 hσ
        obtain ⟨e1, e2⟩ := y1.uniq ⟨C, dx, z2⟩
        subst e1 e2
        have nb : b ≠ p := fun eb => by subst eb; rw [ha] at z2; cases z2
        exact ⟨C, b, dx, _, _, zs, ws, z0, z1, by rw [upd_ne nb]; exact z2, by rw [upd_ne (Ne.symm y2)]; exact z3, by rw [upd_ne (Ne.symm y3)]; exact z4, z5⟩
  · obtain ⟨fs', h'⟩ := old j fs h
    by_cases e : i = j
    · subst e
      exact R.own i a ds hS z
    · exact R.own j a fs' h' z
  · obtain ⟨f1, q1⟩ := old j fs q1
    obtain ⟨f2, q2⟩ := old l gs q2
    exact R.dis j l a f1 f2 ne q1 q2 q3 q4
  · obtain ⟨r1, c1, y1, y2⟩ := R.obo j a rows cl (set_ob hob h).2 q
    exact ⟨r1, c1, obk y1, y2⟩
  · obtain ⟨f2, h2⟩ := old l fs h2
    obtain ⟨r1, c1, y1, y2⟩ := R.obd j l a b rows cl f2 (set_ob hob h1).2 h2 q1 q2
    exact ⟨r1, c1, obk y1, y2⟩
/-- the def's own list is given away: plain from then on -/
theorem StRel.frz (R : StRel K G0 H0 S σ G H) {i : Nat} {ds : List D} (hS : S[i]? = some (.ow ds)) : ∃ G', StRel K G0 H0 (S.set i (.sh (.lst ds))) σ G' H := by
  obtain ⟨p, xs, hσ, ha, ga, ra⟩ := R.ev.sl i _ hS
  have h0 := R.own i p ds hS hσ
  have hiS : i < S.length := (List.getElem?_eq_some_iff.mp hS).1
  have hi : i < σ.length := by rw [← R.ev.len]; exact hiS
  have hs : ∀ es, (SV.sh (.lst ds)) ≠ .ow es := fun _ z => by cases z
  have hob : ∀ rows cl, (SV.sh (.lst ds)) ≠ .ob rows cl := fun _ _ z => by cases z
  refine ⟨upd G p (.lst xs), ⟨⟨(R.ext.freeze h0 ha ga).sub, by simp [R.ev.len], fun j sv h => ?_⟩, R.ext.freeze h0 ha ga, fun j a fs h z => R.own j a fs (set_ow hs h).2 z, fun j l a fs gs ne q1 q2 q3 q4 => R.dis j l a fs gs ne (set_ow hs q1).2 (set_ow hs q2).2 q3 q4,
    fun j a rows cl h q => R.obo j a rows cl (set_ob hob h).2 q, fun j l a b rows cl fs h1 h2 q1 q2 => R.obd j l a b rows cl fs (set_ob hob h1).2 (set_ow hs h2).2 q1 q2, fun j l rows cl rows' cl' h1 h2 => R.obu j l _ _ _ _ (set_ob hob h1).2 (set_ob hob h2).2⟩⟩
  by_cases e : i = j
  · subst e
    rw [List.getElem?_set_self hiS] at h
    cases h
    exact ⟨.ref p, hσ, .lst upd_same (ra.mono (same_upd ga _))⟩
  · rw [List.getElem?_set_ne e] at h
    have z := R.ev.sl j sv h
    cases sv with
    | no => trivial
    | sh d =>
      obtain ⟨v, z1, z2⟩ := z
      exact ⟨v, z1, z2.mono (same_upd ga _)⟩
    | ow fs =>
      obtain ⟨b, zs, z1, z2, z3, z4⟩ := z
      have nb : b ≠ p := fun eb => by
        subst eb
        exact R.dis i j b ds fs e hS h hσ z1
      exact ⟨b, zs, z1, z2, by rw [upd_ne nb]; exact z3, z4.mono (same_upd ga _)⟩
    | ob rows cl =>
      obtain ⟨C, b, dx, rr, cc, zs, ws, z0, z1, z2, z3, z4, z5, z6, z7, z8, z9, z10⟩ := z
      obtain ⟨r', c', y1, y2, y3⟩ := R.obd j i b p rows cl ds h hS z1 hσ
      obtain ⟨e1, e2⟩ := y1.uniq ⟨C, dx, z2⟩
      subst e1 e2
      have nb : b ≠ p := fun eb => by subst eb; rw [ha] at z2; cases z2
      exact ⟨C, b, dx, _, _, zs, ws, z0, z1, z2, z3, z4, by rw [upd_ne nb]; exact z5, by rw [upd_ne (Ne.symm y2)]; exact z6, by rw [upd_ne (Ne.symm y3)]; exact z7, z8, z9.mono (same_upd ga _), z10.mono (same_upd ga _)⟩
/-- so the def's own object -/
theorem StRel.frzOb (R : StRel K G0 H0 S σ G H) {i : Nat} {rows cl : List D} (hS : S[i]? = some (.ob rows cl)) : ∃ G', StRel K G0 H0 (S.set i (.sh (.ob rows cl))) σ G' H := by
  obtain ⟨C, p, dx, r, c, xs, ys, hC, hσ, ha, hr, hc, ga, gr, gc, rc, ra, rb⟩ := R.ev.sl i _ hS
  obtain ⟨r', c', y1, h0a, h0r, h0c⟩ := R.obo i p rows cl hS hσ
  obtain ⟨e1, e2⟩ := y1.uniq ⟨C, dx, ha⟩
  subst e1 e2
  have hiS : i < S.length := (List.getElem?_eq_some_iff.mp hS).1
  have nra : r' ≠ p := fun e => by subst e; rw [ha] at hr; cases hr
  have nca : c' ≠ p := fun e => by subst e; rw [ha] at hc; cases hc
  have E1 := R.ext.freeze h0a ha ga
  have g1 : upd G p (.ins C dx (spF r' c')) r' = none := by rw [upd_ne nra]; exact gr
  have E2 := E1.freeze h0r hr g1
  have g2 : upd (upd G p (.ins C dx (spF r' c'))) r' (.lst xs) c' = none := by rw [upd_ne (Ne.symm rc), upd_ne nca]; exact gc
  have E3 := E2.freeze h0c hc g2
  have s1 : Same G (upd (upd (upd G p (.ins C dx (spF r' c'))) r' (.lst xs)) c' (.lst ys)) := ((same_upd ga _).trans (same_upd g1 _)).trans (same_upd g2 _)
  have hs : ∀ es, (SV.sh (.ob rows cl)) ≠ .ow es := fun _ z => by cases z
  have hob : ∀ rows' cl', (SV.sh (.ob rows cl)) ≠ .ob rows' cl' := fun _ _ z => by cases z
  refine ⟨_, ⟨⟨E3.sub, by simp [R.ev.len], fun j sv h => ?_⟩, E3, fun j a fs h z => R.own j a fs (set_ow hs h).2 z, fun j l a fs gs ne q1 q2 q3 q4 => R.dis j l a fs gs ne (set_ow hs q1).2 (set_ow hs q2).2 q3 q4,
    fun j a rows cl h q => R.obo j a rows cl (set_ob hob h).2 q, fun j l a b rows cl fs h1 h2 q1 q2 => R.obd j l a b rows cl fs (set_ob hob h1).2 (set_ow hs h2).2 q1 q2, fun j l rows cl rows' cl' h1 h2 => R.obu j l _ _ _ _ (set_ob hob h1).2 (set_ob hob h2).2⟩⟩
  by_cases e : i = j
  · subst e
    rw [List.getElem?_set_self hiS] at h
    cases h
    refine ⟨.ref p, hσ, .ob (dx := dx) (r := r') (c := c') (xs := xs) (ys := ys) hC ?_ ?_ upd_same (ra.mono s1) (rb.mono s1)⟩
    · rw [upd_ne (Ne.symm nca), upd_ne (Ne.symm nra), upd_same]
    · rw [upd_ne rc, upd_same]
  · rw [List.getElem?_set_ne e] at h
    have z := R.ev.sl j sv h
    cases sv with
    | no => trivial
    | sh d =>
      obtain ⟨v, z1, z2⟩ := z
      exact ⟨v, z1, z2.mono s1⟩
    | ow fs =>
      obtain ⟨b, zs, z1, z2, z3, z4⟩ := z
      obtain ⟨r2, c2, w1, w2, w3⟩ := R.obd i j p b rows cl fs hS h hσ z1
      obtain ⟨e1, e2⟩ := w1.uniq y1
      subst e1 e2
      have nb : b ≠ p := fun eb => by subst eb; rw [ha] at z2; cases z2
      exact ⟨b, zs, z1, z2, by rw [upd_ne w3, upd_ne w2, upd_ne nb]; exact z3, z4.mono s1⟩
    | ob rows2 cl2 => exact absurd (R.obu i j _ _ _ _ hS h) e
/-- a slot takes a new object -/
theorem StRel.setOb (R : StRel K G0 H0 S σ G H) {i : Nat} {C a dx r c : Addr} {xs ys : List V} {rows cl : List D} (hC : SpanC K C) (ha : H a = some (.ins C dx (spF r c))) (hr : H r = some (.lst xs)) (hc : H c = some (.lst ys)) (ga : G a = none) (gr : G r = none) (gc : G c = none) (rc : r ≠ c)
    (r1 : RepL K G xs rows) (r2 : RepL K G ys cl) (h0a : H0 a = none) (h0r : H0 r = none) (h0c : H0 c = none) (hi : i < σ.length) (hno : S.any isObS = false)
    (hn : ∀ (j : Nat) (es : List D) (b : Addr), S[j]? = some (.ow es) → σ[j]? = some (some (.ref b)) → b ≠ r ∧ b ≠ c) : StRel K G0 H0 (S.set i (.ob rows cl)) (σ.set i (some (.ref a))) G H := by
  have hS : i < S.length := by rw [R.ev.len]; exact hi
  have none_ : ∀ (j : Nat) (rows cl : List D), S[j]? ≠ some (.ob rows cl) := fun j rows cl h => by
    have := List.any_eq_false.mp hno _ (List.mem_of_getElem? h)
    exact this rfl
  have hs : ∀ es, (SV.ob rows cl) ≠ .ow es := fun _ z => by cases z
  have here : ∀ (j : Nat) (rows' cl' : List D), (S.set i (.ob rows cl))[j]? = some (.ob rows' cl') → i = j := fun j rows' cl' h => by
    by_cases e : i = j
    · exact e
    · rw [List.getElem?_set_ne e] at h
      exact absurd h (none_ _ _ _)
  refine ⟨⟨R.sub, by simp [R.ev.len], fun j sv h => ?_⟩, R.ext, fun j b es h q => ?_, fun j l b es fs ne q1 q2 q3 q4 => ?_, fun j b rows' cl' h q => ?_, fun j l b b' rows' cl' es h1 h2 q1 q2 => ?_, fun j l rows cl rows' cl' h1 h2 => (here j _ _ h1).symm.trans (here l _ _ h2)⟩
  · by_cases e : i = j
    · subst e
      rw [List.getElem?_set_self hS] at h
      cases h
      exact ⟨C, a, dx, r, c, xs, ys, hC, by rw [List.getElem?_set_self hi], ha, hr, hc, ga, gr, gc, rc, r1, r2⟩
    · rw [List.getElem?_set_ne e] at h ⊢
      exact R.ev.sl j sv h
  · obtain ⟨ne, h⟩ := set_ow hs h
    rw [List.getElem?_set_ne ne] at q
    exact R.own j b es h q
  · obtain ⟨n1, q1⟩ := set_ow hs q1
    obtain ⟨n2, q2⟩ := set_ow hs q2
    rw [List.getElem?_set_ne n1] at q3
    rw [List.getElem?_set_ne n2] at q4
    exact R.dis j l b es fs ne q1 q2 q3 q4
  · obtain rfl := here j _ _ h
    rw [List.getElem?_set_self hi] at q
    cases q
    exact ⟨r, c, ⟨C, dx, ha⟩, h0a, h0r, h0c⟩
  · obtain rfl := here j _ _ h1
    obtain ⟨n2, h2⟩ := set_ow hs h2
    rw [List.getElem?_set_self hi] at q1
    cases q1
    rw [List.getElem?_set_ne n2] at q2
    exact ⟨r, c, ⟨C, dx, ha⟩, hn l es b' h2 q2⟩
/-- the def's own object is changed -/
theorem StRel.putOb (R : StRel K G0 H0 S σ G H) {i : Nat} {C a dx r c : Addr} {xs ys : List V} {rows cl rows' cl' : List D} (hS : S[i]? = some (.ob rows cl)) (hσ : σ[i]? = some (some (.ref a))) (hC : SpanC K C) (ha : H a = some (.ins C dx (spF r c)))
    (ga : G a = none) (gr : G r = none) (gc : G c = none) (rc : r ≠ c) (hrl : ∃ zs, H r = some (.lst zs)) (hcl : ∃ zs, H c = some (.lst zs)) (E : ExtO r c G H G1 H1) (hr : H1 r = some (.lst xs)) (hc : H1 c = some (.lst ys)) (r1 : RepL K G1 xs rows') (r2 : RepL K G1 ys cl') :
    StRel K G0 H0 (S.set i (.ob rows' cl')) σ G1 H1 := by
  have hiS : i < S.length := (List.getElem?_eq_some_iff.mp hS).1
  obtain ⟨r', c', y1, h0a, h0r, h0c⟩ := R.obo i a rows cl hS hσ
  obtain ⟨e1, e2⟩ := y1.uniq ⟨C, dx, ha⟩
  subst e1 e2
  obtain ⟨zr, hrl⟩ := hrl
  obtain ⟨zc, hcl⟩ := hcl
  have nar : a ≠ r' := fun e => by subst e; rw [ha] at hrl; cases hrl
  have nac : a ≠ c' := fun e => by subst e; rw [ha] at hcl; cases hcl
  have ha1 : H1 a = some (.ins C dx (spF r' c')) := E.h _ _ ha nar nac
  have gn : ∀ {b : Addr} {o : HO}, H b = some o → G b = none → G1 b = none := fun {b o} h g => by
    cases q : G1 b with
    | none => rfl
    | some u =>
      have z := E.new b u q g
      rw [h] at z
      cases z
  have E' : Ext G0 H0 G1 H1 := ⟨R.ext.g.trans E.g, fun b o q => E.h b o (R.ext.h b o q) (fun e => by subst e; rw [h0r] at q; cases q) (fun e => by subst e; rw [h0c] at q; cases q), E.sub, fun b o q n => by
    cases z : G b with
    | some u => exact R.ext.new b u z n
    | none => exact R.ext.h.free (E.new b o q z)⟩
  have hs : ∀ es, (SV.ob rows' cl') ≠ .ow es := fun _ z => by cases z
  have here : ∀ (j : Nat) (rows2 cl2 : List D), (S.set i (.ob rows' cl'))[j]? = some (.ob rows2 cl2) → i = j := fun j rows2 cl2 h => by
    by_cases e : i = j
    · exact e
    · rw [List.getElem?_set_ne e] at h
      exact R.obu i j _ _ _ _ hS h
  refine ⟨⟨E.sub, by simp [R.ev.len], fun j sv h => ?_⟩, E', fun j b es h q => R.own j b es (set_ow hs h).2 q, fun j l b es fs ne q1 q2 q3 q4 => R.dis j l b es fs ne (set_ow hs q1).2 (set_ow hs q2).2 q3 q4, fun j b rows2 cl2 h q => ?_, fun j l b b' rows2 cl2 es h1 h2 q1 q2 => ?_, fun j l _ _ _ _ h1 h2 => (here j _ _ h1).symm.trans (here l _ _ h2)⟩
  · by_cases e : i = j
    · subst e
      rw [List.getElem?_set_self hiS] at h
      cases h
      exact ⟨C, a, dx, r', c', xs, ys, hC, hσ, ha1, hr, hc, gn ha ga, gn hrl gr, gn hcl gc, rc, r1, r2⟩
    · rw [List.getElem?_set_ne e] at h
      have z := R.ev.sl j sv h
      cases sv with
      | no => trivial
      | sh d =>
        obtain ⟨v, z1, z2⟩ := z
        exact ⟨v, z1, z2.mono E.g⟩
      | ow fs =>
        obtain ⟨b, zs, z1, z2, z3, z4⟩ := z
        obtain ⟨r2, c2, w1, w2, w3⟩ := R.obd i j a b rows cl fs hS h hσ z1
        obtain ⟨e1, e2⟩ := w1.uniq y1
        subst e1 e2
        exact ⟨b, zs, z1, E.h _ _ z2 w2 w3, gn z2 z3, z4.mono E.g⟩
      | ob rows2 cl2 => exact absurd (R.obu i j _ _ _ _ hS h) e
  · obtain rfl := here j _ _ h
    rw [hσ] at q
    cases q
    exact ⟨r', c', ⟨C, dx, ha1⟩, h0a, h0r, h0c⟩
  · obtain rfl := here j _ _ h1
    rw [hσ] at q1
    cases q1
    obtain ⟨r2, c2, w1, w2⟩ := R.obd i l a b' rows cl es hS (set_ow hs h2).2 hσ q2
    obtain ⟨e1, e2⟩ := w1.uniq y1
    subst e1 e2
    exact ⟨_, _, ⟨C, dx, ha1⟩, w2⟩
end

/-! ### what is wanted of a statement -/
section
variable (K : PySem.W.Frag) (cl : Str → Value) (W : WX) (G0 H0 : Hp)
def Ks (r : SRes) (D : Ends) : Prop := match r with
  | .nx S => ∀ σ G H, StRel K G0 H0 S σ G H → D.nx σ H
  | .ret d fr => ∀ v G H, Ext G0 H0 G H → VR K H0 G H v d (if fr then .fr else .sh) → D.rt v H
  | .exc c S => ∀ σ G H, StRel K G0 H0 S σ G H → W (cl c) none σ H
  | .stuck => False
def rdS (n : Nat) (m : MS) : TS := fun D σ H => ∃ S G, StRel K G0 H0 S σ G H ∧ Ks K cl W G0 H0 (exS n m S) D
def rdSs (n : Nat) (ms : List MS) : TS := fun D σ H => ∃ S G, StRel K G0 H0 S σ G H ∧ Ks K cl W G0 H0 (exSs n ms S) D
end
section
variable {K : PySem.W.Frag} {cl : Str → Value} {W : WX} {G0 H0 G H : Hp} {S : List SV} {σ : L2.St} {E : Ends}
theorem st_rd {a : ME} {f : D × Kd → SRes} {Q' : VK} (R : StRel K G0 H0 S σ G H) (h : Ks K cl W G0 H0 (bindS S (evE a S) f) E)
    (hk : ∀ d k v G1 H1, evE a S = .ok (d, k) → Ext G H G1 H1 → VR K H G1 H1 v d k → StRel K G0 H0 S σ G1 H1 → Ks K cl W G0 H0 (f (d, k)) E → Q' v H1) : rd K cl W a σ H Q' := by
  refine ⟨S, G, R.ev, ?_⟩
  cases e : evE a S with
  | ok r =>
    rw [e] at h
    exact fun v G1 H1 E1 x => hk r.1 r.2 v G1 H1 e E1 x (R.grow E1) h
  | exc c =>
    rw [e] at h
    exact fun G1 H1 E1 => h σ G1 H1 (R.grow E1)
  | stuck => rw [e] at h; exact h
theorem st_rdT {a : ME} {f : D × Kd → SRes} {Q' : Bool → Hp → Prop} (R : StRel K G0 H0 S σ G H) (h : Ks K cl W G0 H0 (bindS S (evE a S) f) E) (hf : ∀ d k, (∀ b, d ≠ .bl b) → f (d, k) = .stuck)
    (hk : ∀ b k G1 H1, StRel K G0 H0 S σ G1 H1 → Ks K cl W G0 H0 (f (.bl b, k)) E → Q' b H1) : rdT K cl W a σ H Q' := by
  refine ⟨S, G, R.ev, ?_⟩
  cases e : evE a S with
  | ok r =>
    rw [e] at h
    obtain ⟨d, k⟩ := r
    have no : (∀ b, d ≠ .bl b) → False := fun z => by
      have h' : Ks K cl W G0 H0 (f (d, k)) E := h
      rw [hf d k z] at h'
      exact h'
    cases d with
    | bl b => exact fun G1 H1 E1 => hk b k G1 H1 (R.grow E1) h
    | non => exact (no fun b q => by cases q).elim
    | int => exact (no fun b q => by cases q).elim
    | str => exact (no fun b q => by cases q).elim
    | tup => exact (no fun b q => by cases q).elim
    | lst => exact (no fun b q => by cases q).elim
    | scr => exact (no fun b q => by cases q).elim
    | ob => exact (no fun b q => by cases q).elim
  | exc c =>
    rw [e] at h
    exact fun G1 H1 E1 => h σ G1 H1 (R.grow E1)
  | stuck => rw [e] at h; exact h
theorem st_rdI {k : IK} {es : List ME} {f : List D → SRes} {Q' : It → Hp → Prop} (R : StRel K G0 H0 S σ G H) (h : Ks K cl W G0 H0 (bindS S (evI k es S) f) E)
    (hk : ∀ xs J vs G1 H1, StRel K G0 H0 S σ G1 H1 → WalkOk J G1 vs → RepL K G1 vs xs → Ks K cl W G0 H0 (f xs) E → Q' J H1) : rdI K cl W k es σ H Q' := by
  refine ⟨S, G, R.ev, ?_⟩
  cases e : evI k es S with
  | ok r =>
    rw [e] at h
    exact fun J vs G1 H1 E1 w rp => hk r J vs G1 H1 (R.grow E1) w rp h
  | exc c =>
    rw [e] at h
    exact fun G1 H1 E1 => h σ G1 H1 (R.grow E1)
  | stuck => rw [e] at h; exact h
end

/-- what is known around a def's statements -/
structure SOk (X : Cx) (N : List Str) (sc : Scope) (W : WX) (k : Nat) : Prop extends XOk X N sc W k where
  fnT : ∀ x, X.fn x = true
  own : PassesOwn (model X.prog X.w) X.A X.env X.xe
  kindF : X.env.scope.kind = .function
  stk : X.stack = X.env :: X.outer
  frm : X.env.frame = some X.env.locals
/-- a class by its name, in isinstance -/
def NameC (mg : Str → Option Value) (c : Str) (v : V) (u : Value) : Prop := (∃ C : Addr, mg c = some (.ref C) ∧ v = .ref C ∧ u = .ref C) ∨ (c = "ValueError" ∧ mg c = none ∧ v = .ty "ValueError" ∧ u = .type "ValueError")
def KitAll (K : PySem.W.Frag) (mg : Str → Option Value) (A : Addr) : List Str → List Bool → Prop
  | [], [] => True
  | c :: cs, b :: bs => (∃ v u, NameC mg c v u ∧ PySem.W.kitOne K (.ref A) u = some b) ∧ KitAll K mg A cs bs
  | _, _ => False
/-- what a clause of a try needs of an exception's class -/
def GoodTri (K : PySem.W.Frag) (mg : Str → Option Value) (cl : Str → Value) (cK : Value) (cs : List Str) (p : Str × List Bool) : Prop := ∃ A : Addr, cl p.1 = .ref A ∧ PySem.W.exmOne K (.ref A) cK = some true ∧ ExcC K A ∧ KitAll K mg A cs p.2
def GoodRais (K : PySem.W.Frag) (mg : Str → Option Value) (cl : Str → Value) (c : Str) : Prop := ∃ C : Addr, cl c = .ref C ∧ mg c = some (.ref C) ∧ PySem.W.excIn K C [.type "ValueError", .type "Exception", .type "BaseException", .type "object"] "ValueError.__new__" = true ∧ PySem.W.keepIn K (.ref C) = true ∧
  PySem.W.subIn K (.ref C) (.type "BaseException") = some true ∧ PySem.W.typeIn K (.ref C) = some (.type "type")
def GoodEx (K : PySem.W.Frag) (mg : Str → Option Value) (cl : Str → Value) : ExI → Prop
  | .rais c => GoodRais K mg cl c
  | .tri Kn cs tab => ∃ cK, mg Kn = some cK ∧ AllC (GoodTri K mg cl cK cs) tab
theorem ps_imp {X : Cx} {e : Stmt} {t t' : TS} (h : PS X e t) (i : ∀ D σ H, σ.length = X.N.length → t' D σ H → t D σ H) : PS X e t' := ⟨fun pins s σ H D I q => h.run pins s σ H D I (i D σ H I.len q)⟩
theorem pss_imp {X : Cx} {e : List Stmt} {t t' : TS} (h : PSs X e t) (i : ∀ D σ H, t' D σ H → t D σ H) : PSs X e t' := ⟨fun pins s σ H D I q => h.run pins s σ H D I (i D σ H q)⟩
def SndS (n : Nat) (m : MS) : Prop := ∀ (X : Cx) (N : List Str) (sc : Scope) (cl : Str → Value) (W : WX) (k : Nat) (G0 H0 : Hp) (st : Stmt), SOk X N sc W k → chkS N m sc st = true →
  AllC (GoodFn X.prog X.w X.K X.mg X.base cl k) (callsS m) → AllC (GoodGl X.K X.mg) (glosS m) → AllC (GoodEx X.K X.mg cl) (excsS m) → PS X st (rdS X.K cl W G0 H0 n m)
def SndSs (n : Nat) (ms : List MS) : Prop := ∀ (X : Cx) (N : List Str) (sc : Scope) (cl : Str → Value) (W : WX) (k : Nat) (G0 H0 : Hp) (sts : List Stmt), SOk X N sc W k → chkSs N ms sc sts = true →
  AllC (GoodFn X.prog X.w X.K X.mg X.base cl k) (callsSs ms) → AllC (GoodGl X.K X.mg) (glosSs ms) → AllC (GoodEx X.K X.mg cl) (excsSs ms) → PSs X sts (rdSs X.K cl W G0 H0 n ms)
section
variable {X : Cx} {N : List Str} {sc : Scope} {cl : Str → Value} {W : WX} {k : Nat}
theorem locE_ok (x : XOk X N sc W k) {i : Nat} {y : Str} (h : locE N sc i y = true) : X.N[i]? = some y ∧ Loc X.env.scope y ∧ i < X.N.length := by
  unfold locE okName at h
  simp only [Bool.and_eq_true, Bool.or_eq_true, decide_eq_true_eq, Bool.not_eq_true'] at h
  have e : X.N[i]? = some y := by rw [x.hN]; exact h.1.1
  refine ⟨e, ?_, (List.getElem?_eq_some_iff.mp e).1⟩
  rw [x.sc]
  exact h.1.2
/-- a comprehension of the text, whatever its form -/
theorem lc_of {m : ME} {b : Expr} {gens : List Comprehension} {scope : Scope} {pos : Pos} (x : XOk X N sc W k) (hc : chkE N m sc (.ListComp b gens scope pos) = true) (hf : AllC (GoodFn X.prog X.w X.K X.mg X.base cl k) (callsE m)) (hg : AllC (GoodGl X.K X.mg) (glosE m)) :
    ∃ tg it ifs own wi g tt te, gens = [⟨tg, it, ifs, 0⟩] ∧ IsLc X cl W m b tg it ifs scope own wi g tt te := by
  cases m <;> try exact absurd hc Bool.false_ne_true
  · rename_i elt i kk es
    match gens, hc with
    | [⟨.Name y yp, it, [], 0⟩], hc =>
      have hc : (ownE N sc scope i y && chkE N elt (relS scope sc) b && chkI N sc kk es it) = true := hc
      rw [Bool.and_eq_true, Bool.and_eq_true] at hc
      exact ⟨_, _, _, _, _, _, _, _, rfl, lc_comp (cl := cl) (W := W) (yp := yp) i kk (snd_all elt) (snd_alls es) x hc.1.1 hc.1.2 hc.2 hf hg⟩
  · rename_i elt i kk es c
    match gens, hc with
    | [⟨.Name y yp, it, [t], 0⟩], hc =>
      have hc : (ownE N sc scope i y && chkE N elt (relS scope sc) b && chkE N c (relS scope sc) t && chkI N sc kk es it) = true := hc
      rw [Bool.and_eq_true, Bool.and_eq_true, Bool.and_eq_true] at hc
      exact ⟨_, _, _, _, _, _, _, _, rfl, lc_compIf (cl := cl) (W := W) (yp := yp) i kk (snd_all elt) (snd_all c) (snd_alls es) x hc.1.1.1 hc.1.1.2 hc.1.2 hc.2 hf hg⟩
/-- name = e, any e of the small syntax -/
theorem ps_any {m : ME} {e : Expr} {i : Nat} {y : Str} {yp pos : Pos} (x : SOk X N sc W k) (hl : locE N sc i y = true) (hc : chkE N m sc e = true) (hf : AllC (GoodFn X.prog X.w X.K X.mg X.base cl k) (callsE m)) (hg : AllC (GoodGl X.K X.mg) (glosE m)) :
    PS X (.Assign [.Name y yp] e pos) (tAsg (rd X.K cl W m) (gName i)) := by
  obtain ⟨h1, h2, h3⟩ := locE_ok x.toXOk hl
  have pe := (snd_all m X N sc cl W k e x.toXOk hc hf hg).1
  by_cases hlc : ∃ b gens scope p, e = .ListComp b gens scope p
  · obtain ⟨b, gens, scope, p, rfl⟩ := hlc
    obtain ⟨tg, it, ifs, own, wi, g, tt, te, rfl, L⟩ := lc_of (cl := cl) x.toXOk hc hf hg
    by_cases hy : X.env.scope.names.lookup y = some .local ∧ (yp.line == p.line) = true ∧ (scope.names.any fun (n, k) => n == y && (k == .local || k == .cell)) = false
    · exact ps_imp (ps_setLc x.calm x.nd h1 hy.1 (sw_true x.kindF hy.1 hy.2.1 hy.2.2) L.pi L.ok L.hg L.ht L.he L.hs) fun D σ H hn h => L.rd σ H _ hn h
    · refine ps_set x.nd h1 h2 pe ?_ (.inl (x.fnT _))
      unfold swapsWith
      have hk : (X.env.blockKind == .function && X.env.kindOf y == some .local && yp.line == (Expr.ListComp b [⟨tg, it, ifs, 0⟩] scope p).pos.line && !(scope.names.any fun (n, k) => n == y && (k == .local || k == .cell))) = false := by
        rw [Bool.eq_false_iff]
        intro z
        simp only [Bool.and_eq_true, beq_iff_eq, Bool.not_eq_true'] at z
        exact hy ⟨z.1.1.2, by simpa [Expr.pos] using z.1.2, z.2⟩
      simp only [hk]
  · refine ps_set x.nd h1 h2 pe ?_ (.inl (x.fnT _))
    cases e <;> first
      | rfl
      | exact absurd ⟨_, _, _, _, rfl⟩ hlc
      | (cases m <;> exact absurd hc Bool.false_ne_true)
end
theorem s_set (n i : Nat) (m : ME) : SndS n (.set i m) := by
  intro X N sc cl W k G0 H0 st x hc hf hg _
  cases st <;> try exact absurd hc Bool.false_ne_true
  rename_i ts e pos
  match ts, hc with
  | [.Name y yp], hc =>
    have hc : (locE N sc i y && chkE N m sc e) = true := hc
    rw [Bool.and_eq_true] at hc
    have hi := (locE_ok x.toXOk hc.1).2.2
    refine ps_imp (ps_any x hc.1 hc.2 hf hg) fun D σ H hn ⟨S, G, R, h⟩ => ?_
    rw [exS] at h
    refine st_rd R h fun d kd v G1 H1 _ E1 r1 R1 h1 => ?_
    split at h1
    · exact False.elim h1
    · rename_i hk
      obtain ⟨G2, E2, s2, rp⟩ := r1.fix E1 hk
      exact h1 _ G2 H1 ((R.grow E2).setSh rp (by rw [hn]; exact hi))
theorem s_own (n i : Nat) (m : ME) : SndS n (.own i m) := by
  intro X N sc cl W k G0 H0 st x hc hf hg _
  cases st <;> try exact absurd hc Bool.false_ne_true
  rename_i ts e pos
  match ts, hc with
  | [.Name y yp], hc =>
    have hc : (locE N sc i y && chkE N m sc e) = true := hc
    rw [Bool.and_eq_true] at hc
    have hi := (locE_ok x.toXOk hc.1).2.2
    refine ps_imp (ps_any x hc.1 hc.2 hf hg) fun D σ H hn ⟨S, G, R, h⟩ => ?_
    rw [exS] at h
    refine st_rd R h fun d kd v G1 H1 _ E1 r1 R1 h1 => ?_
    cases kd with
    | sh =>
      cases d <;> try exact False.elim h1
      exact h1 _ G1 H1 (R1.setSh r1 (by rw [hn]; exact hi))
    | bo => cases d <;> exact False.elim h1
    | fr =>
      rcases r1 with ⟨p, xs, ds, rfl, e2, h0, hp, gp, rp⟩ | r1
      rotate_left
      · obtain ⟨_, e2⟩ := r1.isTup
        have e2 : d = .tup _ := e2
        subst e2
        exact False.elim h1
      have e2 : d = .lst ds := e2
      subst e2
      refine h1 _ G1 H1 (R1.setOw hp gp rp (R.ext.h.free h0) (by rw [hn]; exact hi) (fun j es q1 q2 => ?_) (fun j a rows cl q1 q2 => ?_))
      · obtain ⟨a, ys, q3, q4, _⟩ := R.ev.sl j _ q1
        rw [q2] at q3
        cases q3
        rw [h0] at q4
        cases q4
      · obtain ⟨C, a', dx, r, c, xs', ys', z0, z1, z2, z3, z4, _⟩ := R.ev.sl j _ q1
        rw [q2] at z1
        cases z1
        exact ⟨r, c, ⟨C, dx, E1.h _ _ z2⟩, ⟨(fun e => by subst e; rw [h0] at z3; cases z3), (fun e => by subst e; rw [h0] at z4; cases z4)⟩⟩
def gAll : List Nat → TGs
  | [] => gNil
  | i :: is => gCons (gName i) (gAll is)
theorem names_pgs {X : Cx} {N : List Str} {sc : Scope} {W : WX} {k : Nat} (x : XOk X N sc W k) (fnT : ∀ y, X.fn y = true) : ∀ {is : List Nat} {ts : List Expr}, namesU N sc is ts = true →
    PGs X ts (gAll is) ∧ (assignEach ts X.env).length = is.length ∧ (assignEach ts X.env).findIdx? (·.1) = none ∧ ∀ i ∈ is, i < X.N.length
  | [], [], _ => ⟨pgs_nil, rfl, rfl, fun _ z => by cases z⟩
  | i :: is, .Name y yp :: ts, hn => by
    have hn : (locE N sc i y && namesU N sc is ts) = true := hn
    rw [Bool.and_eq_true] at hn
    obtain ⟨h1, h2, h3⟩ := locE_ok x hn.1
    obtain ⟨p, q, r, l⟩ := names_pgs x fnT hn.2
    refine ⟨pgs_cons (pg_name x.nd h1 h2 (.inl (fnT _))) p rfl, ?_, ?_, fun j hj => ?_⟩
    · show (assignEach ts X.env).length + 1 = is.length + 1
      rw [q]
    · show ((false, assign (.Name y yp) X.env) :: assignEach ts X.env).findIdx? (·.1) = none
      rw [List.findIdx?_cons, r]
      rfl
    · rcases List.mem_cons.mp hj with rfl | hj
      · exact h3
      · exact l j hj
theorem gAll_run {K : PySem.W.Frag} {G0 H0 G H : Hp} {Q : L2.St → Hp → Prop} : ∀ {is : List Nat} {S S' : List SV} {σ : L2.St} {vs : List V} {ds : List D}, StRel K G0 H0 S σ G H → RepL K G vs ds → setAll S is ds = some S' → (∀ i ∈ is, i < σ.length) →
    (∀ σ', StRel K G0 H0 S' σ' G H → Q σ' H) → gAll is vs σ H Q
  | [], S, S', σ, vs, ds, R, rp, hs, _, q => by
    cases ds with
    | cons => cases hs
    | nil =>
      cases rp
      have hs : some S = some S' := hs
      cases hs
      exact ⟨rfl, q σ R⟩
  | i :: is, S, S', σ, vs, ds, R, rp, hs, hl, q => by
    cases ds with
    | nil => cases hs
    | cons d ds =>
      cases rp with
      | cons r rp =>
        have hs : setAll (S.set i (.sh d)) is ds = some S' := hs
        refine ⟨_, _, rfl, gAll_run (R.setSh r (hl i List.mem_cons_self)) rp hs (fun j hj => ?_) q⟩
        rw [List.length_set]
        exact hl j (List.mem_cons_of_mem _ hj)
/-- what is not among the plain data since H, is a new list -/
theorem new_slots {K : PySem.W.Frag} {G0 H0 G H G1 H1 : Hp} {S : List SV} {σ : L2.St} {p : Addr} (R : StRel K G0 H0 S σ G H) (E1 : Ext G H G1 H1) (h0 : H p = none) :
    (∀ (j : Nat) (es : List D), S[j]? = some (.ow es) → σ[j]? = some (some (.ref p)) → False) ∧ ∀ (j : Nat) (a : Addr) (rows cl : List D), S[j]? = some (.ob rows cl) → σ[j]? = some (some (.ref a)) → ∃ r c, ObAt H1 a r c ∧ p ≠ r ∧ p ≠ c := by
  refine ⟨fun j es q1 q2 => ?_, fun j a rows cl q1 q2 => ?_⟩
  · obtain ⟨a, ys, q3, q4, _⟩ := R.ev.sl j _ q1
    rw [q2] at q3
    cases q3
    rw [h0] at q4
    cases q4
  · obtain ⟨C, a', dx, r, c, xs', ys', z0, z1, z2, z3, z4, _⟩ := R.ev.sl j _ q1
    rw [q2] at z1
    cases z1
    exact ⟨r, c, ⟨C, dx, E1.h _ _ z2⟩, ⟨(fun e => by subst e; rw [h0] at z3; cases z3), (fun e => by subst e; rw [h0] at z4; cases z4)⟩⟩
theorem setAll_len : ∀ {is : List Nat} {S S' : List SV} {ds : List D}, setAll S is ds = some S' → ds.length = is.length
  | [], _, _, ds, h => by
    cases ds with
    | nil => rfl
    | cons => cases h
  | i :: is, S, S', ds, h => by
    cases ds with
    | nil => cases h
    | cons d ds =>
      have h : setAll (S.set i (.sh d)) is ds = some S' := h
      rw [List.length_cons, List.length_cons, setAll_len h]
theorem gTup_run {K : PySem.W.Frag} {G0 H0 G H : Hp} {Q : L2.St → Hp → Prop} {is : List Nat} {S S' : List SV} {σ : L2.St} {v : V} {d : D} (R : StRel K G0 H0 S σ G H) (rp : Rep K G v d) (hs : tgU is S d = some S') (hl : ∀ i ∈ is, i < σ.length)
    (q : ∀ σ', StRel K G0 H0 S' σ' G H → Q σ' H) : gTup K is.length (gAll is) v σ H Q := by
  cases d with
  | tup ds =>
    have hs : setAll S is ds = some S' := hs
    cases rp with
    | tup t z => exact ⟨_, _, rfl, seqT R.sub t, by rw [z.len]; exact setAll_len hs, gAll_run R z hs hl q⟩
  | _ => cases hs
theorem s_unp (n : Nat) (is : List Nat) (m : ME) : SndS n (.unp is m) := by
  intro X N sc cl W k G0 H0 st x hc hf hg _
  cases st <;> try exact absurd hc Bool.false_ne_true
  rename_i ts e pos
  match ts, hc with
  | [.Tuple ts kt tp], hc =>
    have hc : (namesU N sc is ts && notTup e && chkE N m sc e) = true := hc
    rw [Bool.and_eq_true, Bool.and_eq_true] at hc
    obtain ⟨⟨hc1, hc2⟩, hc3⟩ := hc
    obtain ⟨p1, p2, p3, p4⟩ := names_pgs x.toXOk x.fnT hc1
    have pe := (snd_all m X N sc cl W k e x.toXOk hc3 hf hg).1
    have hs : swapsWithSole [.Tuple ts kt tp] e pos.line X.env = pure false := by
      cases e <;> first
        | rfl
        | (cases m <;> exact absurd hc3 Bool.false_ne_true)
    have hw : swappedStores [.Tuple ts kt tp] e X.env = pure none := by
      cases e <;> first
        | rfl
        | exact absurd hc2 Bool.false_ne_true
    refine ps_imp (ps_asg pe (pg_tup x.calm p1 p2 p3) hs hw rfl) fun D σ H hn ⟨S, G, R, h⟩ => ?_
    rw [exS] at h
    refine st_rd R h fun d kd v G1 H1 _ E1 r1 R1 h1 => ?_
    split at h1
    · rename_i S' hS'
      have hd : ∀ ds, d ≠ .lst ds := fun ds e => by
        subst e
        cases hS'
      exact gTup_run R1 (r1.rep hd) hS' (fun i hi => by rw [hn]; exact p4 i hi) fun σ' R' => h1 σ' G1 H1 R'
    · exact False.elim h1
theorem s_unpF (n i j : Nat) (m : ME) : SndS n (.unpF i j m) := by
  intro X N sc cl W k G0 H0 st x hc hf hg _
  cases st <;> try exact absurd hc Bool.false_ne_true
  rename_i ts e pos
  match ts, hc with
  | [.Tuple ts kt tp], hc =>
    have hc : (namesU N sc [i, j] ts && notTup e && chkE N m sc e) = true := hc
    rw [Bool.and_eq_true, Bool.and_eq_true] at hc
    obtain ⟨⟨hc1, hc2⟩, hc3⟩ := hc
    obtain ⟨p1, p2, p3, p4⟩ := names_pgs x.toXOk x.fnT hc1
    have pe := (snd_all m X N sc cl W k e x.toXOk hc3 hf hg).1
    have hs : swapsWithSole [.Tuple ts kt tp] e pos.line X.env = pure false := by
      cases e <;> first
        | rfl
        | (cases m <;> exact absurd hc3 Bool.false_ne_true)
    have hw : swappedStores [.Tuple ts kt tp] e X.env = pure none := by
      cases e <;> first
        | rfl
        | exact absurd hc2 Bool.false_ne_true
    refine ps_imp (ps_asg pe (pg_tup x.calm p1 p2 p3) hs hw rfl) fun D σ H hn ⟨S, G, R, h⟩ => ?_
    rw [exS] at h
    split at h
    · exact False.elim h
    rename_i nij
    refine st_rd R h fun d kd v G1 H1 _ E1 r1 R1 h1 => ?_
    split at h1
    · rename_i y ds hy
      split at h1
      · exact False.elim h1
      rename_i hl
      cases hy
      have r1 : Fr2 X.K H G1 v (.tup [y, .lst ds]) := by
        rcases r1 with ⟨p, xs, ds', e1, e2, _⟩ | r1
        · cases e2
        · exact r1
      rcases r1 with ⟨t, p, q, ds', es', e1, e2, _⟩ | ⟨t, q, xs, ds', y', u, Gm, e1, e2, nx, n1, n2, ht, hq, gq, sm, nw, ra, ru⟩
      · cases e2
        exact absurd rfl hl
      · cases e2
        subst e1
        have EM : Ext G H Gm H1 := ⟨fun b o z => ?_, E1.h, sm.trans E1.sub, fun b o z w => E1.new b o (sm _ _ z) w⟩
        rotate_left
        · cases w : Gm b with
          | none =>
            have z1 := nw b o (E1.g _ _ z) w
            rw [R.sub _ _ z] at z1
            cases z1
          | some o' =>
            have z1 := sm _ _ w
            rw [E1.g _ _ z] at z1
            exact z1.symm
        have RM := R.grow EM
        have h1q : H1 q = some (.lst xs) := E1.sub _ _ hq
        obtain ⟨ns1, ns2⟩ := new_slots R EM n2
        have hi : i < σ.length := by rw [hn]; exact p4 i (by simp)
        have hj : j < σ.length := by rw [hn]; exact p4 j (by simp)
        refine ⟨t, [u, .ref q], rfl, .inl (.inl (E1.sub _ _ ht)), rfl, ?_⟩
        have RA := RM.setSh (i := i) ru hi
        refine ⟨_, _, rfl, _, _, rfl, rfl, ?_⟩
        refine h1 _ Gm H1 (RA.setOw h1q gq ra (R.ext.h.free n2) (by rw [List.length_set]; exact hj) (fun l es q1 q2 => ?_) (fun l a rows cls q1 q2 => ?_))
        · obtain ⟨ne, q1⟩ := set_ow (fun _ z => by cases z) q1
          rw [List.getElem?_set_ne ne] at q2
          exact ns1 l es q1 q2
        · obtain ⟨ne, q1⟩ := set_ob (fun _ _ z => by cases z) q1
          rw [List.getElem?_set_ne ne] at q2
          exact ns2 l a rows cls q1 q2
    · exact False.elim h1
end MP
set_option Elab.async false
set_option linter.all false
set_option maxRecDepth 100000
set_option maxHeartbeats 4000000
namespace MP
open PySem PySem.Spec PyProof.Rows L2 RT

theorem exp_hs {e : Expr} {l : Nat} {env : Env} (h : isCall e = true) : swapsWith e none l env = pure false := by
  cases e <;> first
    | rfl
    | exact absurd h Bool.false_ne_true
section
variable {X : Cx} {N : List Str} {sc : Scope} {cl : Str → Value} {W : WX} {k : Nat}
/-- a method of a list in a slot, one argument -/
theorem pe_m1 {id name : String} {r : V → List V → Hp → VK → Prop} {m : ME} {e : Expr} {i : Nat} {y : Str} {yp ap cp : Pos} (x : XOk X N sc W k) (slot : Slot "list" name id) (hty : typeOf (.builtin id) = pure (.type "method_descriptor")) (hm : MtR X id r)
    (hv : visE N sc i y = true) (hl : (ap.endLine == cp.line) = true) (hc : chkE N m sc e = true) (hf : AllC (GoodFn X.prog X.w X.K X.mg X.base cl k) (callsE m)) (hg : AllC (GoodGl X.K X.mg) (glosE m)) :
    PE X (.Call (.Attribute (.Name y yp) (PySem.Str.ofString name) ap) [e] [] cp) (tBM X.K "list" r (tVar i) (tCons (rd X.K cl W m) tNil)) := by
  obtain ⟨v1, v2, v3, v4⟩ := visE_ok x hv
  have pe := (snd_all m X N sc cl W k e x hc hf hg).1
  have st : starEach [e] X.env = (false, eval e X.env) :: starEach [] X.env := chk_star hc
  exact pe_bm PySem.F.plainAttrs_list slot hty hm (pe_var v1 v2 v3 v4) (pa_cons pe pa_nil st) rfl (by rw [st]; rfl) hl st rfl
theorem pe_m2 {id name : String} {r : V → List V → Hp → VK → Prop} {m l : ME} {e f : Expr} {i : Nat} {y : Str} {yp ap cp : Pos} (x : XOk X N sc W k) (slot : Slot "list" name id) (hty : typeOf (.builtin id) = pure (.type "method_descriptor")) (hm : MtR X id r)
    (hv : visE N sc i y = true) (hl : (ap.endLine == cp.line) = true) (hc : chkE N m sc e = true) (hc2 : chkE N l sc f = true) (hf : AllC (GoodFn X.prog X.w X.K X.mg X.base cl k) (callsE m)) (hg : AllC (GoodGl X.K X.mg) (glosE m)) (hf2 : AllC (GoodFn X.prog X.w X.K X.mg X.base cl k) (callsE l)) (hg2 : AllC (GoodGl X.K X.mg) (glosE l)) :
    PE X (.Call (.Attribute (.Name y yp) (PySem.Str.ofString name) ap) [e, f] [] cp) (tBM X.K "list" r (tVar i) (tCons (rd X.K cl W m) (tCons (rd X.K cl W l) tNil))) := by
  obtain ⟨v1, v2, v3, v4⟩ := visE_ok x hv
  have pe := (snd_all m X N sc cl W k e x hc hf hg).1
  have pf := (snd_all l X N sc cl W k f x hc2 hf2 hg2).1
  have st2 : starEach [f] X.env = (false, eval f X.env) :: starEach [] X.env := chk_star hc2
  have st : starEach [e, f] X.env = (false, eval e X.env) :: starEach [f] X.env := chk_star hc
  exact pe_bm PySem.F.plainAttrs_list slot hty hm (pe_var v1 v2 v3 v4) (pa_cons pe (pa_cons pf pa_nil st2) st) rfl (by rw [st, st2]; rfl) hl st (by rw [st2]; rfl)
end
theorem s_app (n i : Nat) (m : ME) : SndS n (.app i m) := by
  intro X N sc cl W k G0 H0 st x hc hf hg _
  unfold chkS at hc
  split at hc
  case h_2 => exact absurd hc Bool.false_ne_true
  rename_i y yp z ap e cp pos
  have hcB : (decide (z = "append") && visE N sc i y && (ap.endLine == cp.line) && chkE N m sc e) = true := hc
  rw [Bool.and_eq_true, Bool.and_eq_true, Bool.and_eq_true, decide_eq_true_eq] at hcB
  obtain ⟨⟨⟨rfl, hv⟩, hl⟩, hcM⟩ := hcB
  have pm := pe_m1 (cl := cl) (name := "append") (yp := yp) x.toXOk PySem.F.slot_list_append PySem.F.type_list_append mt_append hv hl hcM hf hg
  refine ps_imp (ps_expr pm rfl) fun D σ H hn ⟨S, G, R, h⟩ => ?_
  rw [exS] at h
  split at h
  · rename_i ds hS
    obtain ⟨a, xs, q, ha, ga, ra⟩ := R.ev.sl i _ hS
    refine ⟨_, q, .inl ⟨rfl, _, SqL.of ha⟩, ?_⟩
    refine st_rd R h fun d kd v G1 H1 _ E1 r1 R1 h1 => ?_
    split at h1
    · exact False.elim h1
    · rename_i hk
      split at h1
      · rename_i hz
        obtain ⟨G2, E2, s2, rp⟩ := r1.fix E1 hk
        refine ⟨a, xs, v, rfl, rfl, E2.h _ _ ha, by rw [szl, ra.len]; exact hz, ?_⟩
        exact h1 σ G2 _ ((R.grow E2).write hS q ((ra.mono E2.g).app (.cons rp .nil)))
      · exact False.elim h1
  · exact False.elim h
theorem s_ins (n i : Nat) (l m : ME) : SndS n (.ins i l m) := by
  intro X N sc cl W k G0 H0 st x hc hf hg _
  unfold chkS at hc
  split at hc
  case h_2 => exact absurd hc Bool.false_ne_true
  rename_i y yp z ap f e cp pos
  have hcB : (decide (z = "insert") && visE N sc i y && (ap.endLine == cp.line) && chkE N l sc f && chkE N m sc e) = true := hc
  rw [Bool.and_eq_true, Bool.and_eq_true, Bool.and_eq_true, Bool.and_eq_true, decide_eq_true_eq] at hcB
  obtain ⟨⟨⟨⟨rfl, hv⟩, hl⟩, hc1⟩, hcM⟩ := hcB
  obtain ⟨f1, f2⟩ := AllC.app (show AllC _ (callsE l ++ callsE m) from hf)
  obtain ⟨g1, g2⟩ := AllC.app (show AllC _ (glosE l ++ glosE m) from hg)
  have pm := pe_m2 (cl := cl) (name := "insert") (yp := yp) x.toXOk PySem.F.slot_list_insert PySem.F.type_list_insert mt_insert hv hl hc1 hcM f1 g1 f2 g2
  refine ps_imp (ps_expr pm rfl) fun D σ H hn ⟨S, G, R, h⟩ => ?_
  rw [exS] at h
  split at h
  · rename_i ds hS
    obtain ⟨a, xs, q, ha, ga, ra⟩ := R.ev.sl i _ hS
    refine ⟨_, q, .inl ⟨rfl, _, SqL.of ha⟩, ?_⟩
    refine st_rd R h fun d0 kd0 v0 G1 H1 ev0 E1 r0 R1 h1 => ?_
    cases d0 <;> try exact False.elim h1
    rename_i z
    obtain rfl := r0.int
    refine st_rd R1 h1 fun d kd v G2 H2 _ E2 r1 R2 h2 => ?_
    split at h2
    · exact False.elim h2
    · rename_i hk
      split at h2
      · rename_i hz
        obtain ⟨G3, E3, s3, rp⟩ := r1.fix E2 hk
        refine ⟨a, xs, z, v, rfl, rfl, E2.h _ _ (E1.h _ _ ha), by rw [szl, ra.len]; exact hz.1, hz.2.1, by have := hz.2.2; have := hz.2.1; omega, ?_⟩
        have rr := (ra.mono E1.g).mono E3.g
        exact h2 σ G3 _ ((R1.grow E3).write hS q (((rr.take _).app (.cons rp .nil)).app (rr.drop _)))
      · exact False.elim h2
  · exact False.elim h
theorem s_popd (n i : Nat) (l : ME) : SndS n (.popd i l) := by
  intro X N sc cl W k G0 H0 st x hc hf hg _
  unfold chkS at hc
  split at hc
  case h_2 => exact absurd hc Bool.false_ne_true
  rename_i y yp z ap e cp pos
  have hcB : (decide (z = "pop") && visE N sc i y && (ap.endLine == cp.line) && chkE N l sc e) = true := hc
  rw [Bool.and_eq_true, Bool.and_eq_true, Bool.and_eq_true, decide_eq_true_eq] at hcB
  obtain ⟨⟨⟨rfl, hv⟩, hl⟩, hcM⟩ := hcB
  have pm := pe_m1 (cl := cl) (name := "pop") (yp := yp) x.toXOk PySem.F.slot_list_pop PySem.F.type_list_pop mt_popAt hv hl hcM hf hg
  refine ps_imp (ps_expr pm rfl) fun D σ H hn ⟨S, G, R, h⟩ => ?_
  rw [exS] at h
  split at h
  · rename_i ds hS
    obtain ⟨a, xs, q, ha, ga, ra⟩ := R.ev.sl i _ hS
    refine ⟨_, q, .inl ⟨rfl, _, SqL.of ha⟩, ?_⟩
    refine st_rd R h fun d kd v G1 H1 ev1 E1 r1 R1 h1 => ?_
    cases d <;> try exact False.elim h1
    rename_i z
    obtain rfl := r1.int
    dsimp only at h1
    split at h1
    · rename_i hz
      obtain ⟨z0, z1, z2⟩ := hz
      have hlx := ra.len
      have hlt : z.toNat < xs.length := by omega
      refine ⟨a, xs, z, z.toNat, xs[z.toNat], rfl, rfl, E1.h _ _ ha, by omega, by omega, PySem.StrLaws.seqIndex_nonneg z0 (by omega), List.getElem?_eq_getElem hlt, ?_⟩
      exact h1 σ G1 _ (R1.write hS q ((ra.mono E1.g).erase _))
    · exact False.elim h1
  · exact False.elim h
theorem s_spop (n j i : Nat) (l : ME) : SndS n (.spop j i l) := by
  intro X N sc cl W k G0 H0 st x hc hf hg _
  unfold chkS at hc
  split at hc
  case h_2 => exact absurd hc Bool.false_ne_true
  rename_i w wp y yp z ap e cp pos
  have hcB : (decide (z = "pop") && visE N sc i y && (ap.endLine == cp.line) && chkE N l sc e && locE N sc j w && decide (j ≠ i)) = true := hc
  rw [Bool.and_eq_true, Bool.and_eq_true, Bool.and_eq_true, Bool.and_eq_true, Bool.and_eq_true, decide_eq_true_eq, decide_eq_true_eq] at hcB
  obtain ⟨⟨⟨⟨⟨rfl, hv⟩, hl⟩, hcM⟩, hj⟩, hji⟩ := hcB
  obtain ⟨l1, l2, l3⟩ := locE_ok x.toXOk hj
  have pm := pe_m1 (cl := cl) (name := "pop") (yp := yp) x.toXOk PySem.F.slot_list_pop PySem.F.type_list_pop mt_popAt hv hl hcM hf hg
  refine ps_imp (ps_set x.nd l1 l2 pm rfl (.inl (x.fnT _))) fun D σ H hn ⟨S, G, R, h⟩ => ?_
  rw [exS] at h
  split at h
  · rename_i ds hS
    obtain ⟨a, xs, q, ha, ga, ra⟩ := R.ev.sl i _ hS
    refine ⟨_, q, .inl ⟨rfl, _, SqL.of ha⟩, ?_⟩
    refine st_rd R h fun d kd v G1 H1 ev1 E1 r1 R1 h1 => ?_
    cases d <;> try exact False.elim h1
    rename_i z
    obtain rfl := r1.int
    dsimp only at h1
    split at h1
    · rename_i hz
      obtain ⟨z0, z2⟩ := hz
      split at h1
      · rename_i d hd
        have hlx := ra.len
        have hlt : z.toNat < ds.length := (List.getElem?_eq_some_iff.mp hd).1
        obtain ⟨u, hu, ru⟩ := (ra.mono E1.g).get hd
        refine ⟨a, xs, z, z.toNat, u, rfl, rfl, E1.h _ _ ha, by omega, by omega, PySem.StrLaws.seqIndex_nonneg z0 (by omega), hu, ?_⟩
        exact h1 _ G1 _ ((R1.write hS q ((ra.mono E1.g).erase _)).setSh ru (by rw [hn]; exact l3))
      · exact False.elim h1
    · exact False.elim h1
  · exact False.elim h
theorem s_sto (n i : Nat) (l m : ME) : SndS n (.sto i l m) := by
  intro X N sc cl W k G0 H0 st x hc hf hg _
  unfold chkS at hc
  split at hc
  case h_2 => exact absurd hc Bool.false_ne_true
  rename_i y yp f sp e pos
  have hcB : (visE N sc i y && chkE N l sc f && chkE N m sc e) = true := hc
  rw [Bool.and_eq_true, Bool.and_eq_true] at hcB
  obtain ⟨⟨hv, hc1⟩, hc2⟩ := hcB
  obtain ⟨f1, f2⟩ := AllC.app (show AllC _ (callsE l ++ callsE m) from hf)
  obtain ⟨g1, g2⟩ := AllC.app (show AllC _ (glosE l ++ glosE m) from hg)
  obtain ⟨v1, v2, v3, v4⟩ := visE_ok x.toXOk hv
  have pl := (snd_all l X N sc cl W k f x.toXOk hc1 f1 g1).1
  have pm := (snd_all m X N sc cl W k e x.toXOk hc2 f2 g2).1
  have hst : ∀ v, assign (.Subscript (.Name y yp) f sp) X.env v = (do
      let ov ← holding [v] (eval (.Name y yp) X.env)
      let iv ← holding [v, ov] (eval f X.env)
      standAt sp
      holding [v, ov, iv] (setItem ov iv v)
      release [v, ov, iv] []) := by
    intro v
    cases f <;> first
      | rfl
      | (cases l <;> exact absurd hc1 Bool.false_ne_true)
  have hs : swapsWithSole [.Subscript (.Name y yp) f sp] e pos.line X.env = pure false := by
    cases e <;> rfl
  refine ps_imp (ps_asg pm (pg_sub (pe_var v1 v2 v3 v4) pl set_list hst) hs rfl rfl) fun D σ H hn ⟨S, G, R, h⟩ => ?_
  rw [exS] at h
  refine st_rd R h fun d kd v G1 H1 _ E1 r1 R1 h1 => ?_
  split at h1
  · exact False.elim h1
  · rename_i hk
    obtain ⟨G2, E2, s2, rp⟩ := r1.fix E1 hk
    have R2 := R.grow E2
    split at h1
    · rename_i ds hS
      obtain ⟨a, xs, q, ha, ga, ra⟩ := R2.ev.sl i _ hS
      refine ⟨_, q, ?_⟩
      refine st_rd R2 h1 fun d3 kd3 v3 G3 H3 ev3 E3 r3 R3 h3 => ?_
      cases d3 <;> try exact False.elim h3
      rename_i z
      obtain rfl := r3.int
      dsimp only at h3
      split at h3
      · rename_i j hj
        refine ⟨a, xs, z, j, rfl, rfl, E3.h _ _ ha, by rw [ra.len]; exact hj, ?_⟩
        exact h3 σ G3 _ (R3.write hS q ((ra.mono E3.g).set (rp.mono E3.g) _))
      · exact False.elim h3
    · exact False.elim h1
theorem s_ret (n : Nat) (m : ME) : SndS n (.ret m) := by
  intro X N sc cl W k G0 H0 st x hc hf hg _
  unfold chkS at hc
  split at hc
  case h_2 => exact absurd hc Bool.false_ne_true
  rename_i e pos
  have pm := (snd_all m X N sc cl W k e x.toXOk hc hf hg).1
  refine ps_imp (ps_ret pm) fun D σ H hn ⟨S, G, R, h⟩ => ?_
  rw [exS] at h
  refine st_rd R h fun d kd v G1 H1 _ E1 r1 R1 h1 => ?_
  cases kd with
  | bo => exact False.elim h1
  | sh => exact h1 v G1 H1 R1.ext r1
  | fr => exact h1 v G1 H1 R1.ext (VR.old R.ext.h r1)
theorem s_retL (n i : Nat) : SndS n (.retL i) := by
  intro X N sc cl W k G0 H0 st x hc hf hg _
  unfold chkS at hc
  split at hc
  case h_2 => exact absurd hc Bool.false_ne_true
  rename_i y yp pos
  obtain ⟨v1, v2, v3, v4⟩ := visE_ok x.toXOk (show visE N sc i y = true from hc)
  refine ps_imp (ps_ret (pe_var v1 v2 v3 v4)) fun D σ H hn ⟨S, G, R, h⟩ => ?_
  rw [exS] at h
  split at h
  · rename_i ds hS
    obtain ⟨a, xs, q, ha, ga, ra⟩ := R.ev.sl i _ hS
    exact ⟨_, q, h _ G H R.ext (.inl ⟨a, xs, ds, rfl, rfl, R.own i a ds hS q, ha, ga, ra⟩)⟩
  · exact False.elim h
theorem s_ret2 (n i j : Nat) : SndS n (.ret2 i j) := by
  intro X N sc cl W k G0 H0 st x hc hf hg _
  unfold chkS at hc
  split at hc
  case h_2 => exact absurd hc Bool.false_ne_true
  rename_i y yp z zp c tp pos
  rw [Bool.and_eq_true] at hc
  obtain ⟨v1, v2, v3, v4⟩ := visE_ok x.toXOk hc.1
  obtain ⟨w1, w2, w3, w4⟩ := visE_ok x.toXOk hc.2
  refine ps_imp (ps_ret (pe_tup (pa_cons (pe_var v1 v2 v3 v4) (pa_cons (pe_var w1 w2 w3 w4) pa_nil rfl) rfl))) fun D σ H hn ⟨S, G, R, h⟩ => ?_
  rw [exS] at h
  split at h
  · rename_i ds es hi hj
    split at h
    · exact False.elim h
    · rename_i hij
      obtain ⟨a, xs, q1, ha, ga, ra⟩ := R.ev.sl i _ hi
      obtain ⟨b, ys, q2, hb, gb, rb⟩ := R.ev.sl j _ hj
      refine ⟨_, q1, _, q2, by rw [szl]; show 2 ≤ _; decide, fun t ht => ?_⟩
      have nab : b ≠ a := fun e => by
        subst e
        exact R.dis i j b ds es hij hi hj q1 q2
      have h0a := R.own i a ds hi q1
      have h0b := R.own j b es hj q2
      have nat_ : a ≠ t := ne_of_none ha ht
      have nbt : b ≠ t := ne_of_none hb ht
      have E1 := R.ext.freeze h0a ha ga
      have g1 : upd G a (.lst xs) b = none := by rw [upd_ne nab]; exact gb
      have E2 := E1.freeze h0b hb g1
      have g2 : upd (upd G a (.lst xs)) b (.lst ys) t = none := by rw [upd_ne nbt.symm, upd_ne nat_.symm]; exact R.sub.free ht
      have E3 := E2.trans (Ext.newG (p := t) (o := .tup [.ref a, .ref b]) E2.sub ht)
      have s1 : Same G (upd (upd (upd G a (.lst xs)) b (.lst ys)) t (.tup [.ref a, .ref b])) := ((same_upd ga _).trans (same_upd g1 _)).trans (same_upd g2 _)
      refine h _ _ _ E3 (.inr (.inl ⟨t, a, b, ds, es, rfl, rfl, R.ext.h.free ht, h0a, h0b, upd_same, .lst (xs := xs) ?_ (ra.mono s1), .lst (xs := ys) ?_ (rb.mono s1)⟩))
      · rw [upd_ne nat_, upd_ne nab.symm, upd_same]
      · rw [upd_ne nbt, upd_same]
  · exact False.elim h
/-- a new tuple of something and a new list -/
theorem fr3_ret {K : PySem.W.Frag} {G0 H0 G H : Hp} {q t : Addr} {xs : List V} {ds : List D} {u : V} {x : D} (e : Ext G0 H0 G H) (h0 : H0 q = none) (hq : H q = some (.lst xs)) (gq : G q = none) (ra : RepL K G xs ds) (ru : Rep K G u x) (nx : ∀ es, x ≠ .lst es) (ht : H t = none) :
    ∃ G', Ext G0 H0 G' (upd H t (.tup [u, .ref q])) ∧ Fr2 K H0 G' (.ref t) (.tup [x, .lst ds]) := by
  have nqt : q ≠ t := ne_of_none hq ht
  have E1 := e.freeze h0 hq gq
  have g2 : upd G q (.lst xs) t = none := by rw [upd_ne nqt.symm]; exact e.sub.free ht
  have E2 := E1.trans (Ext.newG (p := t) (o := .tup [u, .ref q]) E1.sub ht)
  refine ⟨_, E2, .inr ⟨t, q, xs, ds, x, u, G, rfl, rfl, nx, e.h.free ht, h0, upd_same, ?_, gq, (same_upd gq _).trans (same_upd g2 _), fun b o z w => ?_, ra, ru⟩⟩
  · rw [upd_ne nqt, upd_same]
  · by_cases z1 : b = t
    · subst z1
      exact e.h.free ht
    · rw [upd_ne z1] at z
      by_cases z2 : b = q
      · subst z2
        exact h0
      · rw [upd_ne z2, w] at z
        cases z
theorem s_retT (n : Nat) (m l : ME) : SndS n (.retT m l) := by
  intro X N sc cl W k G0 H0 st x hc hf hg _
  unfold chkS at hc
  split at hc
  case h_2 => exact absurd hc Bool.false_ne_true
  rename_i e f c tp pos
  rw [Bool.and_eq_true] at hc
  obtain ⟨f1, f2⟩ := AllC.app (show AllC _ (callsE m ++ callsE l) from hf)
  obtain ⟨g1, g2⟩ := AllC.app (show AllC _ (glosE m ++ glosE l) from hg)
  have pm := (snd_all m X N sc cl W k e x.toXOk hc.1 f1 g1).1
  have pl := (snd_all l X N sc cl W k f x.toXOk hc.2 f2 g2).1
  have st2 : starEach [f] X.env = (false, eval f X.env) :: starEach [] X.env := chk_star hc.2
  have st1 : starEach [e, f] X.env = (false, eval e X.env) :: starEach [f] X.env := chk_star hc.1
  refine ps_imp (ps_ret (pe_tup (pa_cons pm (pa_cons pl pa_nil st2) st1))) fun D σ H hn ⟨S, G, R, h⟩ => ?_
  rw [exS] at h
  refine st_rd R h fun d kd v G1 H1 _ E1 r1 R1 h1 => ?_
  split at h1
  · exact False.elim h1
  rename_i hno
  rw [not_or] at hno
  have nl := isLst_no (Bool.eq_false_iff.mpr hno.2)
  have rv := r1.rep nl
  refine st_rd R1 h1 fun d2 kd2 v2 G2 H2 _ E2 r2 R2 h2 => ?_
  split at h2
  · rename_i ds hds
    cases hds
    rcases r2 with ⟨q, xs, ds', rfl, e2, h0, hq, gq, ra⟩ | r2
    rotate_left
    · exact r2.nolst.elim
    cases e2
    refine ⟨by rw [szl]; show 2 ≤ _; decide, fun t ht => ?_⟩
    obtain ⟨G', E', F⟩ := fr3_ret (t := t) R2.ext (R1.ext.h.free h0) hq gq ra (rv.mono E2.g) nl ht
    exact h2 _ G' _ E' (.inr F)
  · exact False.elim h2
theorem s_retO (n : Nat) (m : ME) (i : Nat) : SndS n (.retO m i) := by
  intro X N sc cl W k G0 H0 st x hc hf hg _
  unfold chkS at hc
  split at hc
  case h_2 => exact absurd hc Bool.false_ne_true
  rename_i e y yp z ap c tp pos
  rw [Bool.and_eq_true, Bool.and_eq_true, decide_eq_true_eq] at hc
  obtain ⟨⟨hc1, hc2⟩, rfl⟩ := hc
  obtain ⟨v1, v2, v3, v4⟩ := visE_ok x.toXOk hc2
  have pm := (snd_all m X N sc cl W k e x.toXOk hc1 hf hg).1
  have st1 : starEach [e, .Attribute (.Name y yp) "rows" ap] X.env = (false, eval e X.env) :: starEach [.Attribute (.Name y yp) "rows" ap] X.env := chk_star hc1
  refine ps_imp (ps_ret (pe_tup (pa_cons pm (pa_cons (pe_fld (pe_var v1 v2 v3 v4) rfl) pa_nil rfl) st1))) fun D σ H hn ⟨S, G, R, h⟩ => ?_
  rw [exS] at h
  split at h
  case h_2 => exact False.elim h
  rename_i rows cls hS
  refine st_rd R h fun d kd v G1 H1 _ E1 r1 R1 h1 => ?_
  split at h1
  · exact False.elim h1
  rename_i hno
  rw [not_or] at hno
  have nl := isLst_no (Bool.eq_false_iff.mpr hno.2)
  have rv := r1.rep nl
  obtain ⟨C, a, dx, r, cc, xs, ys, hC, hσ, ha, hr, hcl, ga, gr, gc, rc, ra, rb⟩ := R1.ev.sl i _ hS
  obtain ⟨r', c', y1, h0a, h0r, h0c⟩ := R1.obo i a rows cls hS hσ
  obtain ⟨e1, e2⟩ := y1.uniq ⟨C, dx, ha⟩
  subst e1 e2
  refine ⟨_, hσ, _, _, _, _, _, rfl, ha, hC.cl, hC.nR, spF_rows _ _, ?_⟩
  refine ⟨by rw [szl]; show 2 ≤ _; decide, fun t ht => ?_⟩
  obtain ⟨G', E', F⟩ := fr3_ret (t := t) R1.ext h0r hr gr ra rv nl ht
  exact h1 _ G' _ E' (.inr F)
theorem s_exp (n : Nat) (m : ME) : SndS n (.exp m) := by
  intro X N sc cl W k G0 H0 st x hc hf hg _
  unfold chkS at hc
  split at hc
  case h_2 => exact absurd hc Bool.false_ne_true
  rename_i e pos
  have hcB : (isCall e && chkE N m sc e) = true := hc
  rw [Bool.and_eq_true] at hcB
  have pm := (snd_all m X N sc cl W k e x.toXOk hcB.2 hf hg).1
  refine ps_imp (ps_expr pm (exp_hs hcB.1)) fun D σ H hn ⟨S, G, R, h⟩ => ?_
  rw [exS] at h
  refine st_rd R h fun d kd v G1 H1 _ E1 r1 R1 h1 => ?_
  exact h1 σ G1 H1 R1
theorem s_rais (n : Nat) (c : Str) : SndS n (.rais c) := by
  intro X N sc cl W k G0 H0 st x hc hf hg hx
  unfold chkS at hc
  split at hc
  case h_2 => exact absurd hc Bool.false_ne_true
  rename_i y yp z j p2 cp pos
  have hcB : (decide (y = c) && glE sc y) = true := hc
  rw [Bool.and_eq_true, decide_eq_true_eq] at hcB
  obtain ⟨rfl, hcM⟩ := hcB
  obtain ⟨g1, g2⟩ := glE_ok x.toXOk hcM
  obtain ⟨C, e1, m1, m2, m3, m4, m5⟩ := (show AllC (GoodEx X.K X.mg cl) [.rais y] from hx).1
  refine ps_imp (ps_raise x.calm x.tk (pmk_own PySem.F.excBase_ValueError m2 m1 m3 (raises_own m4 m5) g1 g2)) fun D σ H hn ⟨S, G, R, h⟩ => ?_
  rw [exS] at h
  have z := h σ G H R
  rw [e1] at z
  exact z

/-! ### try -/
theorem tabAt_good {α : Type} {P : Str × List Bool → Prop} {c : Str} {bs : List Bool} : ∀ {tab : List (Str × List Bool)}, AllC P tab → tabAt tab c = some bs → P (c, bs)
  | [], _, h => by cases h
  | p :: ps, h, e => by
    unfold tabAt at e
    split at e
    · rename_i hc
      cases e
      subst hc
      exact h.1
    · exact tabAt_good (α := α) h.2 e
theorem reps_bl {K : PySem.W.Frag} {G : Hp} : ∀ bs : List Bool, RepL K G (bs.map V.bl) (bs.map D.bl)
  | [] => .nil
  | b :: bs => .cons (.bl b) (reps_bl bs)
theorem SOk.tr {X : Cx} {N : List Str} {sc : Scope} {W : WX} {k : Nat} (x : SOk X N sc W k) {W' : WX} {pn : List (Addr × Obj)} {xe : Value → Shared → Prop} (tk : Takes (X.tr pn xe) W') (po : PassesOwn (model X.prog X.w) X.A X.env xe) : SOk (X.tr pn xe) N sc W' k :=
  { hN := x.hN, sc := x.sc, calm := x.calm, nd := x.nd, room := x.room, tk := tk, blt := x.blt, fnT := x.fnT, own := po, kindF := x.kindF, stk := x.stk, frm := x.frm }
theorem boot_VE : bootBuiltins ("ValueError" : Str) = some (.type "ValueError") := by decide +kernel
/-- isinstance(e, C), .. of the exception at a -/
theorem pa_is {X : Cx} {N : List Str} {sc : Scope} {W : WX} {k : Nat} (x : XOk X N sc W k) {Y : Cx} (hY : Y.N = X.N ∧ Y.env = X.env ∧ Y.mg = X.mg) {A a : Addr} {i : Nat} (isE : CallR Y (.builtin "isinstance") (rIsE Y.K A a)) :
    ∀ {cs : List Str} {es : List Expr} {bs : List Bool}, isChk N sc i cs es = true → KitAll Y.K X.mg A cs bs → ∃ t : TA, PA Y es t ∧ ∀ σ H Q, σ[i]? = some (some (.ref a)) → Q (bs.map V.bl) H → t σ H Q
  | [], [], [], _, _ => ⟨tNil, pa_nil, fun σ H Q _ q => q⟩
  | [], [], _ :: _, _, h => False.elim h
  | c :: cs, [], _, h, _ => by unfold isChk at h; cases h
  | [], _ :: _, _, h, _ => by unfold isChk at h; cases h
  | c :: cs, e :: es, [], _, h => False.elim h
  | c :: cs, e :: es, b :: bs, h, hk => by
    unfold isChk at h
    split at h
    case h_1 hx _ => cases hx
    case h_3 => cases h
    rename_i c' cs' y yp nm np z zp pos es' e1 e2
    cases e1
    cases e2
    simp only [Bool.and_eq_true, decide_eq_true_eq] at h
    obtain ⟨⟨⟨⟨⟨rfl, g1⟩, v1⟩, rfl⟩, g2⟩, h⟩ := h
    obtain ⟨⟨v, u, nc, kk⟩, hk⟩ := hk
    obtain ⟨t, p, q⟩ := pa_is x hY isE h hk
    obtain ⟨gl1, gl2⟩ := glE_ok x g1
    obtain ⟨gt1, gt2⟩ := glE_ok x g2
    obtain ⟨w1, w2, w3, w4⟩ := visE_ok x v1
    obtain ⟨y1, y2, y3⟩ := hY
    have gl1' : Gl Y ("isinstance" : Str) := by unfold Gl; rw [y2]; exact gl1
    have gt1' : Gl Y z := by unfold Gl; rw [y2]; exact gt1
    have pv : PE Y (.Name nm np) (tVar i) := pe_var (by rw [y1]; exact w1) (by rw [y2]; exact w2) w3 w4
    have hmi : Y.mg "isinstance" = none := by rw [y3]; exact x.blt.isi
    have pc : PE Y (.Name z zp) (tC v) := by
      rcases nc with ⟨C, m1, m2, m3⟩ | ⟨e, m1, m2, m3⟩
      · subst m2
        exact pe_glob gt1' (by rw [y3]; exact m1) rfl gt2
      · subst e m2
        exact pe_bltn gt1' (by rw [y3]; exact m1) boot_VE rfl (by decide +kernel) gt2
    have hv : ∀ u', RelV v u' → u' = u := fun u' r => by
      rcases nc with ⟨C, m1, m2, m3⟩ | ⟨e, m1, m2, m3⟩
      · subst m2 m3; exact r
      · subst m2 m3; exact r
    have pcall := pe_callB (pos := pos) (p := yp) isE gl1' hmi (by decide +kernel) (pa_cons pv (pa_cons pc pa_nil)) (by decide +kernel) gl2 rfl rfl
    refine ⟨_, pa_cons pcall p rfl, fun σ H Q hi hq => ?_⟩
    exact ⟨_, hi, v, u, b, rfl, hv, kk, q σ H _ hi hq⟩
theorem kit_len {K : PySem.W.Frag} {mg : Str → Option Value} {A : Addr} : ∀ {cs : List Str} {bs : List Bool}, KitAll K mg A cs bs → bs.length = cs.length
  | [], [], _ => rfl
  | [], _ :: _, h => False.elim h
  | _ :: _, [], h => False.elim h
  | _ :: _, _ :: _, h => by rw [List.length_cons, List.length_cons, kit_len h.2]
theorem s_tryI (n : Nat) (Kn : Str) (i j : Nat) (cs : List Str) (tab : List (Str × List Bool)) {b : List MS} (ib : SndSs n b) : SndS n (.tryI b Kn i j cs tab) := by
  intro X N sc cl W k G0 H0 st x hc hf hg hx
  unfold chkS at hc
  split at hc
  case h_2 => exact absurd hc Bool.false_ne_true
  rename_i body y yp e z zp es lp ap hp pos
  simp only [Bool.and_eq_true, decide_eq_true_eq] at hc
  obtain ⟨⟨⟨⟨⟨⟨⟨⟨rfl, hgl⟩, hi⟩, hloc⟩, hj⟩, hij⟩, hcl⟩, his⟩, hcb⟩ := hc
  obtain ⟨⟨cK, mK, tri⟩, hx1⟩ := (show GoodEx X.K X.mg cl (.tri y cs tab) ∧ AllC _ (excsSs b) from hx)
  obtain ⟨gl1, gl2⟩ := glE_ok x.toXOk hgl
  obtain ⟨l1, l2, l3⟩ := locE_ok x.toXOk hj
  have hiX : X.N[i]? = some e := by rw [x.hN]; exact hi
  have hln : X.env.kindOf e = some .local := by
    show X.env.scope.names.lookup e = _
    rw [x.sc]; exact hloc
  let ts : Addr → Value → Option Addr → TS := fun a cls d D σ H => ∃ (bs : List Bool) (A : Addr), cls = .ref A ∧ d = none ∧ ExcC X.K A ∧ KitAll X.K X.mg A cs bs ∧ σ[i]? = some (some (.ref a)) ∧ (bs.length ≤ 1000) ∧ ∀ p, H p = none → D.nx (σ.set j (some (.ref p))) (upd H p (.lst (bs.map V.bl)))
  have ps := ps_try_as (pos := pos) (pos' := hp) (np := yp) x.stk x.frm x.nd hiX hln ⟨gl1, gl2, .inl mK⟩ x.tk (tb := fun W' => rdSs X.K cl W' G0 H0 n b) (ts := ts)
    (fun W' pn xe tk po => ib (X.tr pn xe) N sc cl W' k G0 H0 body (x.tr tk po) hcb hf hg hx1)
    (b₀ := .Assign [.Name z zp] (.List es lp) ap) (suite := []) (fun a oe cls d pn hz hfl => ⟨fun pins s σ H D I q => by
      obtain ⟨bs, A, e1, e2, hC, hk, hia, hbl, q⟩ := q
      subst e1 e2
      obtain ⟨t, p, rd⟩ := pa_is x.toXOk (Y := X.suite a ((a, oe) :: pn)) ⟨rfl, rfl, rfl⟩ (call_isE hC hz hfl) his hk
      refine (pss_one (ps_set (X := X.suite a ((a, oe) :: pn)) (pos := ap) (pos' := zp) x.nd l1 l2 (pe_lst p) rfl (.inl (x.fnT _)))).run pins s σ H D I ?_
      refine rd σ H _ hia ⟨by rw [List.length_map, szl]; omega, fun p hp => q p hp⟩⟩)
  refine ps_imp ps fun D σ H hn ⟨S, G, R, h⟩ => ?_
  rw [exS] at h
  refine ⟨S, G, R, ?_⟩
  cases ev : exSs n b S with
  | nx S2 => rw [ev] at h; exact h
  | ret d fr => rw [ev] at h; exact h
  | stuck => rw [ev] at h; exact h
  | exc c S1 =>
    rw [ev] at h
    dsimp only at h
    split at h
    · rename_i bs hbs
      split at h
      · rename_i hlen
        intro σ1 G1 H1 R1
        obtain ⟨A, e1, e2, e3, e4⟩ := tabAt_good (α := Unit) tri hbs
        have hi1 : i < σ1.length := by
          rw [← R1.ev.len, hlen, R.ev.len, hn]
          exact (List.getElem?_eq_some_iff.mp hiX).1
        have hj1 : j < σ1.length := by rw [← R1.ev.len, hlen, R.ev.len, hn]; exact l3
        refine ⟨true, by rw [e1]; exact e2, fun _ a ha => ⟨bs, A, e1, rfl, e3, e4, List.getElem?_set_self hi1, (by have hz : bs.length = cs.length := kit_len e4; omega), fun p hp => ?_⟩, fun z => by cases z⟩
        have R2 := (R1.setNo i none).grow (Ext.newG (p := p) (o := .lst (bs.map V.bl)) R1.sub hp)
        have R3 := R2.setSh (i := j) (v := .ref p) (d := .lst (bs.map MP.D.bl)) (.lst upd_same (reps_bl bs)) (by rw [List.length_set]; exact hj1)
        have e5 : (((σ1.set i (some (.ref a))).set j (some (.ref p))).set i none) = (σ1.set i none).set j (some (.ref p)) := by
          rw [List.set_comm _ _ (fun z => hij z.symm), List.set_set]
        show D.nx (((σ1.set i (some (.ref a))).set j (some (.ref p))).set i none) _
        rw [e5]
        exact h _ _ _ R3
      · exact False.elim h
    · exact False.elim h
theorem s_tryS (n : Nat) (Kn : Str) (j : Nat) (v : Bool) (tab : List (Str × List Bool)) {b : List MS} (ib : SndSs n b) : SndS n (.tryS b Kn j v tab) := by
  intro X N sc cl W k G0 H0 st x hc hf hg hx
  unfold chkS at hc
  split at hc
  case h_2 => exact absurd hc Bool.false_ne_true
  rename_i body y yp z zp u cj cp ap hp pos
  simp only [Bool.and_eq_true, decide_eq_true_eq] at hc
  obtain ⟨⟨⟨⟨rfl, hgl⟩, hj⟩, rfl⟩, hcb⟩ := hc
  obtain ⟨⟨cK, mK, tri⟩, hx1⟩ := (show GoodEx X.K X.mg cl (.tri y [] tab) ∧ AllC _ (excsSs b) from hx)
  obtain ⟨gl1, gl2⟩ := glE_ok x.toXOk hgl
  obtain ⟨l1, l2, l3⟩ := locE_ok x.toXOk hj
  have ps := ps_try_only (pos := pos) (pos' := hp) (np := yp) x.stk x.frm ⟨gl1, gl2, .inl mK⟩ x.tk (tb := fun W' => rdSs X.K cl W' G0 H0 n b) (ts := fun a cls d D σ H => D.nx (σ.set j (some (.bl u))) H)
    (fun W' pn xe tk po => ib (X.tr pn xe) N sc cl W' k G0 H0 body (x.tr tk po) hcb hf hg hx1)
    (b₀ := .Assign [.Name z zp] (.Constant (.bool u) cj cp) ap) (suite := []) (fun a oe cls d pn hz hfl => pss_one (ps_set (X := X.suite a ((a, oe) :: pn)) (pos := ap) (pos' := zp) x.nd l1 l2 pe_bl rfl (.inl (x.fnT _))))
  refine ps_imp ps fun D σ H hn ⟨S, G, R, h⟩ => ?_
  rw [exS] at h
  refine ⟨S, G, R, ?_⟩
  cases ev : exSs n b S with
  | nx S2 => rw [ev] at h; exact h
  | ret d fr => rw [ev] at h; exact h
  | stuck => rw [ev] at h; exact h
  | exc c S1 =>
    rw [ev] at h
    dsimp only at h
    split at h
    · rename_i bs hbs
      split at h
      · rename_i hlen
        intro σ1 G1 H1 R1
        obtain ⟨A, e1, e2, e3, e4⟩ := tabAt_good (α := Unit) tri hbs
        have hj1 : j < σ1.length := by rw [← R1.ev.len, hlen, R.ev.len, hn]; exact l3
        exact ⟨true, by rw [e1]; exact e2, fun _ a ha => h _ _ _ (R1.setSh (.bl u) hj1), fun z => by cases z⟩
      · exact False.elim h
    · exact False.elim h

/-! ### blocks -/
def rdB (K : PySem.W.Frag) (cl : Str → Value) (W : WX) (n : Nat) (ms : List MS) : TS := fun D σ H => ∃ G0 H0, rdSs K cl W G0 H0 n ms D σ H
theorem s_ife (n : Nat) {c : ME} {a b : List MS} (ia : SndSs n a) (ib : SndSs n b) : SndS n (.ife c a b) := by
  intro X N sc cl W k G0 H0 st x hc hf hg hx
  unfold chkS at hc
  split at hc
  case h_2 => exact absurd hc Bool.false_ne_true
  rename_i t p q pos
  have hcB : (chkE N c sc t && chkSs N a sc p && chkSs N b sc q) = true := hc
  rw [Bool.and_eq_true, Bool.and_eq_true] at hcB
  obtain ⟨f0, f⟩ := AllC.app (show AllC _ (callsE c ++ (callsSs a ++ callsSs b)) from hf)
  obtain ⟨f1, f2⟩ := AllC.app f
  obtain ⟨g0, g⟩ := AllC.app (show AllC _ (glosE c ++ (glosSs a ++ glosSs b)) from hg)
  obtain ⟨g1, g2⟩ := AllC.app g
  obtain ⟨x1, x2⟩ := AllC.app (show AllC _ (excsSs a ++ excsSs b) from hx)
  have pc := (snd_all c X N sc cl W k t x.toXOk hcB.1.1 f0 g0).2.1
  have pa := ia X N sc cl W k G0 H0 p x hcB.1.2 f1 g1 x1
  have pb := ib X N sc cl W k G0 H0 q x hcB.2 f2 g2 x2
  refine ps_imp (ps_if pc pa pb) fun D σ H hn ⟨S, G, R, h⟩ => ?_
  rw [exS] at h
  refine st_rdT R h (fun d k z => by cases d <;> first | rfl | exact absurd rfl (z _)) fun bb kk G1 H1 R1 h1 => ?_
  cases bb with
  | true => exact iteT ⟨S, G1, R1, h1⟩
  | false => exact iteF ⟨S, G1, R1, h1⟩
theorem s_whil (n : Nat) {c : ME} {b : List MS} (ib : SndSs n b) : SndS n (.whil c b) := by
  intro X N sc cl W k G0 H0 st x hc hf hg hx
  unfold chkS at hc
  split at hc
  case h_2 => exact absurd hc Bool.false_ne_true
  rename_i t p pos
  have hcB : (chkE N c sc t && chkSs N b sc p) = true := hc
  rw [Bool.and_eq_true] at hcB
  obtain ⟨f0, f1⟩ := AllC.app (show AllC _ (callsE c ++ callsSs b) from hf)
  obtain ⟨g0, g1⟩ := AllC.app (show AllC _ (glosE c ++ glosSs b) from hg)
  have pc := (snd_all c X N sc cl W k t x.toXOk hcB.1 f0 g0).2.1
  have pb := ib X N sc cl W k G0 H0 p x hcB.2 f1 g1 hx
  refine ps_imp (ps_while x.own pc pb) fun D σ H hn ⟨S, G, R, h⟩ => ?_
  rw [exS] at h
  refine ⟨fun m σ H => ∃ S G, StRel X.K G0 H0 S σ G H ∧ Ks X.K cl W G0 H0 (whileL (evE c) (exSs n b) m S) D, ⟨n, S, G, R, h⟩, ?_⟩
  rintro m σ H ⟨S, G, R, h⟩
  cases m with
  | zero => exact False.elim h
  | succ m =>
    rw [whileL] at h
    refine st_rdT R h (fun d k z => by cases d <;> first | rfl | exact absurd rfl (z _)) fun bb kk G1 H1 R1 h1 => ?_
    cases bb with
    | false => exact iteF (h1 σ G1 H1 R1)
    | true =>
      refine iteT ⟨fun σ' H' => ∃ S G, StRel X.K G0 H0 S σ' G H' ∧ Ks X.K cl W G0 H0 (whileL (evE c) (exSs n b) m S) D, fun σ' H' z => ⟨m, Nat.lt_succ_self _, z⟩, S, G1, R1, ?_⟩
      dsimp only at h1
      cases e : exSs n b S with
      | nx S2 =>
        rw [e] at h1
        exact fun σ' G' H' R' => ⟨S2, G', R', h1⟩
      | ret d fr => rw [e] at h1; exact h1
      | exc c S2 => rw [e] at h1; exact h1
      | stuck => rw [e] at h1; exact h1
/-- another entry: all that was plain at some moment -/
def ent (H0 G1 : Hp) : Hp := fun b => match G1 b with
  | some o => some o
  | none => H0 b
section
variable {K : PySem.W.Frag} {G0 H0 G1 H1 G H : Hp} {S : List SV} {σ : L2.St}
theorem ent_none {b : Addr} (h : ent H0 G1 b = none) : G1 b = none ∧ H0 b = none := by
  unfold ent at h
  split at h
  · cases h
  · rename_i e
    exact ⟨e, h⟩
theorem ext_in (e0 : Ext G0 H0 G1 H1) (e : Ext G0 H0 G H) (s : Same G1 G) : Ext G1 (ent H0 G1) G H := ⟨s, fun b o q => by
  unfold ent at q
  split at q
  · rename_i u eu
    cases q
    exact e.sub _ _ (s _ _ eu)
  · exact e.h _ _ q, e.sub, fun b o q n => by
  unfold ent
  rw [n]
  cases z : G0 b with
  | some u =>
    have y := e0.g b u z
    rw [n] at y
    cases y
  | none => exact e.new b o q z⟩
theorem ext_out (e0 : Ext G0 H0 G1 H1) (e : Ext G1 (ent H0 G1) G H) : Ext G0 H0 G H := ⟨e0.g.trans e.g, fun b o q => e.h b o (by
  unfold ent
  split
  · rename_i u eu
    have y := e0.h b o q
    have z := e0.sub b u eu
    rw [y] at z
    exact z.symm
  · exact q), e.sub, fun b o q n => by
  cases z : G1 b with
  | some u => exact e0.new b u z n
  | none => exact (ent_none (e.new b o q z)).2⟩
theorem StRel.into (e0 : Ext G0 H0 G1 H1) (R : StRel K G0 H0 S σ G H) (s : Same G1 G) : StRel K G1 (ent H0 G1) S σ G H := ⟨R.ev, ext_in e0 R.ext s, fun i a ds h q => by
  obtain ⟨b, xs, z1, z2, z3, z4⟩ := R.ev.sl i _ h
  rw [q] at z1
  cases z1
  unfold ent
  rw [s.free z3]
  exact R.own i a ds h q, R.dis, fun i a rows cl h q => by
  obtain ⟨C, b, dx, r, c, xs, ys, z0, z1, z2, z3, z4, z5, z6, z7, z8⟩ := R.ev.sl i _ h
  rw [q] at z1
  cases z1
  obtain ⟨r', c', y1, y2, y3, y4⟩ := R.obo i a rows cl h q
  obtain ⟨e1, e2⟩ := y1.uniq ⟨C, dx, z2⟩
  subst e1 e2
  refine ⟨_, _, y1, ?_, ?_, ?_⟩
  · unfold ent; rw [s.free z5]; exact y2
  · unfold ent; rw [s.free z6]; exact y3
  · unfold ent; rw [s.free z7]; exact y4, R.obd, R.obu⟩
theorem StRel.outof (e0 : Ext G0 H0 G1 H1) (R : StRel K G1 (ent H0 G1) S σ G H) : StRel K G0 H0 S σ G H ∧ Same G1 G := ⟨⟨R.ev, ext_out e0 R.ext, fun i a ds h q => (ent_none (R.own i a ds h q)).2, R.dis, fun i a rows cl h q => by
  obtain ⟨r, c, y1, y2, y3, y4⟩ := R.obo i a rows cl h q
  exact ⟨r, c, y1, (ent_none y2).2, (ent_none y3).2, (ent_none y4).2⟩, R.obd, R.obu⟩, R.ext.g⟩
end
/-- the core of a for -/
theorem for_core {X : Cx} {cl : Str → Value} {W : WX} {n : Nat} {b : List MS} {En : Ends} {G0 H0 G1 H1 : Hp} {S : List SV} {σ : L2.St} {J : It} {vs : List V} {tg : List SV → D → Option (List SV)} {g : TG} {ds : List D}
    (hg : ∀ (S S' : List SV) (σ : L2.St) (G H : Hp) (v : V) (d : D) (Q : L2.St → Hp → Prop), StRel X.K G0 H0 S σ G H → S.length = X.N.length → Rep X.K G v d → tg S d = some S' → (∀ σ', StRel X.K G0 H0 S' σ' G H → S'.length = X.N.length → Q σ' H) → g v σ H Q)
    (hb : ∀ (S S' : List SV), S.length = X.N.length → exSs n b S = .nx S' → S'.length = X.N.length)
    (R : StRel X.K G0 H0 S σ G1 H1) (hn : S.length = X.N.length) (w : WalkOk J G1 vs) (rp : RepL X.K G1 vs ds) (h : Ks X.K cl W G0 H0 (forL (exSs n b) tg ds S) En) :
    ∃ Wv : Nat → Nat → L2.St → Hp → Prop, (∃ m, Wv 0 m σ H1) ∧ ∀ i m σ H, Wv i m σ H →
      (J.stop i H ∧ En.nx σ H) ∨ (J.go i H ∧ ∃ Nn : L2.St → Hp → Prop, (∀ σ' H', Nn σ' H' → ∃ m', m' < m ∧ Wv (i + 1) m' σ' H') ∧ ∀ x H', J.yld i H x H' → g x σ H' fun σ2 H2 => rdB X.K cl W n b { En with nx := Nn, ct := Nn, bk := En.nx } σ2 H2) := by
  have e0 := R.ext
  let P : Nat → L2.St → Hp → Prop := fun i σ H => ∃ S G, StRel X.K G0 H0 S σ G H ∧ S.length = X.N.length ∧ Same G1 G ∧ Ks X.K cl W G0 H0 (forL (exSs n b) tg (ds.drop i) S) En
  refine ⟨fun i m σ H => m = vs.length - i ∧ i ≤ vs.length ∧ P i σ H, ⟨vs.length, by simp, Nat.zero_le _, S, G1, R, hn, Same.refl _, h⟩, ?_⟩
  rintro i m σ H ⟨rfl, hi, S, G, R, hn, sG, h⟩
  have s1 : Same G1 H := sG.trans R.sub
  by_cases hlt : i < vs.length
  · refine .inr ⟨w.1 i H s1 hlt, P (i + 1), fun σ' H' p => ⟨vs.length - (i + 1), by omega, rfl, hlt, p⟩, fun x H' y => ?_⟩
    obtain ⟨e3, hx⟩ := w.2.2 i H x H' s1 hlt y
    subst e3
    have hln : i < ds.length := by rw [← rp.len]; exact hlt
    have hdr : ds.drop i = ds[i] :: ds.drop (i + 1) := List.drop_eq_getElem_cons hln
    obtain ⟨x', hx', rx⟩ := rp.get (i := i) (x := ds[i]) (List.getElem?_eq_getElem hln)
    rw [hx] at hx'
    cases hx'
    rw [hdr, forL] at h
    split at h
    · exact False.elim h
    · rename_i S1 hS1
      refine hg S S1 σ G _ x _ _ R hn (rx.mono sG) hS1 fun σ' R' hn' => ?_
      refine ⟨G, ent H0 G, S1, G, R'.into R.ext (Same.refl _), ?_⟩
      cases e : exSs n b S1 with
      | nx S2 =>
        rw [e] at h
        intro σ3 G3 H3 R3
        obtain ⟨R4, s4⟩ := R3.outof R.ext
        exact ⟨S2, G3, R4, hb S1 S2 hn' e, sG.trans s4, h⟩
      | ret d fr =>
        rw [e] at h
        intro v G3 H3 E3 r3
        refine h v G3 H3 (ext_out R.ext E3) ?_
        cases fr with
        | false => exact r3
        | true =>
          rcases r3 with ⟨p, xs, es, z1, z2, z3, z4, z5, z6⟩ | r3
          · exact .inl ⟨p, xs, es, z1, z2, (ent_none z3).2, z4, z5, z6⟩
          · exact .inr (r3.old fun _ z => (ent_none z).2)
      | exc c S2 =>
        rw [e] at h
        intro σ3 G3 H3 R3
        exact h σ3 G3 H3 (R3.outof R.ext).1
      | stuck => rw [e] at h; exact h
  · have e : i = vs.length := by omega
    subst e
    have hdr : ds.drop vs.length = [] := List.drop_eq_nil_of_le (by rw [rp.len]; exact Nat.le_refl _)
    rw [hdr, forL] at h
    exact .inl ⟨w.2.1 _ H s1 (Nat.le_refl _), h σ G H R⟩

/-! ### the number of slots stays -/
theorem setAll_length : ∀ {is : List Nat} {S S' : List SV} {ds : List D}, setAll S is ds = some S' → S'.length = S.length
  | [], _, _, ds, h => by
    cases ds with
    | nil => cases h; rfl
    | cons => cases h
  | i :: is, S, S', ds, h => by
    cases ds with
    | nil => cases h
    | cons d ds =>
      have h : setAll (S.set i (.sh d)) is ds = some S' := h
      rw [setAll_length h, List.length_set]
theorem forL_len {f : List SV → SRes} {tg : List SV → D → Option (List SV)} {k : Nat} (hf : ∀ S S', S.length = k → f S = .nx S' → S'.length = k) (ht : ∀ S S' d, tg S d = some S' → S'.length = S.length) : ∀ {xs : List D} {S S' : List SV}, S.length = k → forL f tg xs S = .nx S' → S'.length = k
  | [], S, S', hk, h => by
    rw [forL] at h
    cases h
    exact hk
  | x :: xs, S, S', hk, h => by
    rw [forL] at h
    split at h
    · cases h
    · rename_i S1 hS1
      split at h
      · rename_i S2 hS2
        exact forL_len hf ht (hf S1 S2 ((ht _ _ _ hS1).trans hk) hS2) h
      · rename_i hno
        exact absurd h (hno _)
theorem whileL_len {c : List SV → Res (D × Kd)} {f : List SV → SRes} {k : Nat} (hf : ∀ S S', S.length = k → f S = .nx S' → S'.length = k) : ∀ {n : Nat} {S S' : List SV}, S.length = k → whileL c f n S = .nx S' → S'.length = k
  | 0, S, S', hk, h => by
    rw [whileL] at h
    cases h
  | n + 1, S, S', hk, h => by
    rw [whileL] at h
    cases e : c S with
    | stuck => rw [e] at h; cases h
    | exc => rw [e] at h; cases h
    | ok r =>
      rw [e] at h
      simp only [bindS] at h
      split at h
      · split at h
        · rename_i S2 hS2
          exact whileL_len hf (hf S S2 hk hS2) h
        · rename_i hno
          exact absurd h (hno _)
      · cases h
        exact hk
      · cases h
theorem bindS_nx {α : Type} {S S' : List SV} {r : Res α} {f : α → SRes} (h : bindS S r f = .nx S') : ∃ a, r = .ok a ∧ f a = .nx S' := by
  cases r with
  | ok a => exact ⟨a, rfl, h⟩
  | exc => cases h
  | stuck => cases h
mutual
theorem exS_len (n k : Nat) : ∀ (m : MS) (S S' : List SV), S.length = k → exS n m S = .nx S' → S'.length = k
  | .set i e, S, S', hk, h => by
    rw [exS] at h
    obtain ⟨r, _, h⟩ := bindS_nx h
    split at h
    · cases h
    · cases h; rw [List.length_set]; exact hk
  | .own i e, S, S', hk, h => by
    rw [exS] at h
    obtain ⟨r, _, h⟩ := bindS_nx h
    split at h
    · cases h; rw [List.length_set]; exact hk
    · cases h; rw [List.length_set]; exact hk
    · cases h
  | .unp is e, S, S', hk, h => by
    rw [exS] at h
    obtain ⟨r, _, h⟩ := bindS_nx h
    split at h
    · rename_i S1 hS1
      cases h
      cases hd : r.1 with
      | tup ds =>
        rw [hd] at hS1
        exact (setAll_length hS1).trans hk
      | _ => rw [hd] at hS1; cases hS1
    · cases h
  | .app i e, S, S', hk, h => by
    rw [exS] at h
    split at h
    · obtain ⟨r, _, h⟩ := bindS_nx h
      split at h
      · cases h
      · split at h
        · cases h; rw [List.length_set]; exact hk
        · cases h
    · cases h
  | .ins i l e, S, S', hk, h => by
    rw [exS] at h
    split at h
    · obtain ⟨r, _, h⟩ := bindS_nx h
      split at h
      · obtain ⟨r, _, h⟩ := bindS_nx h
        split at h
        · cases h
        · split at h
          · cases h; rw [List.length_set]; exact hk
          · cases h
      · cases h
    · cases h
  | .popd i e, S, S', hk, h => by
    rw [exS] at h
    split at h
    · obtain ⟨r, _, h⟩ := bindS_nx h
      split at h
      · split at h
        · cases h; rw [List.length_set]; exact hk
        · cases h
      · cases h
    · cases h
  | .spop j i e, S, S', hk, h => by
    rw [exS] at h
    split at h
    · obtain ⟨r, _, h⟩ := bindS_nx h
      split at h
      · split at h
        · split at h
          · cases h; rw [List.length_set, List.length_set]; exact hk
          · cases h
        · cases h
      · cases h
    · cases h
  | .sto i l e, S, S', hk, h => by
    rw [exS] at h
    obtain ⟨r, _, h⟩ := bindS_nx h
    split at h
    · cases h
    · split at h
      · obtain ⟨r, _, h⟩ := bindS_nx h
        split at h
        · split at h
          · cases h; rw [List.length_set]; exact hk
          · cases h
        · cases h
      · cases h
  | .ife c a b, S, S', hk, h => by
    rw [exS] at h
    obtain ⟨r, _, h⟩ := bindS_nx h
    split at h
    · exact exSs_len n k a S S' hk h
    · exact exSs_len n k b S S' hk h
    · cases h
  | .forI i q es b, S, S', hk, h => by
    rw [exS] at h
    obtain ⟨r, _, h⟩ := bindS_nx h
    exact forL_len (exSs_len n k b) (fun S S' d e => by cases e; rw [List.length_set]) hk h
  | .forU is q es b, S, S', hk, h => by
    rw [exS] at h
    obtain ⟨r, _, h⟩ := bindS_nx h
    refine forL_len (exSs_len n k b) (fun S S' d e => ?_) hk h
    cases d with
    | tup ds => exact setAll_length e
    | _ => cases e
  | .whil c b, S, S', hk, h => by
    rw [exS] at h
    exact whileL_len (exSs_len n k b) hk h
  | .ret e, S, S', hk, h => by
    rw [exS] at h
    obtain ⟨r, _, h⟩ := bindS_nx h
    split at h
    · cases h
    · cases h
  | .retL i, S, S', hk, h => by
    rw [exS] at h
    split at h
    · cases h
    · cases h
  | .ret2 i j, S, S', hk, h => by
    rw [exS] at h
    split at h
    · split at h <;> cases h
    · cases h
  | .retT e f, S, S', hk, h => by
    rw [exS] at h
    obtain ⟨r, _, h⟩ := bindS_nx h
    split at h
    · cases h
    · obtain ⟨r, _, h⟩ := bindS_nx h
      split at h <;> cases h
  | .retO e i, S, S', hk, h => by
    rw [exS] at h
    split at h
    · obtain ⟨r, _, h⟩ := bindS_nx h
      split at h <;> cases h
    · cases h
  | .unpF i j e, S, S', hk, h => by
    rw [exS] at h
    split at h
    · cases h
    · obtain ⟨r, _, h⟩ := bindS_nx h
      split at h
      · split at h
        · cases h
        · cases h; rw [List.length_set, List.length_set]; exact hk
      · cases h
  | .exp e, S, S', hk, h => by
    rw [exS] at h
    obtain ⟨r, _, h⟩ := bindS_nx h
    cases h
    exact hk
  | .rais c, S, S', hk, h => by
    rw [exS] at h
    cases h
  | .frz i, S, S', hk, h => by
    rw [exS] at h
    split at h
    · cases h; rw [List.length_set]; exact hk
    · cases h; rw [List.length_set]; exact hk
    · cases h
  | .tryI b K i j cs tab, S, S', hk, h => by
    rw [exS] at h
    cases e : exSs n b S with
    | nx S2 => rw [e] at h; cases h; exact exSs_len n k b S S' hk e
    | ret => rw [e] at h; cases h
    | stuck => rw [e] at h; cases h
    | exc c S1 =>
      rw [e] at h
      dsimp only at h
      split at h
      · split at h
        · rename_i hl
          cases h
          rw [List.length_set, List.length_set, hl]; exact hk
        · cases h
      · cases h
  | .tryS b K j v tab, S, S', hk, h => by
    rw [exS] at h
    cases e : exSs n b S with
    | nx S2 => rw [e] at h; cases h; exact exSs_len n k b S S' hk e
    | ret => rw [e] at h; cases h
    | stuck => rw [e] at h; cases h
    | exc c S1 =>
      rw [e] at h
      dsimp only at h
      split at h
      · split at h
        · rename_i hl
          cases h
          rw [List.length_set, hl]; exact hk
        · cases h
      · cases h
  | .mk i, S, S', hk, h => by
    rw [exS] at h
    split at h
    · cases h
    · cases h; rw [List.length_set]; exact hk
  | .put i g e, S, S', hk, h => by
    rw [exS] at h
    split at h
    · obtain ⟨r, _, h⟩ := bindS_nx h
      split at h
      · cases h
      · split at h
        · cases h; rw [List.length_set]; exact hk
        · cases h
    · cases h
  | .ifPut i g e a b, S, S', hk, h => by
    rw [exS] at h
    split at h
    · obtain ⟨r, _, h⟩ := bindS_nx h
      split at h
      · cases h
      · split at h
        · split at h
          · exact exSs_len n k a _ S' (by rw [List.length_set]; exact hk) h
          · exact exSs_len n k b _ S' (by rw [List.length_set]; exact hk) h
        · cases h
    · cases h
theorem exSs_len (n k : Nat) : ∀ (ms : List MS) (S S' : List SV), S.length = k → exSs n ms S = .nx S' → S'.length = k
  | [], S, S', hk, h => by
    rw [exSs] at h
    cases h
    exact hk
  | m :: ms, S, S', hk, h => by
    rw [exSs] at h
    split at h
    · rename_i S1 hS1
      exact exSs_len n k ms S1 S' (exS_len n k m S S1 hk hS1) h
    · rename_i hno
      exact absurd h (hno _)
end
theorem s_forI (n i : Nat) (kk : IK) {es : List ME} {b : List MS} (ib : SndSs n b) : SndS n (.forI i kk es b) := by
  intro X N sc cl W k G0 H0 st x hc hf hg hx
  unfold chkS at hc
  split at hc
  case h_2 => exact absurd hc Bool.false_ne_true
  rename_i y yp it p pos
  rw [Bool.and_eq_true, Bool.and_eq_true] at hc
  obtain ⟨⟨hc1, hc2⟩, hc3⟩ := hc
  obtain ⟨f0, f1⟩ := AllC.app (show AllC _ (callsEs es ++ callsSs b) from hf)
  obtain ⟨g0, g1⟩ := AllC.app (show AllC _ (glosEs es ++ glosSs b) from hg)
  obtain ⟨l1, l2, l3⟩ := locE_ok x.toXOk hc1
  obtain ⟨pi, hs⟩ := snd_pi (cl := cl) (W := W) (tg := .Name y yp) (snd_alls es) x.toXOk hc2 f0 g0
  have pb : PSs X p (rdB X.K cl W n b) := ⟨fun pins s σ H D I ⟨G0, H0, q⟩ => (ib X N sc cl W k G0 H0 p x hc3 f1 g1 hx).run pins s σ H D I q⟩
  refine ps_imp (ps_for x.own x.calm pi (pg_name x.nd l1 l2 (.inl (x.fnT _))) pb hs) fun D σ H hn ⟨S, G, R, h⟩ => ?_
  rw [exS] at h
  refine st_rdI R h fun xs J vs G1 H1 R1 w rp h1 => ?_
  refine for_core (fun S S' σ G H v d Q R hl r e q => ?_) (fun S S' hl e => exSs_len n _ b S S' hl e) R1 (R1.ev.len.trans hn) w rp h1
  cases e
  exact q _ (R.setSh r (by rw [← R.ev.len, hl]; exact l3)) (by rw [List.length_set]; exact hl)
theorem s_forU (n : Nat) (is : List Nat) (kk : IK) {es : List ME} {b : List MS} (ib : SndSs n b) : SndS n (.forU is kk es b) := by
  intro X N sc cl W k G0 H0 st x hc hf hg hx
  unfold chkS at hc
  split at hc
  case h_2 => exact absurd hc Bool.false_ne_true
  rename_i ts kt tp it p pos
  rw [Bool.and_eq_true, Bool.and_eq_true] at hc
  obtain ⟨⟨hc1, hc2⟩, hc3⟩ := hc
  obtain ⟨f0, f1⟩ := AllC.app (show AllC _ (callsEs es ++ callsSs b) from hf)
  obtain ⟨g0, g1⟩ := AllC.app (show AllC _ (glosEs es ++ glosSs b) from hg)
  obtain ⟨p1, p2, p3, p4⟩ := names_pgs x.toXOk x.fnT hc1
  obtain ⟨pi, hs⟩ := snd_pi (cl := cl) (W := W) (tg := .Tuple ts kt tp) (snd_alls es) x.toXOk hc2 f0 g0
  have pb : PSs X p (rdB X.K cl W n b) := ⟨fun pins s σ H D I ⟨G0, H0, q⟩ => (ib X N sc cl W k G0 H0 p x hc3 f1 g1 hx).run pins s σ H D I q⟩
  refine ps_imp (ps_for x.own x.calm pi (pg_tup x.calm p1 p2 p3) pb hs) fun D σ H hn ⟨S, G, R, h⟩ => ?_
  rw [exS] at h
  refine st_rdI R h fun xs J vs G1 H1 R1 w rp h1 => ?_
  refine for_core (fun S S' σ G H v d Q R hl r e q => ?_) (fun S S' hl e => exSs_len n _ b S S' hl e) R1 (R1.ev.len.trans hn) w rp h1
  have hl' : S'.length = X.N.length := by
    cases d with
    | tup ds => exact (setAll_length e).trans hl
    | _ => cases e
  exact gTup_run R r e (fun j hj => by rw [← R.ev.len, hl]; exact p4 j hj) fun σ' R' => q σ' R' hl'
/-! ### the object -/
theorem s_mk (n i : Nat) : SndS n (.mk i) := by
  intro X N sc cl W k G0 H0 st x hc hf hg hx
  unfold chkS at hc
  split at hc
  case h_2 => exact absurd hc Bool.false_ne_true
  rename_i y yp z zp cp pos
  simp only [Bool.and_eq_true, decide_eq_true_eq] at hc
  obtain ⟨⟨rfl, hgl⟩, hl⟩ := hc
  obtain ⟨gl1, gl2⟩ := glE_ok x.toXOk hgl
  obtain ⟨l1, l2, l3⟩ := locE_ok x.toXOk hl
  obtain ⟨⟨C, fa, fd, ps, j, hj, hm, hC, M, F, bb⟩, _⟩ := (show GoodFn X.prog X.w X.K X.mg X.base cl k .ini ∧ True from hf)
  refine ps_imp (ps_set x.nd l1 l2 (pe_make0 M F (x.room.mono hj) gl1 hm bb .nil passL gl2) rfl (.inl (x.fnT _))) fun D σ H hn ⟨S, G, R, h⟩ => ?_
  rw [exS] at h
  split at h
  · exact False.elim h
  · rename_i hno
    intro a dx na nd nad
    refine ⟨a, dx, rfl, upd_same, fun H' r c nr nc rc ha hr hcl hoth => ⟨rfl, ?_⟩⟩
    have rne : r ≠ a := fun e => by subst e; rw [upd_same] at nr; cases nr
    have rnd : r ≠ dx := fun e => by subst e; rw [upd_ne nad, upd_same] at nr; cases nr
    have cne : c ≠ a := fun e => by subst e; rw [upd_same] at nc; cases nc
    have cnd : c ≠ dx := fun e => by subst e; rw [upd_ne nad, upd_same] at nc; cases nc
    have hr0 : H r = none := by rw [upd_ne rne, upd_ne rnd] at nr; exact nr
    have hc0 : H c = none := by rw [upd_ne cne, upd_ne cnd] at nc; exact nc
    have sHH : Same H H' := fun b o q => by
      have n1 : b ≠ a := ne_of_none q na
      have n2 : b ≠ dx := ne_of_none q nd
      rw [hoth b n1 (ne_of_none q hr0) (ne_of_none q hc0), upd_ne n1, upd_ne n2]
      exact q
    have E1 : Ext G H G H' := ⟨Same.refl _, sHH, R.sub.trans sHH, fun b o h1 h2 => by rw [h2] at h1; cases h1⟩
    have R1 := R.grow E1
    have gn : ∀ {b : Addr}, H b = none → G b = none := fun {b} e => R.sub.free e
    have h0 : ∀ {b : Addr}, H b = none → H0 b = none := fun {b} e => R.ext.h.free e
    refine h _ G H' (R1.setOb hC ha hr hcl (gn na) (gn hr0) (gn hc0) rc .nil .nil (h0 na) (h0 hr0) (h0 hc0) (by rw [hn]; exact l3) (by simpa using hno) fun j es b q1 q2 => ?_)
    obtain ⟨b', xs, z1, z2, _⟩ := R.ev.sl j _ q1
    rw [q2] at z1
    cases z1
    exact ⟨(fun e => by subst e; rw [hr0] at z2; cases z2), (fun e => by subst e; rw [hc0] at z2; cases z2)⟩
/-- the call of put -/
theorem pe_put {X : Cx} {N : List Str} {sc : Scope} {cl : Str → Value} {W : WX} {k i : Nat} {g : PutFn} {m : ME} {y : Str} {yp ap cp : Pos} {e : Expr} (x : SOk X N sc W k) (hv : visE N sc i y = true) (hl : (ap.endLine == cp.line) = true) (hc : chkE N m sc e = true)
    (hp : GoodFn X.prog X.w X.K X.mg X.base cl k (.put g)) (hf : AllC (GoodFn X.prog X.w X.K X.mg X.base cl k) (callsE m)) (hg : AllC (GoodGl X.K X.mg) (glosE m)) :
    ∃ t : TE, PE X (.Call (.Attribute (.Name y yp) "put" ap) [e] [] cp) t ∧ ∀ {G0 H0 G H : Hp} {S : List SV} {σ : L2.St} {E : Ends} {Q : VK} {rows cls : List D} {f : Bool × List D × List D → SRes}, StRel X.K G0 H0 S σ G H → S[i]? = some (.ob rows cls) →
      Ks X.K cl W G0 H0 (bindS S (evE m S) fun r => if r.2 = .bo then .stuck else (match g rows cls r.1 with | .ok q => f q | _ => .stuck)) E →
      (∀ q G1 H1, StRel X.K G0 H0 (S.set i (.ob q.2.1 q.2.2)) σ G1 H1 → Ks X.K cl W G0 H0 (f q) E → Q (.bl q.1) H1) → t σ H Q := by
  obtain ⟨v1, v2, v3, v4⟩ := visE_ok x.toXOk hv
  obtain ⟨C, fa, fd, ps, hC, hm, F, bb⟩ := hp
  have pe := (snd_all m X N sc cl W k e x.toXOk hc hf hg).1
  have hst : starEach [e] X.env = (false, eval e X.env) :: starEach [] X.env := chk_star hc
  refine ⟨_, pe_meth (pe_var v1 v2 v3 v4) hC.cl hm F x.room bb .nil passL (pa_cons pe pa_nil hst) hst rfl (meth_ht hst hl), fun {G0 H0 G H S σ E Q rows cls f} R hS h hq => ?_⟩
  obtain ⟨C', a, dx, r, c, xs, ys, hC', hσ, ha, hr, hcl, ga, gr, gc, rc, r1, r2⟩ := R.ev.sl i _ hS
  cases hC.uniq hC'
  refine ⟨_, hσ, a, dx, _, rfl, ha, spF_no _ _ (by decide +kernel) (by decide +kernel), ?_⟩
  refine st_rd R h fun d kd v G1 H1 _ E1 rr R1 h1 => ?_
  split at h1
  · exact False.elim h1
  · rename_i hk
    obtain ⟨G2, E2, s2, rp⟩ := rr.fix E1 hk
    have R2 := R.grow E2
    refine ⟨G2, C, a, dx, r, c, xs, ys, rows, cls, v, d, rfl, hC', E2.sub, E2.h _ _ ha, E2.h _ _ hr, E2.h _ _ hcl, E2.gnone ha ga, E2.gnone hr gr, E2.gnone hcl gc, rc, r1.mono E2.g, r2.mono E2.g, rp, ?_⟩
    dsimp only at h1
    cases eg : g rows cls d with
    | stuck => rw [eg] at h1; exact False.elim h1
    | exc => rw [eg] at h1; exact False.elim h1
    | ok q =>
      rw [eg] at h1
      intro G' H' xs' ys' EO hr' hc' q1 q2
      exact hq q G' H' (R2.putOb hS hσ hC' (E2.h _ _ ha) (E2.gnone ha ga) (E2.gnone hr gr) (E2.gnone hcl gc) rc ⟨_, E2.h _ _ hr⟩ ⟨_, E2.h _ _ hcl⟩ EO hr' hc' q1 q2) h1
theorem s_put (n i : Nat) (g : PutFn) (m : ME) : SndS n (.put i g m) := by
  intro X N sc cl W k G0 H0 st x hc hf hg hx
  unfold chkS at hc
  split at hc
  case h_2 => exact absurd hc Bool.false_ne_true
  rename_i y yp z ap e cp pos
  simp only [Bool.and_eq_true, decide_eq_true_eq] at hc
  obtain ⟨⟨⟨rfl, hv⟩, hl⟩, hcM⟩ := hc
  obtain ⟨hp, ff⟩ := (show GoodFn X.prog X.w X.K X.mg X.base cl k (.put g) ∧ AllC _ (callsE m) from hf)
  obtain ⟨t, pe, ht⟩ := pe_put (yp := yp) x hv hl hcM hp ff hg
  refine ps_imp (ps_expr pe rfl) fun D σ H hn ⟨S, G, R, h⟩ => ?_
  rw [exS] at h
  split at h
  · rename_i rows cls hS
    exact ht (f := fun q => .nx (S.set i (.ob q.2.1 q.2.2))) R hS h fun q G1 H1 R1 h1 => h1 σ G1 H1 R1
  · exact False.elim h
theorem s_ifPut (n i : Nat) (g : PutFn) (m : ME) {a b : List MS} (ia : SndSs n a) (ib : SndSs n b) : SndS n (.ifPut i g m a b) := by
  intro X N sc cl W k G0 H0 st x hc hf hg hx
  unfold chkS at hc
  split at hc
  case h_2 => exact absurd hc Bool.false_ne_true
  rename_i y yp z ap e cp p q pos
  simp only [Bool.and_eq_true, decide_eq_true_eq] at hc
  obtain ⟨⟨⟨⟨⟨rfl, hv⟩, hl⟩, hcM⟩, hca⟩, hcb⟩ := hc
  obtain ⟨hp, ff⟩ := (show GoodFn X.prog X.w X.K X.mg X.base cl k (.put g) ∧ AllC _ (callsE m ++ (callsSs a ++ callsSs b)) from hf)
  obtain ⟨f0, f⟩ := AllC.app ff
  obtain ⟨f1, f2⟩ := AllC.app f
  obtain ⟨g0, gg⟩ := AllC.app (show AllC _ (glosE m ++ (glosSs a ++ glosSs b)) from hg)
  obtain ⟨g1, g2⟩ := AllC.app gg
  obtain ⟨x1, x2⟩ := AllC.app (show AllC _ (excsSs a ++ excsSs b) from hx)
  obtain ⟨t, pe, ht⟩ := pe_put (yp := yp) x hv hl hcM hp f0 g0
  have pa := ia X N sc cl W k G0 H0 p x hca f1 g1 x1
  have pb := ib X N sc cl W k G0 H0 q x hcb f2 g2 x2
  refine ps_imp (ps_if (pt_val pe (fun _ => rfl)) pa pb) fun D σ H hn ⟨S, G, R, h⟩ => ?_
  rw [exS] at h
  split at h
  · rename_i rows cls hS
    refine ht (f := fun q => if q.1 = true then exSs n a (S.set i (.ob q.2.1 q.2.2)) else exSs n b (S.set i (.ob q.2.1 q.2.2))) R hS h fun q G1 H1 R1 h1 => ?_
    obtain ⟨bb, q⟩ := q
    refine ⟨bb, rfl, ?_⟩
    cases bb with
    | true => exact iteT ⟨_, G1, R1, h1⟩
    | false => exact iteF ⟨_, G1, R1, h1⟩
  · exact False.elim h
theorem ss_nil (n : Nat) : SndSs n [] := by
  intro X N sc cl W k G0 H0 sts x hc hf hg hx
  cases sts with
  | cons => unfold chkSs at hc; exact absurd hc Bool.false_ne_true
  | nil =>
    refine pss_imp pss_nil fun D σ H ⟨S, G, R, h⟩ => ?_
    rw [exSs] at h
    exact h σ G H R
theorem ss_cons (n : Nat) {m : MS} {ms : List MS} (hm : ∀ i, m ≠ .frz i) (ia : SndS n m) (ib : SndSs n ms) : SndSs n (m :: ms) := by
  intro X N sc cl W k G0 H0 sts x hc hf hg hx
  obtain ⟨f0, f1⟩ := AllC.app (show AllC _ (callsS m ++ callsSs ms) from hf)
  obtain ⟨g0, g1⟩ := AllC.app (show AllC _ (glosS m ++ glosSs ms) from hg)
  obtain ⟨x0, x1⟩ := AllC.app (show AllC _ (excsS m ++ excsSs ms) from hx)
  have key : ∃ st rest, sts = st :: rest ∧ chkS N m sc st = true ∧ chkSs N ms sc rest = true := by
    cases m <;> try exact absurd rfl (hm _)
    all_goals
      cases sts with
      | nil => unfold chkSs at hc; exact absurd hc Bool.false_ne_true
      | cons st rest =>
        unfold chkSs at hc
        rw [Bool.and_eq_true] at hc
        exact ⟨st, rest, rfl, hc.1, hc.2⟩
  obtain ⟨st, rest, rfl, c1, c2⟩ := key
  have p1 := ia X N sc cl W k G0 H0 st x c1 f0 g0 x0
  have p2 := ib X N sc cl W k G0 H0 rest x c2 f1 g1 x1
  refine pss_imp (pss_cons p1 p2) fun D σ H ⟨S, G, R, h⟩ => ?_
  rw [exSs] at h
  refine ⟨S, G, R, ?_⟩
  cases e : exS n m S with
  | nx S1 =>
    rw [e] at h
    exact fun σ' G' H' R' => ⟨S1, G', R', h⟩
  | ret d fr => rw [e] at h; exact h
  | exc c S1 => rw [e] at h; exact h
  | stuck => rw [e] at h; exact h
theorem ss_frz (n i : Nat) {ms : List MS} (ib : SndSs n ms) : SndSs n (.frz i :: ms) := by
  intro X N sc cl W k G0 H0 sts x hc hf hg hx
  unfold chkSs at hc
  have p2 := ib X N sc cl W k G0 H0 sts x hc hf hg hx
  refine pss_imp p2 fun D σ H ⟨S, G, R, h⟩ => ?_
  rw [exSs, exS] at h
  cases e : S[i]? with
  | none => rw [e] at h; exact False.elim h
  | some sv =>
    rw [e] at h
    cases sv with
    | no => exact False.elim h
    | sh => exact False.elim h
    | ow ds =>
      obtain ⟨G', R'⟩ := R.frz e
      exact ⟨_, G', R', h⟩
    | ob rows cls =>
      obtain ⟨G', R'⟩ := R.frzOb e
      exact ⟨_, G', R', h⟩
mutual
theorem s_all (n : Nat) : ∀ m : MS, (∀ i, m ≠ .frz i) → SndS n m
  | .set i e, _ => s_set n i e
  | .own i e, _ => s_own n i e
  | .unp is e, _ => s_unp n is e
  | .app i e, _ => s_app n i e
  | .ins i l e, _ => s_ins n i l e
  | .popd i e, _ => s_popd n i e
  | .spop j i e, _ => s_spop n j i e
  | .sto i l e, _ => s_sto n i l e
  | .ife c a b, _ => s_ife n (ss_all n a) (ss_all n b)
  | .forI i q es b, _ => s_forI n i q (ss_all n b)
  | .forU is q es b, _ => s_forU n is q (ss_all n b)
  | .whil c b, _ => s_whil n (ss_all n b)
  | .ret e, _ => s_ret n e
  | .retL i, _ => s_retL n i
  | .ret2 i j, _ => s_ret2 n i j
  | .retT e f, _ => s_retT n e f
  | .retO e i, _ => s_retO n e i
  | .unpF i j e, _ => s_unpF n i j e
  | .exp e, _ => s_exp n e
  | .rais c, _ => s_rais n c
  | .tryI b K i j cs tab, _ => s_tryI n K i j cs tab (ss_all n b)
  | .tryS b K j v tab, _ => s_tryS n K j v tab (ss_all n b)
  | .mk i, _ => s_mk n i
  | .put i g e, _ => s_put n i g e
  | .ifPut i g e a b, _ => s_ifPut n i g e (ss_all n a) (ss_all n b)
  | .frz i, h => absurd rfl (h i)
theorem ss_all (n : Nat) : ∀ ms : List MS, SndSs n ms
  | [] => ss_nil n
  | .frz i :: ms => ss_frz n i (ss_all n ms)
  | .set i e :: ms => ss_cons n (fun _ z => by cases z) (s_set n i e) (ss_all n ms)
  | .own i e :: ms => ss_cons n (fun _ z => by cases z) (s_own n i e) (ss_all n ms)
  | .unp is e :: ms => ss_cons n (fun _ z => by cases z) (s_unp n is e) (ss_all n ms)
  | .app i e :: ms => ss_cons n (fun _ z => by cases z) (s_app n i e) (ss_all n ms)
  | .ins i l e :: ms => ss_cons n (fun _ z => by cases z) (s_ins n i l e) (ss_all n ms)
  | .popd i e :: ms => ss_cons n (fun _ z => by cases z) (s_popd n i e) (ss_all n ms)
  | .spop j i e :: ms => ss_cons n (fun _ z => by cases z) (s_spop n j i e) (ss_all n ms)
  | .sto i l e :: ms => ss_cons n (fun _ z => by cases z) (s_sto n i l e) (ss_all n ms)
  | .ife c a b :: ms => ss_cons n (fun _ z => by cases z) (s_ife n (ss_all n a) (ss_all n b)) (ss_all n ms)
  | .forI i q es b :: ms => ss_cons n (fun _ z => by cases z) (s_forI n i q (ss_all n b)) (ss_all n ms)
  | .forU is q es b :: ms => ss_cons n (fun _ z => by cases z) (s_forU n is q (ss_all n b)) (ss_all n ms)
  | .whil c b :: ms => ss_cons n (fun _ z => by cases z) (s_whil n (ss_all n b)) (ss_all n ms)
  | .ret e :: ms => ss_cons n (fun _ z => by cases z) (s_ret n e) (ss_all n ms)
  | .retL i :: ms => ss_cons n (fun _ z => by cases z) (s_retL n i) (ss_all n ms)
  | .ret2 i j :: ms => ss_cons n (fun _ z => by cases z) (s_ret2 n i j) (ss_all n ms)
  | .retT e f :: ms => ss_cons n (fun _ z => by cases z) (s_retT n e f) (ss_all n ms)
  | .retO e i :: ms => ss_cons n (fun _ z => by cases z) (s_retO n e i) (ss_all n ms)
  | .unpF i j e :: ms => ss_cons n (fun _ z => by cases z) (s_unpF n i j e) (ss_all n ms)
  | .exp e :: ms => ss_cons n (fun _ z => by cases z) (s_exp n e) (ss_all n ms)
  | .rais c :: ms => ss_cons n (fun _ z => by cases z) (s_rais n c) (ss_all n ms)
  | .tryI b K i j cs tab :: ms => ss_cons n (fun _ z => by cases z) (s_tryI n K i j cs tab (ss_all n b)) (ss_all n ms)
  | .mk i :: ms => ss_cons n (fun _ z => by cases z) (s_mk n i) (ss_all n ms)
  | .put i g e :: ms => ss_cons n (fun _ z => by cases z) (s_put n i g e) (ss_all n ms)
  | .ifPut i g e a b :: ms => ss_cons n (fun _ z => by cases z) (s_ifPut n i g e (ss_all n a) (ss_all n b)) (ss_all n ms)
  | .tryS b K j v tab :: ms => ss_cons n (fun _ z => by cases z) (s_tryS n K j v tab (ss_all n b)) (ss_all n ms)
end

/-! ### a def -/
section
variable {P : Program} {w : World} {K : PySem.W.Frag} {mg : Str → Option Value} {base : Heap}
theorem fn_sound {cl : Str → Value} {nm qual : Str} {st : Stmt} {f : Addr} {fd : FuncData} {N ps : List Str} {k n : Nat} {body : List MS} (F : Fun K nm qual st f fd) (S : FnScope N ps (defScope st)) (hb : BltOk mg) (hc : chkSs N body (defScope st) (defBody st) = true)
    (hf : AllC (GoodFn P w K mg base cl k) (callsSs body)) (hg : AllC (GoodGl K mg) (glosSs body)) (hx : AllC (GoodEx K mg cl) (excsSs body)) :
    FnOk P w K mg base (L2.CX P w) (k + 1) f fd ps (spM K cl ps.length (mirror N.length n body)) := by
  refine F.okX S (fun vs H Q E h => h.1) (fun cdv A outer s H vs Q E hr h => ?_)
  obtain ⟨hl, G, ds, sm, rp, h⟩ := h
  have x : SOk (cxOf (L2.CX P w) P w K mg base N qual (defScope st) f cdv A outer s H E) N (defScope st) (fun cls d _ H => E cls d H) k :=
    { hN := rfl, sc := rfl, calm := rfl, nd := S.nd, room := hr, tk := takes_of rfl rfl rfl rfl, blt := hb, fnT := fun _ => rfl, own := passes_of rfl, kindF := S.kind, stk := rfl, frm := rfl }
  refine ⟨rdSs K cl (fun cls d _ H => E cls d H) G H n body, ss_all n body _ N _ cl _ k G H _ x hc hf hg hx, ?_⟩
  have hpl : ps.length ≤ N.length := by
    have := congrArg List.length S.pre
    rw [List.length_take] at this
    omega
  have hdl : vs.length = ds.length := rp.len
  have kind : ∀ (i : Nat) (sv : SV), (ds.map SV.sh ++ List.replicate (N.length - ds.length) SV.no)[i]? = some sv → (∃ d, sv = .sh d) ∨ sv = .no := fun i sv hi => by
    rcases List.mem_append.mp (List.mem_of_getElem? hi) with h | h
    · obtain ⟨d, _, rfl⟩ := List.mem_map.mp h
      exact .inl ⟨d, rfl⟩
    · exact .inr (List.eq_of_mem_replicate h)
  have noOw : ∀ (i : Nat) (es : List MP.D), (ds.map SV.sh ++ List.replicate (N.length - ds.length) SV.no)[i]? ≠ some (.ow es) := fun i es hi => by
    rcases kind i _ hi with ⟨d, z⟩ | z <;> cases z
  have noOb : ∀ (i : Nat) (rows cls : List MP.D), (ds.map SV.sh ++ List.replicate (N.length - ds.length) SV.no)[i]? ≠ some (.ob rows cls) := fun i rows cls hi => by
    rcases kind i _ hi with ⟨d, z⟩ | z <;> cases z
  refine ⟨ds.map SV.sh ++ List.replicate (N.length - ds.length) SV.no, G, ⟨⟨sm, ?_, fun i sv hi => ?_⟩, Ext.refl sm, fun i a es hi _ => absurd hi (noOw i es), fun i j a es fs _ hi _ _ _ => absurd hi (noOw i es), fun i a rows cls hi _ => absurd hi (noOb i rows cls), fun i j a b rows cls es hi _ _ _ => absurd hi (noOb i rows cls), fun i j rows cls _ _ hi _ => absurd hi (noOb i rows cls)⟩, ?_⟩
  · unfold L2.start
    simp [hdl]
  · unfold L2.start
    by_cases hlt : i < ds.length
    · rw [List.getElem?_append_left (by simpa using hlt), List.getElem?_map] at hi
      cases e : ds[i]? with
      | none => rw [e] at hi; cases hi
      | some d =>
        rw [e] at hi
        cases hi
        obtain ⟨v, h1, h2⟩ := rp.get e
        refine ⟨v, ?_, h2⟩
        rw [List.getElem?_append_left (by simp; omega), List.getElem?_map, h1]
        rfl
    · rw [List.getElem?_append_right (by simpa using hlt), List.getElem?_replicate] at hi
      split at hi
      · cases hi; trivial
      · cases hi
  · unfold mirror at h
    rw [hide_eq] at h
    cases e : exSs n body (ds.map SV.sh ++ List.replicate (N.length - ds.length) SV.no) with
    | nx S1 =>
      rw [e] at h
      exact fun σ G' H' R' => h .non G' H' R'.ext (show Rep _ _ _ _ from .non)
    | ret d fr => rw [e] at h; exact h
    | exc c S1 =>
      rw [e] at h
      exact fun σ G' H' R' => h G' H' R'.ext
    | stuck => rw [e] at h; exact h
end
end MP
set_option Elab.async false
set_option linter.all false
set_option maxRecDepth 100000
set_option maxHeartbeats 4000000
namespace MP
open PySem PySem.Spec PyProof.Rows L2
theorem GoodFn.up {P : Program} {w : World} {K : PySem.W.Frag} {mg : Str → Option Value} {base : Heap} {cl : Str → Value} {j k : Nat} {p : CallI} (h : GoodFn P w K mg base cl j p) (l : j ≤ k) : GoodFn P w K mg base cl k p := by
  cases p with
  | fn x n f =>
    obtain ⟨f, fd, ps, h1, h2, h3⟩ := h
    exact ⟨f, fd, ps, h1, h2.mono l, h3⟩
  | mt x n f =>
    obtain ⟨C, f, fd, ps, h1, h2, h3, h4, h5⟩ := h
    exact ⟨C, f, fd, ps, h1, h2, h3, h4.mono l, h5⟩
  | ini =>
    obtain ⟨C, f, fd, ps, i, h1, h2⟩ := h
    exact ⟨C, f, fd, ps, i, Nat.le_trans h1 l, h2⟩
  | put g =>
    obtain ⟨C, f, fd, ps, h1, h2, h3, h4⟩ := h
    exact ⟨C, f, fd, ps, h1, h2, h3.mono l, h4⟩
/-- turns of a while, at most: a number that nothing computes with -/
noncomputable def fuelW : {n : Nat // 2 ^ 9000 ≤ n} := Classical.choice ⟨⟨2 ^ 9000, Nat.le_refl _⟩⟩
noncomputable def fuel : Nat := fuelW.1
theorem fuel_ge : 2 ^ 9000 ≤ fuel := fuelW.2
end MP
set_option Elab.async false
set_option linter.all false
set_option maxRecDepth 100000
set_option maxHeartbeats 4000000
namespace MP
open PySem PySem.Spec PyProof.Rows L2 RT
/-! ### the class's own two: __init__, put -/
def isSelf (N : List Str) (sc : Scope) (x : Str) : Bool := visE N sc 0 x
def chkIni (N : List Str) (sc : Scope) : List Stmt → Bool
  | [.Assign [.Attribute (.Name x _) f _] (.List [] _) _, .Assign [.Attribute (.Name y _) g _] (.List [] _) _] => visE N sc 0 x && decide (f = "rows") && visE N sc 0 y && decide (g = "cleared")
  | _ => false
section
variable {P : Program} {w : World} {K : PySem.W.Frag} {mg : Str → Option Value} {base : Heap}
theorem fn_init {nm qual : Str} {st : Stmt} {f C : Addr} {fd : FuncData} (F : Fun K nm qual st f fd) (S : FnScope ["self"] ["self"] (defScope st)) (hC : SpanC K C) (hb : BltOk mg) (hc : chkIni ["self"] (defScope st) (defBody st) = true) :
    FnOk P w K mg base (L2.CX P w) 1 f fd ["self"] (spIni C) := by
  refine F.okX S (fun vs H Q E h => by obtain ⟨p, dx, rfl, _⟩ := h; rfl) (fun cdv A outer s H vs Q E hr h => ?_)
  obtain ⟨p, dx, rfl, hp, q⟩ := h
  have x : SOk (cxOf (L2.CX P w) P w K mg base ["self"] qual (defScope st) f cdv A outer s H E) ["self"] (defScope st) (fun cls d _ H => E cls d H) 0 :=
    { hN := rfl, sc := rfl, calm := rfl, nd := S.nd, room := hr, tk := takes_of rfl rfl rfl rfl, blt := hb, fnT := fun _ => rfl, own := passes_of rfl, kindF := S.kind, stk := rfl, frm := rfl }
  generalize defBody st = body at hc ⊢
  unfold chkIni at hc
  split at hc
  case h_2 => exact absurd hc Bool.false_ne_true
  rename_i x1 xp1 f1 ap1 lp1 pos1 x2 xp2 f2 ap2 lp2 pos2
  simp only [Bool.and_eq_true, decide_eq_true_eq] at hc
  obtain ⟨⟨⟨hv1, rfl⟩, hv2⟩, rfl⟩ := hc
  obtain ⟨v1, v2, v3, v4⟩ := visE_ok x.toXOk hv1
  obtain ⟨w1, w2, w3, w4⟩ := visE_ok x.toXOk hv2
  refine ⟨_, pss_cons (ps_fld (pe_var v1 v2 v3 v4) (pe_lst pa_nil) rfl) (pss_one (ps_fld (pe_var w1 w2 w3 w4) (pe_lst pa_nil) rfl)), ?_⟩
  refine ⟨Nat.zero_le _, fun r nr => ?_⟩
  have npr : p ≠ r := ne_of_none hp nr
  refine ⟨_, rfl, p, C, dx, [], rfl, (by rw [upd_ne npr]; exact hp), hC.cl, hC.nR, (by show 0 < 1000; decide), Nat.zero_le _, fun c nc => ?_⟩
  have ncp : c ≠ p := fun e => by subst e; rw [upd_same] at nc; cases nc
  have ncr : c ≠ r := fun e => by subst e; rw [upd_ne npr.symm, upd_same] at nc; cases nc
  have nc0 : H c = none := by rw [upd_ne ncp, upd_ne ncr] at nc; exact nc
  refine ⟨_, rfl, p, C, dx, _, rfl, (by rw [upd_ne ncp.symm]; exact upd_same), hC.cl, hC.nC, (by show 1 < 1000; decide), ?_⟩
  refine q _ r c nr nc0 ncr.symm upd_same ?_ ?_ fun b n1 n2 n3 => ?_
  · rw [upd_ne npr.symm, upd_ne ncr.symm, upd_ne npr.symm, upd_same]
  · rw [upd_ne ncp, upd_same]
  · rw [upd_ne n1, upd_ne n3, upd_ne n1, upd_ne n2]
end
/-- put: split, pivot_of, the new row of factors -/
def chkPut (N : List Str) (sc : Scope) (e2 e4 : ME) : List Stmt → Bool
  | [.Assign [.Tuple ts _ _] (.Call (.Attribute (.Name x1 _) f1 ap1) [.Name y1 _] [] cp1) _,
     .Assign [.Name x2 _] s2 _,
     .If t3 [.Return (some (.Constant (.bool false) _ _)) _] [] _,
     .Assign [.Name x4 _] s4 _,
     .Expr (.Call (.Attribute (.Attribute (.Name x5 _) f5 _) g5 ap5) [.Tuple [.Name a5 _, .Name b5 _, .Name c5 _] _ _] [] cp5) _,
     .Expr (.Call (.Attribute (.Attribute (.Name x6 _) f6 _) g6 ap6) [.Call (.Name l6 _) [.Name y6 _] [] _] [] cp6) _,
     .Return (some (.Constant (.bool true) _ _)) _] =>
    namesU N sc [2, 3] ts && visE N sc 0 x1 && decide (f1 = "split") && visE N sc 1 y1 && (ap1.endLine == cp1.line) && locE N sc 4 x2 && chkE N e2 sc s2 && chkE N (.isN false (.loc 4)) sc t3 && locE N sc 5 x4 && chkE N e4 sc s4 &&
    (visE N sc 0 x5 && decide (f5 = "cleared") && decide (g5 = "append") && visE N sc 4 a5 && visE N sc 2 b5 && visE N sc 5 c5 && (ap5.endLine == cp5.line)) &&
    (visE N sc 0 x6 && decide (f6 = "rows") && decide (g6 = "append") && decide (l6 = "list") && glE sc l6 && visE N sc 1 y6 && (ap6.endLine == cp6.line))
  | _ => false
def seqOf : D → Option (List D)
  | .lst es => some es
  | .tup es => some es
  | _ => none
/-- what put does -/
def putG (msp : Fn) (e2 e4 : ME) : PutFn := fun rows cl d => match msp [.ob rows cl, d] with
  | .ok (.tup [.lst rest, .lst parts], true) => (match evE e2 [.no, .sh d, .sh (.lst rest), .sh (.lst parts), .no, .no, .no] with
    | .ok (.non, .sh) => .ok (false, rows, cl)
    | .ok (.int p, .sh) => (match evE e4 [.no, .sh d, .sh (.lst rest), .sh (.lst parts), .sh (.int p), .no, .no] with
      | .ok (.lst mx, .fr) => (match seqOf d with
        | some es => if noLs rest = true ∧ noLs mx = true ∧ rows.length < 16777216 ∧ cl.length < 16777216 then .ok (true, rows ++ [.lst es], cl ++ [.tup [.int p, .lst rest, .lst mx]]) else .stuck
        | none => .stuck)
      | _ => .stuck)
    | _ => .stuck)
  | _ => .stuck
/-- what does not lean on the borrowed -/
def strip (G : Hp) (L : List Addr) : Hp := fun b => if b ∈ L then none else G b
section
variable {K : PySem.W.Frag} {G : Hp} {L : List Addr}
theorem strip_at {b : Addr} (h : b ∉ L) : strip G L b = G b := if_neg h
theorem strip_no {b : Addr} (h : b ∈ L) : strip G L b = none := if_pos h
theorem strip_same : Same (strip G L) G := fun b o h => by
  unfold strip at h
  split at h
  · cases h
  · exact h
theorem seqT_strip {a : Addr} {xs : List V} (hL : ∀ p ∈ L, ∀ ys, G p ≠ some (.tup ys) ∧ ∀ f, G p ≠ some (.frz f (.tup ys))) (h : SqT K G a xs) : SqT K (strip G L) a xs := by
  rcases h with (h | ⟨o, h⟩) | h
  · exact .inl (.inl ((strip_at fun m => (hL a m xs).1 h).trans h))
  · exact .inl (.inr ⟨o, (strip_at fun m => (hL a m xs).2 o h).trans h⟩)
  · exact .inr h
mutual
theorem rep_strip (hL : ∀ p ∈ L, ∀ ys, G p ≠ some (.tup ys) ∧ ∀ f, G p ≠ some (.frz f (.tup ys))) : ∀ {v : V} {d : D}, Rep K G v d → noL d = true → Rep K (strip G L) v d
  | _, _, .non, _ => .non
  | _, _, .bl b, _ => .bl b
  | _, _, .int i, _ => .int i
  | _, _, .str i, _ => .str i
  | _, _, .tup h r, z => .tup (seqT_strip hL h) (reps_strip hL r (by unfold noL at z; exact z))
  | _, _, .lst h r, z => by unfold noL at z; cases z
  | _, _, .scr h, z => by unfold noL at z; cases z
  | _, _, .ob _ _ _ _ _ _, z => by unfold noL at z; cases z
theorem reps_strip (hL : ∀ p ∈ L, ∀ ys, G p ≠ some (.tup ys) ∧ ∀ f, G p ≠ some (.frz f (.tup ys))) : ∀ {v : List V} {d : List D}, RepL K G v d → noLs d = true → RepL K (strip G L) v d
  | _, _, .nil, _ => .nil
  | _, _, .cons h r, z => by
    unfold noLs at z
    rw [Bool.and_eq_true] at z
    exact .cons (rep_strip hL h z.1) (reps_strip hL r z.2)
end
end
theorem putG_inv {msp : Fn} {e2 e4 : ME} {rows cl : List D} {d : D} {q : Bool × List D × List D} (h : putG msp e2 e4 rows cl d = .ok q) : ∃ rest parts, msp [.ob rows cl, d] = .ok (.tup [.lst rest, .lst parts], true) ∧
    ((evE e2 [.no, .sh d, .sh (.lst rest), .sh (.lst parts), .no, .no, .no] = .ok (.non, .sh) ∧ q = (false, rows, cl)) ∨
     ∃ p mx es, evE e2 [.no, .sh d, .sh (.lst rest), .sh (.lst parts), .no, .no, .no] = .ok (.int p, .sh) ∧ evE e4 [.no, .sh d, .sh (.lst rest), .sh (.lst parts), .sh (.int p), .no, .no] = .ok (.lst mx, .fr) ∧ seqOf d = some es ∧ noLs rest = true ∧ noLs mx = true ∧ rows.length < 16777216 ∧ cl.length < 16777216 ∧ q = (true, rows ++ [.lst es], cl ++ [.tup [.int p, .lst rest, .lst mx]])) := by
  unfold putG at h
  split at h
  case h_2 => cases h
  rename_i rest parts em
  refine ⟨rest, parts, em, ?_⟩
  split at h
  · rename_i e
    cases h
    exact .inl ⟨e, rfl⟩
  · rename_i p e
    split at h
    case h_2 => cases h
    rename_i mx e'
    split at h
    case h_2 => cases h
    rename_i es e''
    split at h
    case isFalse => cases h
    rename_i hz
    cases h
    exact .inr ⟨p, mx, es, e, e', e'', hz.1, hz.2.1, hz.2.2.1, hz.2.2.2, rfl⟩
  · cases h
theorem seqOf_inv {d : D} {es : List D} (h : seqOf d = some es) : d = .lst es ∨ d = .tup es := by
  unfold seqOf at h
  split at h <;> cases h
  · exact .inl rfl
  · exact .inr rfl
section
variable {P : Program} {w : World} {K : PySem.W.Frag} {mg : Str → Option Value} {base : Heap}
theorem fn_put {cl : Str → Value} {nm qual : Str} {st : Stmt} {f : Addr} {fd : FuncData} {N : List Str} {k : Nat} {msp : Fn} {e2 e4 : ME} (F : Fun K nm qual st f fd) (hN : N.length = 7) (S : FnScope N ["self", "row"] (defScope st)) (hb : BltOk mg)
    (hc : chkPut N (defScope st) e2 e4 (defBody st) = true) (hs : GoodFn P w K mg base cl k (.mt "split" 2 msp)) (hf2 : AllC (GoodFn P w K mg base cl k) (callsE e2)) (hg2 : AllC (GoodGl K mg) (glosE e2)) (hf4 : AllC (GoodFn P w K mg base cl k) (callsE e4)) (hg4 : AllC (GoodGl K mg) (glosE e4)) :
    FnOk P w K mg base (L2.CX P w) (k + 1) f fd ["self", "row"] (spPut K (putG msp e2 e4)) := by
  refine F.okX S (fun vs H Q E h => by obtain ⟨_, _, _, _, _, _, _, _, _, _, _, _, rfl, _⟩ := h; rfl) (fun cdv A outer s H vs Q E hr h => ?_)
  obtain ⟨G, C, a, dx, r, c, xs, ys, rows, cls, v, d, rfl, hC, sm, ha, hrr, hcl, ga, gr, gc, rc, r1, r2, rv, h⟩ := h
  have x : SOk (cxOf (L2.CX P w) P w K mg base N qual (defScope st) f cdv A outer s H E) N (defScope st) (fun cls d _ H => E cls d H) k :=
    { hN := rfl, sc := rfl, calm := rfl, nd := S.nd, room := hr, tk := takes_of rfl rfl rfl rfl, blt := hb, fnT := fun _ => rfl, own := passes_of rfl, kindF := S.kind, stk := rfl, frm := rfl }
  obtain ⟨C', fs, fds, pss, hC', hm, hno, Fs, bbs⟩ := hs
  cases hC'.uniq hC
  generalize defBody st = body at hc ⊢
  unfold chkPut at hc
  split at hc
  case h_2 => exact absurd hc Bool.false_ne_true
  rename_i ts kt1 tp1 x1 xp1 f1 ap1 y1 yp1 cp1 pos1 x2 xp2 s2 pos2 t3 j3 cp3 rp3 pos3 x4 xp4 s4 pos4 x5 xp5 f5 fp5 g5 ap5 a5 apa5 b5 bp5 c5 cpc5 k5 tp5 cp5 pos5 x6 xp6 f6 fp6 g6 ap6 l6 lp6 y6 yp6 lcp6 cp6 pos6 j7 jp7 pos7
  simp only [Bool.and_eq_true, decide_eq_true_eq] at hc
  obtain ⟨⟨⟨⟨⟨⟨⟨⟨⟨⟨⟨c1, c2⟩, rfl⟩, c4⟩, c5⟩, c6⟩, c7⟩, c8⟩, c9⟩, c10⟩, ⟨⟨⟨⟨⟨⟨d1, rfl⟩, rfl⟩, d4⟩, d5⟩, d6⟩, d7⟩⟩, ⟨⟨⟨⟨⟨⟨u1, rfl⟩, rfl⟩, rfl⟩, u5⟩, u6⟩, u7⟩⟩ := hc
  have var : ∀ {i : Nat} {y : Str} {pos : Pos}, visE N (defScope st) i y = true → PE (cxOf (L2.CX P w) P w K mg base N qual (defScope st) f cdv A outer s H E) (.Name y pos) (tVar i) := fun {i y pos} h => by
    obtain ⟨v1, v2, v3, v4⟩ := visE_ok x.toXOk h
    exact pe_var v1 v2 v3 v4
  obtain ⟨p1, p2, p3, p4⟩ := names_pgs x.toXOk x.fnT c1
  have pe2 := snd_all e2 _ N _ cl _ k s2 x.toXOk c7 hf2 hg2
  have pe4 := snd_all e4 _ N _ cl _ k s4 x.toXOk c10 hf4 hg4
  have pt3 := (snd_all (.isN false (.loc 4)) _ N _ cl _ k t3 x.toXOk c8 trivial trivial).2.1
  obtain ⟨gl1, gl2⟩ := glE_ok x.toXOk u5
  refine ⟨_, pss_cons (ps_asg (pe_meth (var c2) hC.cl hm Fs x.room bbs .nil passL (pa_cons (var c4) pa_nil rfl) rfl rfl (meth_ht rfl c5)) (pg_tup x.calm p1 p2 p3) rfl rfl rfl)
    (pss_cons (ps_any x c6 c7 hf2 hg2)
    (pss_cons (ps_if pt3 (pss_one (ps_ret pe_bl)) pss_nil)
    (pss_cons (ps_any x c9 c10 hf4 hg4)
    (pss_cons (ps_expr (pe_bm PySem.F.plainAttrs_list PySem.F.slot_list_append PySem.F.type_list_append mt_append (pe_fld (var d1) rfl) (pa_cons (pe_tup (pa_cons (var d4) (pa_cons (var d5) (pa_cons (var d6) pa_nil rfl) rfl) rfl)) pa_nil rfl) rfl rfl d7 rfl rfl) rfl)
    (pss_cons (ps_expr (pe_bm PySem.F.plainAttrs_list PySem.F.slot_list_append PySem.F.type_list_append mt_append (pe_fld (var u1) rfl) (pa_cons (pe_callTy call_list_of gl1 hb.list (by decide +kernel) (pa_cons (var u6) pa_nil rfl) (by decide +kernel) gl2 rfl rfl) pa_nil rfl) rfl rfl u7 rfl rfl) rfl)
    (pss_one (ps_ret pe_bl))))))), ?_⟩
  have hσ : L2.start N [.ref a, v] = [some (.ref a), some v, none, none, none, none, none] := by
    unfold L2.start
    rw [hN]
    rfl
  rw [hσ]
  have nar : a ≠ r := fun e => by subst e; rw [ha] at hrr; cases hrr
  have nac : a ≠ c := fun e => by subst e; rw [ha] at hcl; cases hcl
  obtain ⟨GL, hGL⟩ : ∃ GL, over G H [a, r, c] = GL := ⟨_, rfl⟩
  have sL : Same G GL := by rw [← hGL]; exact over_same
  have LH : Same GL H := by rw [← hGL]; exact over_sub sm
  have la : GL a = some (.ins C dx (spF r c)) := by rw [← hGL, over_at ga (by simp)]; exact ha
  have lr : GL r = some (.lst xs) := by rw [← hGL, over_at gr (by simp)]; exact hrr
  have lc : GL c = some (.lst ys) := by rw [← hGL, over_at gc (by simp)]; exact hcl
  have lin : ∀ b o, GL b = some o → G b = none → b ∈ [a, r, c] := fun b o e g => by
    rw [← hGL] at e
    unfold over at e
    rw [g] at e
    by_cases m : b ∈ [a, r, c]
    · exact m
    · simp only [m, if_false] at e
      cases e
  have hob : Rep K GL (.ref a) (.ob rows cls) := .ob hC la lr lc (r1.mono sL) (r2.mono sL)
  cases eg : putG msp e2 e4 rows cls d with
  | stuck => rw [eg] at h; exact False.elim h
  | exc => rw [eg] at h; exact False.elim h
  | ok q0 =>
    rw [eg] at h
    obtain ⟨rest, parts, em, hq⟩ := putG_inv eg
    refine ⟨_, rfl, a, dx, _, rfl, ha, spF_no _ _ (by decide +kernel) (by decide +kernel), _, rfl, rfl, GL, [.ob rows cls, d], LH, .cons hob (.cons (rv.mono sL) .nil), ?_⟩
    rw [em]
    intro v1 G1 H1 E1 q1
    rcases q1 with ⟨_, _, _, _, e', _⟩ | ⟨t, p, q, ds, es, rfl, e', nt, np, nq, ht, rp, rq⟩ | ⟨t, q, xs', ds, x', u', Gm, e1, e', nx, _⟩
    · cases e'
    rotate_left
    · have e' : MP.D.tup [.lst rest, .lst parts] = .tup [x', .lst ds] := e'
      injection e' with e'
      injection e' with e1 e'
      exact absurd e1.symm (nx _)
    have e' : MP.D.tup [.lst rest, .lst parts] = .tup [.lst ds, .lst es] := e'
    injection e' with e'
    injection e' with e1 e'
    injection e' with e2' _
    injection e1 with e1
    injection e2' with e2'
    subst e1 e2'
    refine ⟨t, [.ref p, .ref q], rfl, .inl (.inl (E1.sub _ _ ht)), rfl, _, _, rfl, _, _, rfl, rfl, ?_⟩
    have EV1 : EvRel K [.no, .sh d, .sh (.lst rest), .sh (.lst parts), .no, .no, .no] [some (.ref a), some v, some (.ref p), some (.ref q), none, none, none] G1 H1 := ⟨E1.sub, rfl, fun i sv hi => by
      match i, hi with
      | 0, hi => cases hi; trivial
      | 1, hi => cases hi; exact ⟨v, rfl, (rv.mono sL).mono E1.g⟩
      | 2, hi => cases hi; exact ⟨_, rfl, rp⟩
      | 3, hi => cases hi; exact ⟨_, rfl, rq⟩
      | 4, hi => cases hi; trivial
      | 5, hi => cases hi; trivial
      | 6, hi => cases hi; trivial
      | i + 7, hi => simp at hi⟩
    show rd K cl _ e2 [some (.ref a), some v, some (.ref p), some (.ref q), none, none, none] H1 _
    refine ⟨_, G1, EV1, ?_⟩
    rcases hq with ⟨h2, rfl⟩ | ⟨pv, mx, es, h2, h4, hes, nr, nm, l1, l2, rfl⟩
    · rw [h2]
      intro v2 G2 H2 E2 q2
      cases (show Rep K G2 v2 .non from q2)
      have EV2 : EvRel K [.no, .sh d, .sh (.lst rest), .sh (.lst parts), .sh .non, .no, .no] [some (.ref a), some v, some (.ref p), some (.ref q), some .non, none, none] G2 H2 := ⟨E2.sub, rfl, fun i sv hi => by
        match i, hi with
        | 0, hi => cases hi; trivial
        | 1, hi => cases hi; exact ⟨v, rfl, ((rv.mono sL).mono E1.g).mono E2.g⟩
        | 2, hi => cases hi; exact ⟨_, rfl, rp.mono E2.g⟩
        | 3, hi => cases hi; exact ⟨_, rfl, rq.mono E2.g⟩
        | 4, hi => cases hi; exact ⟨_, rfl, .non⟩
        | 5, hi => cases hi; trivial
        | 6, hi => cases hi; trivial
        | i + 7, hi => simp at hi⟩
      refine ⟨_, G2, EV2, ?_⟩
      show Kt cl _ _ G2 H2 (Res.ok (.bl true, .sh)) _
      intro G3 H3 E3
      refine iteT ?_
      have sH : Same H H3 := E1.h.trans (E2.h.trans E3.h)
      exact h G H3 xs ys ⟨Same.refl _, fun b o z _ _ => sH _ _ z, sm.trans sH, fun b o z1 z2 => by rw [z2] at z1; cases z1⟩ (sH _ _ hrr) (sH _ _ hcl) r1 r2
    · rw [h2]
      intro v2 G2 H2 E2 q2
      cases (show Rep K G2 v2 (.int pv) from q2)
      have EV2 : ∀ {G2' H2' : Hp}, Ext G1 H1 G2' H2' → EvRel K [.no, .sh d, .sh (.lst rest), .sh (.lst parts), .sh (.int pv), .no, .no] [some (.ref a), some v, some (.ref p), some (.ref q), some (.int pv), none, none] G2' H2' := fun {G2' H2'} E2 => ⟨E2.sub, rfl, fun i sv hi => by
        match i, hi with
        | 0, hi => cases hi; trivial
        | 1, hi => cases hi; exact ⟨v, rfl, ((rv.mono sL).mono E1.g).mono E2.g⟩
        | 2, hi => cases hi; exact ⟨_, rfl, rp.mono E2.g⟩
        | 3, hi => cases hi; exact ⟨_, rfl, rq.mono E2.g⟩
        | 4, hi => cases hi; exact ⟨_, rfl, .int pv⟩
        | 5, hi => cases hi; trivial
        | 6, hi => cases hi; trivial
        | i + 7, hi => simp at hi⟩
      refine ⟨_, G2, EV2 E2, ?_⟩
      show Kt cl _ _ G2 H2 (Res.ok (.bl false, .sh)) _
      intro G3 H3 E3
      refine iteF ?_
      show rd K cl _ e4 [some (.ref a), some v, some (.ref p), some (.ref q), some (.int pv), none, none] H3 _
      refine ⟨_, G3, EV2 (E2.trans E3), ?_⟩
      rw [h4]
      intro v4 G4 H4 E4 q4
      rcases q4 with ⟨pm, xm, dm, rfl, e', n3, hm4, gm4, rm⟩ | q4
      rotate_left
      · exact q4.nolst.elim
      have e' : MP.D.lst mx = .lst dm := e'
      injection e' with e'
      subst e'
      -- the heap so far
      have EA : Ext GL H G4 H4 := E1.trans (E2.trans (E3.trans E4))
      have h3 : Same H H3 := E1.h.trans (E2.h.trans E3.h)
      have ha4 := EA.h _ _ ha
      have hr4 := EA.h _ _ hrr
      have hc4 := EA.h _ _ hcl
      have hH4 : Same H H4 := EA.h
      have rp4 : Rep K G4 (.ref p) (.lst rest) := rp.mono (E2.g.trans (E3.g.trans E4.g))
      obtain ⟨xp, gp4, rrest⟩ : ∃ xp, G4 p = some (.lst xp) ∧ RepL K G4 xp rest := by
        cases rp4 with
        | lst z1 z2 => exact ⟨_, z1, z2⟩
      obtain ⟨pr, xr, rfl, hrow, rrow⟩ : ∃ pr xr, v = .ref pr ∧ (∀ H', Same G H' → SqL K H' pr xr ∨ SqT K H' pr xr) ∧ RepL K G xr es := by
        rcases seqOf_inv hes with rfl | rfl
        · cases rv with
          | lst z1 z2 => exact ⟨_, _, rfl, fun H' s => .inl (SqL.of (s _ _ z1)), z2⟩
        · cases rv with
          | tup z1 z2 => exact ⟨_, _, rfl, fun H' s => .inr (seqT s z1), z2⟩
      refine ⟨_, rfl, a, C, dx, _, _, rfl, ha4, hC.cl, hC.nC, spF_cleared _ _, .inl ⟨rfl, _, SqL.of hc4⟩, _, rfl, _, rfl, _, rfl, by rw [szl]; show 3 ≤ _; decide, fun tt ntt => ?_⟩
      have tc : c ≠ tt := ne_of_none hc4 ntt
      have tr : r ≠ tt := ne_of_none hr4 ntt
      have ta : a ≠ tt := ne_of_none ha4 ntt
      refine ⟨c, ys, .ref tt, rfl, rfl, (by rw [upd_ne tc]; exact hc4), (by rw [r2.len, szl]; exact l2), ?_⟩
      have sG4 : Same G H4 := sm.trans hH4
      have sG5 : Same G (upd (upd H4 tt (.tup [.int pv, .ref p, .ref pm])) c (.lst (ys ++ [.ref tt]))) := fun b o z => by
        rw [upd_ne (ne_of_none z gc), upd_ne (ne_of_none (sG4 _ _ z) ntt)]
        exact sG4 _ _ z
      refine ⟨_, rfl, a, C, dx, _, _, rfl, (by rw [upd_ne nac, upd_ne ta]; exact ha4), hC.cl, hC.nR, spF_rows _ _, .inl ⟨rfl, _, SqL.of (xs := xs) (by rw [upd_ne rc, upd_ne tr]; exact hr4)⟩, _, rfl, pr, xr, rfl, hrow _ sG5, fun l nl => ?_⟩
      have lc' : l ≠ c := fun e => by subst e; rw [upd_same] at nl; cases nl
      have lt' : l ≠ tt := fun e => by subst e; rw [upd_ne tc.symm, upd_same] at nl; cases nl
      have nl4 : H4 l = none := by rw [upd_ne lc', upd_ne lt'] at nl; exact nl
      have lr' : l ≠ r := fun e => by subst e; rw [nl4] at hr4; cases hr4
      have la' : l ≠ a := fun e => by subst e; rw [nl4] at ha4; cases ha4
      refine ⟨r, xs, .ref l, rfl, rfl, (by rw [upd_ne lr'.symm, upd_ne rc, upd_ne tr]; exact hr4), (by rw [r1.len, szl]; exact l1), ?_⟩
      show Q (.bl true) _
      -- what is plain at the end
      have mL : ∀ b, b ∈ [a, r, c] ↔ b = a ∨ b = r ∨ b = c := fun b => by simp
      have pmr : pm ≠ r := fun e => by subst e; rw [h3 _ _ hrr] at n3; cases n3
      have pmc : pm ≠ c := fun e => by subst e; rw [h3 _ _ hcl] at n3; cases n3
      have pma : pm ≠ a := fun e => by subst e; rw [h3 _ _ ha] at n3; cases n3
      have pmt : pm ≠ tt := ne_of_none hm4 ntt
      have pml : pm ≠ l := ne_of_none hm4 nl4
      have hp4 : H4 p = some (.lst xp) := EA.sub _ _ gp4
      have pr' : p ≠ r := fun e => by subst e; rw [hrr] at np; cases np
      have pc' : p ≠ c := fun e => by subst e; rw [hcl] at np; cases np
      have pa' : p ≠ a := fun e => by subst e; rw [ha] at np; cases np
      have ppm : p ≠ pm := fun e => by subst e; rw [gm4] at gp4; cases gp4
      have pt' : p ≠ tt := ne_of_none hp4 ntt
      have pl' : p ≠ l := ne_of_none hp4 nl4
      have hL : ∀ b ∈ [a, r, c], ∀ zs, G4 b ≠ some (.tup zs) ∧ ∀ f, G4 b ≠ some (.frz f (.tup zs)) := fun b m zs => by
        rcases (mL b).mp m with rfl | rfl | rfl
        · rw [EA.g _ _ la]
          exact ⟨(fun z => by cases z), (fun _ z => by cases z)⟩
        · rw [EA.g _ _ lr]
          exact ⟨(fun z => by cases z), (fun _ z => by cases z)⟩
        · rw [EA.g _ _ lc]
          exact ⟨(fun z => by cases z), (fun _ z => by cases z)⟩
      obtain ⟨G5, hG5⟩ : ∃ G5, upd (upd (upd (strip G4 [a, r, c]) pm (.lst xm)) tt (.tup [.int pv, .ref p, .ref pm])) l (.lst xr) = G5 := ⟨_, rfl⟩
      have s4t : G4 tt = none := EA.sub.free ntt
      have s4l : G4 l = none := EA.sub.free nl4
      have sS : Same (strip G4 [a, r, c]) G5 := fun b o z => by
        have z4 := strip_same _ _ z
        rw [← hG5, upd_ne (ne_of_none z4 s4l), upd_ne (ne_of_none z4 s4t), upd_ne (ne_of_none z4 gm4)]
        exact z
      have sG : Same G G5 := fun b o z => by
        refine sS _ _ ?_
        have m : b ∉ [a, r, c] := fun m => by
          rcases (mL b).mp m with rfl | rfl | rfl
          · rw [ga] at z; cases z
          · rw [gr] at z; cases z
          · rw [gc] at z; cases z
        rw [strip_at m]
        exact EA.g _ _ (sL _ _ z)
      have g5p : G5 p = some (.lst xp) := sS _ _ ((strip_at (fun m => ((mL p).mp m).elim pa' fun e => e.elim pr' pc')).trans gp4)
      have g5l : G5 l = some (.lst xr) := by rw [← hG5, upd_same]
      have g5t : G5 tt = some (.tup [.int pv, .ref p, .ref pm]) := by rw [← hG5, upd_ne lt'.symm, upd_same]
      have g5m : G5 pm = some (.lst xm) := by rw [← hG5, upd_ne pml, upd_ne pmt, upd_same]
      refine h G5 _ (xs ++ [.ref l]) (ys ++ [.ref tt]) ⟨sG, fun b o z nr nc => ?_, fun b o z => ?_, fun b o z g => ?_⟩ upd_same ?_ ((r1.mono sG).app (.cons (.lst g5l (rrow.mono sG)) .nil))
        ((r2.mono sG).app (.cons (.tup (.inl (.inl g5t)) (.cons (.int pv) (.cons (.lst g5p ((reps_strip hL rrest nr).mono sS)) (.cons (.lst g5m ((reps_strip hL rm nm).mono sS)) .nil)))) .nil))
      · have z4 := hH4 _ _ z
        rw [upd_ne nr, upd_ne (ne_of_none z4 nl4), upd_ne nc, upd_ne (ne_of_none z4 ntt)]
        exact z4
      · by_cases e1 : b = l
        · subst e1
          rw [g5l] at z
          rw [upd_ne lr', upd_same]
          exact z
        · by_cases e2 : b = tt
          · subst e2
            rw [g5t] at z
            rw [upd_ne tr.symm, upd_ne e1, upd_ne tc.symm, upd_same]
            exact z
          · by_cases e3 : b = pm
            · subst e3
              rw [g5m] at z
              rw [upd_ne pmr, upd_ne e1, upd_ne pmc, upd_ne e2]
              exact hm4.trans z
            · rw [← hG5, upd_ne e1, upd_ne e2, upd_ne e3] at z
              have m : b ∉ [a, r, c] := fun m => by rw [strip_no m] at z; cases z
              rw [strip_at m] at z
              rw [upd_ne (fun e => m ((mL b).mpr (.inr (.inl e)))), upd_ne e1, upd_ne (fun e => m ((mL b).mpr (.inr (.inr e)))), upd_ne e2]
              exact EA.sub _ _ z
      · by_cases e1 : b = l
        · subst e1; exact hH4.free nl4
        · by_cases e2 : b = tt
          · subst e2; exact hH4.free ntt
          · by_cases e3 : b = pm
            · subst e3; exact h3.free n3
            · rw [← hG5, upd_ne e1, upd_ne e2, upd_ne e3] at z
              have m : b ∉ [a, r, c] := fun m => by rw [strip_no m] at z; cases z
              rw [strip_at m] at z
              cases z2 : GL b with
              | some u => exact absurd (lin b u z2 g) m
              | none => exact EA.new b o z z2
      · rw [upd_ne rc.symm, upd_ne lc'.symm, upd_same]
end
end MP
set_option Elab.async false
set_option linter.all false
/-! fractions: what lowest computes; a common bottom and a bound -/
namespace WM

theorem div_num (t b : Int) (hb : b ≠ 0) : t.fdiv (b.sign * (Int.gcd t b : Int)) = ((t : Rat) / (b : Rat)).num := by
  rw [← Rat.divInt_eq_div, Rat.num_divInt]
  have hg : (Int.gcd t b : Int) ∣ t := Int.gcd_dvd_left t b
  have hg0 : (Int.gcd t b : Int) ≠ 0 := by
    intro h
    have : Int.gcd t b = 0 := by omega
    rw [Int.gcd_eq_zero_iff] at this
    exact hb this.2
  rw [Int.gcd_comm b t]
  obtain ⟨k, hk⟩ := hg
  rcases Int.lt_or_gt_of_ne hb with h | h
  · rw [Int.sign_eq_neg_one_of_neg h]
    generalize (Int.gcd t b : Int) = g at *
    subst hk
    rw [show (-1 : Int) * g = -g by omega, show (-1 : Int) * (g * k) = g * (-k) by rw [Int.mul_neg]; omega, Int.mul_ediv_cancel_left _ hg0]
    rw [show g * k = (-g) * (-k) by rw [Int.neg_mul_neg], Int.mul_fdiv_cancel_left _ (by omega)]
  · rw [Int.sign_eq_one_of_pos h]
    generalize (Int.gcd t b : Int) = g at *
    subst hk
    rw [Int.one_mul, Int.one_mul, Int.mul_ediv_cancel_left _ hg0, Int.mul_fdiv_cancel_left _ hg0]
theorem div_den (t b : Int) (hb : b ≠ 0) : b.fdiv (b.sign * (Int.gcd t b : Int)) = (((t : Rat) / (b : Rat)).den : Int) := by
  rw [← Rat.divInt_eq_div, Rat.den_divInt, if_neg hb, Int.gcd_comm b t]
  have hg : (Int.gcd t b : Int) ∣ b := Int.gcd_dvd_right t b
  have hg0 : (Int.gcd t b : Int) ≠ 0 := by
    intro h
    have : Int.gcd t b = 0 := by omega
    rw [Int.gcd_eq_zero_iff] at this
    exact hb this.2
  generalize Int.gcd t b = g at *
  obtain ⟨k, hk⟩ := hg
  rw [Int.natCast_ediv]
  rcases Int.lt_or_gt_of_ne hb with h | h
  · rw [Int.sign_eq_neg_one_of_neg h, show ((b.natAbs : Nat) : Int) = -b by omega]
    subst hk
    rw [show (-1 : Int) * (g : Int) = -(g : Int) by omega, show -((g : Int) * k) = g * (-k) by rw [Int.mul_neg], Int.mul_ediv_cancel_left _ hg0]
    rw [show (g : Int) * k = (-(g : Int)) * (-k) by rw [Int.neg_mul_neg], Int.mul_fdiv_cancel_left _ (by omega)]
  · rw [Int.sign_eq_one_of_pos h, show ((b.natAbs : Nat) : Int) = b by omega]
    subst hk
    rw [Int.one_mul, Int.mul_ediv_cancel_left _ hg0, Int.mul_fdiv_cancel_left _ hg0]

/-- q times D is a whole number of at most N -/
def Fit (D N : Nat) (q : Rat) : Prop := 0 < D ∧ ∃ z : Int, q * (D : Rat) = (z : Rat) ∧ z.natAbs ≤ N
theorem ratnum (q : Rat) : q * (q.den : Rat) = (q.num : Rat) := by
  have h := Rat.num_divInt_den q
  rw [Rat.divInt_eq_div, Rat.intCast_natCast] at h
  have hd : (q.den : Rat) ≠ 0 := by
    have := q.den_pos
    exact fun e => by
      have : (q.den : Rat) = ((0 : Nat) : Rat) := e
      have := Rat.natCast_inj.mp this
      omega
  grind
theorem cast_inj' {a b : Int} (h : (a : Rat) = (b : Rat)) : a = b := by
  exact Rat.intCast_inj.mp h
theorem Fit.cross {D N : Nat} {q : Rat} (h : Fit D N q) : ∃ z : Int, z.natAbs ≤ N ∧ q.num * (D : Int) = z * (q.den : Int) := by
  obtain ⟨h0, z, h1, h2⟩ := h
  refine ⟨z, h2, ?_⟩
  have e := ratnum q
  apply cast_inj'
  rw [Rat.intCast_mul, Rat.intCast_mul, Rat.intCast_natCast, Rat.intCast_natCast]
  grind
theorem Fit.den_dvd {D N : Nat} {q : Rat} (h : Fit D N q) : q.den ∣ D := by
  obtain ⟨z, _, e⟩ := h.cross
  have c : Nat.Coprime q.den q.num.natAbs := q.reduced.symm
  have d : q.den ∣ q.num.natAbs * D := by
    have z1 : q.num.natAbs * D = z.natAbs * q.den := by
      have := congrArg Int.natAbs e
      rw [Int.natAbs_mul, Int.natAbs_mul, Int.natAbs_natCast, Int.natAbs_natCast] at this
      exact this
    rw [z1]
    exact Nat.dvd_mul_left _ _
  exact c.dvd_of_dvd_mul_left d
theorem Fit.den_le {D N : Nat} {q : Rat} (h : Fit D N q) : q.den ≤ D := Nat.le_of_dvd h.1 h.den_dvd
theorem Fit.num_le {D N : Nat} {q : Rat} (h : Fit D N q) : q.num.natAbs ≤ N := by
  obtain ⟨z, hz, e⟩ := h.cross
  have hd := h.den_le
  have hp := q.den_pos
  have z1 : q.num.natAbs * D = z.natAbs * q.den := by
    have := congrArg Int.natAbs e
    rw [Int.natAbs_mul, Int.natAbs_mul, Int.natAbs_natCast, Int.natAbs_natCast] at this
    exact this
  have : q.num.natAbs * q.den ≤ z.natAbs * q.den := by
    rw [← z1]
    exact Nat.mul_le_mul_left _ hd
  have := Nat.le_of_mul_le_mul_right this hp
  omega
theorem Fit.zero {D N : Nat} (h : 0 < D) : Fit D N 0 := ⟨h, 0, by grind, by simp⟩
theorem Fit.mono {D N M : Nat} {q : Rat} (h : Fit D N q) (l : N ≤ M) : Fit D M q := by
  obtain ⟨h0, z, h1, h2⟩ := h
  exact ⟨h0, z, h1, by omega⟩
theorem Fit.add {D N M : Nat} {p q : Rat} (h : Fit D N p) (k : Fit D M q) : Fit D (N + M) (p + q) := by
  obtain ⟨h0, z, h1, h2⟩ := h
  obtain ⟨k0, w, k1, k2⟩ := k
  exact ⟨h0, z + w, by rw [Rat.intCast_add]; grind, by omega⟩
theorem Fit.neg {D N : Nat} {p : Rat} (h : Fit D N p) : Fit D N (-p) := by
  obtain ⟨h0, z, h1, h2⟩ := h
  exact ⟨h0, -z, by rw [Rat.intCast_neg]; grind, by omega⟩
theorem Fit.sub {D N M : Nat} {p q : Rat} (h : Fit D N p) (k : Fit D M q) : Fit D (N + M) (p - q) := by
  rw [Rat.sub_eq_add_neg]
  exact h.add k.neg
theorem Fit.mul {D E N M : Nat} {p q : Rat} (h : Fit D N p) (k : Fit E M q) : Fit (D * E) (N * M) (p * q) := by
  obtain ⟨h0, z, h1, h2⟩ := h
  obtain ⟨k0, w, k1, k2⟩ := k
  refine ⟨Nat.mul_pos h0 k0, z * w, ?_, ?_⟩
  · rw [Rat.intCast_mul, Rat.natCast_mul]; grind
  · rw [Int.natAbs_mul]; exact Nat.mul_le_mul h2 k2
theorem Fit.scale {D N : Nat} {p : Rat} (E : Nat) (hE : 0 < E) (h : Fit D N p) : Fit (D * E) (N * E) p := by
  obtain ⟨h0, z, h1, h2⟩ := h
  refine ⟨Nat.mul_pos h0 hE, z * E, ?_, ?_⟩
  · rw [Rat.intCast_mul, Rat.natCast_mul, Rat.intCast_natCast]; grind
  · rw [Int.natAbs_mul, Int.natAbs_natCast]; exact Nat.mul_le_mul_right _ h2
theorem Fit.self (q : Rat) : Fit q.den q.num.natAbs q := ⟨q.den_pos, q.num, ratnum q, Nat.le_refl _⟩
end WM
set_option Elab.async false
set_option linter.all false
set_option maxRecDepth 100000
set_option maxHeartbeats 4000000
namespace MP
open PySem PySem.Spec PyProof.Rows L2
/-! evaluating mirrors -/
theorem atI_nat {α : Type} (xs : List α) (k : Nat) : atI xs (k : Int) = xs[k]? := by
  unfold atI ixN
  by_cases h : k < xs.length
  · rw [if_pos (by omega), if_pos (by omega)]; simp
  · rw [if_pos (by omega), if_neg (by omega)]; simp; omega
@[simp] theorem atI_0 {α : Type} (xs : List α) : atI xs 0 = xs[0]? := atI_nat xs 0
@[simp] theorem atI_1 {α : Type} (xs : List α) : atI xs 1 = xs[1]? := atI_nat xs 1
@[simp] theorem atI_2 {α : Type} (xs : List α) : atI xs 2 = xs[2]? := atI_nat xs 2
@[simp] theorem bindS_ok {α : Type} (S : List SV) (a : α) (f : α → SRes) : bindS S (.ok a) f = f a := rfl
@[simp] theorem isBl_bl (b : Bool) : isBl (.bl b) = true := rfl
theorem while_go {c : List SV → Res (D × Kd)} {f : List SV → SRes} {n : Nat} {S S2 : List SV} {k : Kd} (hc : c S = .ok (.bl true, k)) (hf : f S = .nx S2) : whileL c f (n + 1) S = whileL c f n S2 := by
  rw [whileL, hc]
  show (match f S with | .nx S2 => whileL c f n S2 | r => r) = _
  rw [hf]
theorem while_end {c : List SV → Res (D × Kd)} {f : List SV → SRes} {n : Nat} {S : List SV} {k : Kd} (hc : c S = .ok (.bl false, k)) : whileL c f (n + 1) S = .nx S := by
  rw [whileL, hc]; rfl
theorem for_go {f : List SV → SRes} {tg : List SV → D → Option (List SV)} {x : D} {xs : List D} {S S1 S2 : List SV} (ht : tg S x = some S1) (hf : f S1 = .nx S2) : forL f tg (x :: xs) S = forL f tg xs S2 := by
  rw [forL, ht]
  show (match f S1 with | .nx S2 => forL f tg xs S2 | r => r) = _
  rw [hf]
theorem fuel_pos : ∃ m, fuel = m + 1 := ⟨fuel - 1, by have : 0 < 2 ^ 9000 := Nat.pow_pos (by decide); have := fuel_ge; omega⟩
/-- the loop of lowest, _law_low -/
def gcdB : List MS := [.set 4 (.bin .mod (.loc 2) (.loc 3)), .set 2 (.loc 3), .set 3 (.loc 4)]
def gcdC : ME := .cmp .gt (.loc 3) (.int 0)
theorem gcd_loop (fu : Nat) (t bt s4 : SV) : ∀ (n a b : Nat), b < n → ∃ s, whileL (evE gcdC) (exSs fu gcdB) n [t, bt, .sh (.int a), .sh (.int b), s4] = .nx [t, bt, .sh (.int (Nat.gcd a b)), .sh (.int 0), s] := by
  intro n
  induction n generalizing s4 with
  | zero => intro a b h; omega
  | succ n ih =>
    intro a b h
    by_cases hb : b = 0
    · subst hb
      refine ⟨s4, ?_⟩
      rw [while_end (k := .sh) (by simp [gcdC, evE, evCmp])]
      simp
    · have h1 : (0 : Int) < (b : Int) := by omega
      have h2 : (a : Int).fmod (b : Int) = ((a % b : Nat) : Int) := by
        rw [Int.fmod_eq_emod_of_nonneg _ (by omega)]; rfl
      obtain ⟨s, hs⟩ := ih (.sh (.int ((a % b : Nat) : Int))) b (a % b) (by have := Nat.mod_lt a (Nat.pos_of_ne_zero hb); omega)
      refine ⟨s, ?_⟩
      rw [while_go (k := .sh) (S2 := [t, bt, .sh (.int (b : Int)), .sh (.int ((a % b : Nat) : Int)), .sh (.int ((a % b : Nat) : Int))]) (by simp [gcdC, evE, evCmp]; omega) (by simp [gcdB, exSs, exS, evE, evBin, hb, h2]), hs]
      rw [Nat.gcd_comm a b, Nat.gcd_rec b a, Nat.gcd_comm]
end MP
set_option Elab.async false
set_option linter.all false
set_option maxRecDepth 100000
set_option maxHeartbeats 4000000
namespace MP
open PySem PySem.Spec PyProof.Rows L2 WM
noncomputable def wb_lowest_1 : List MS := [.set 4 (.bin .mod (.loc 2) (.loc 3)), .set 2 (.loc 3), .set 3 (.loc 4)]
def wc_lowest_1 : ME := (.cmp .gt (.loc 3) (.int 0))
noncomputable def w_lowest_1 : MS := .whil wc_lowest_1 wb_lowest_1
noncomputable def b_lowest : List MS := [.set 2 (.blt .abs [(.loc 0)]), .set 3 (.blt .abs [(.loc 1)]), w_lowest_1, .ife (.cmp .lt (.loc 1) (.int 0)) [.set 2 (.bin .sub (.int 0) (.loc 2))] [], .ret (.tup [(.bin .fdiv (.loc 0) (.loc 2)), (.bin .fdiv (.loc 1) (.loc 2))])]
noncomputable def m_lowest : Fn := mirror 5 fuel b_lowest
/-- a fraction as the program has it -/
def fr (q : Rat) : D := .tup [.int q.num, .int q.den]
theorem lt_fuel {n : Nat} (h : n < 2 ^ 9000) : n < fuel := Nat.lt_of_lt_of_le h fuel_ge
theorem gcdI_pos {t b : Int} (hb : b ≠ 0) : 0 < Int.gcd t b := by
  rcases Nat.eq_zero_or_pos (Int.gcd t b) with h | h
  · rw [Int.gcd_eq_zero_iff] at h
    exact absurd h.2 hb
  · exact h
theorem gcdI_le {t b : Int} (hb : b ≠ 0) : Int.gcd t b ≤ b.natAbs := Nat.le_of_dvd (by omega) (by
  have := Int.gcd_dvd_right t b
  exact Int.natAbs_dvd_natAbs.mpr this)
theorem log_lt {n : Nat} (h0 : 0 < n) (h : n < 2 ^ 9000) : n.log2 < 9000 := (Nat.log2_lt (by omega)).mpr h
theorem abs_eq (i : Int) : (if i < 0 then -i else i) = (i.natAbs : Int) := by omega
theorem lowest_ok (t b : Int) (hb : b ≠ 0) (h : b.natAbs < 2 ^ 9000) : m_lowest [.int t, .int b] = .ok (fr ((t : Rat) / (b : Rat)), false) := by
  obtain ⟨s, hs⟩ := gcd_loop fuel (.sh (.int t)) (.sh (.int b)) .no fuel t.natAbs b.natAbs (lt_fuel h)
  have hg := gcdI_pos (t := t) hb
  have hl := log_lt hg (Nat.lt_of_le_of_lt (gcdI_le hb) h)
  have hw : exS fuel w_lowest_1 [.sh (.int t), .sh (.int b), .sh (.int (t.natAbs : Int)), .sh (.int (b.natAbs : Int)), .no] = .nx [.sh (.int t), .sh (.int b), .sh (.int (Int.gcd t b)), .sh (.int 0), s] := by
    rw [w_lowest_1, exS]
    exact hs
  have e1 := div_num t b hb
  have e2 := div_den t b hb
  generalize Int.gcd t b = g at *
  have hg0 : g ≠ 0 := by omega
  unfold m_lowest mirror b_lowest
  rcases Int.lt_or_gt_of_ne hb with hn | hn
  · rw [Int.sign_eq_neg_one_of_neg hn, show (-1 : Int) * (g : Int) = -(g : Int) by omega] at e1 e2
    simp [exSs, exS, evE, evEs, evBlt, args1, abs_eq, hw, evCmp, hn, evBin, hasBo, hg0, hl, e1, e2, fr]
  · rw [Int.sign_eq_one_of_pos hn, Int.one_mul] at e1 e2
    have hn' : ¬ b < 0 := by omega
    simp [exSs, exS, evE, evEs, evBlt, args1, abs_eq, hw, evCmp, hn', evBin, hasBo, hg0, hl, e1, e2, fr]
noncomputable def wb_law_low_1 : List MS := [.set 4 (.bin .mod (.loc 2) (.loc 3)), .set 2 (.loc 3), .set 3 (.loc 4)]
def wc_law_low_1 : ME := (.cmp .gt (.loc 3) (.int 0))
noncomputable def w_law_low_1 : MS := .whil wc_law_low_1 wb_law_low_1
noncomputable def b_law_low : List MS := [.set 2 (.blt .abs [(.loc 0)]), .set 3 (.loc 1), w_law_low_1, .ret (.tup [(.bin .fdiv (.loc 0) (.loc 2)), (.bin .fdiv (.loc 1) (.loc 2))])]
noncomputable def m_law_low : Fn := mirror 5 fuel b_law_low
theorem law_low_ok (t b : Int) (hb : 0 < b) (h : b.natAbs < 2 ^ 9000) : m_law_low [.int t, .int b] = .ok (fr ((t : Rat) / (b : Rat)), false) := by
  obtain ⟨s, hs⟩ := gcd_loop fuel (.sh (.int t)) (.sh (.int b)) .no fuel t.natAbs b.natAbs (lt_fuel h)
  have hb0 : b ≠ 0 := by omega
  have hg := gcdI_pos (t := t) hb0
  have hl := log_lt hg (Nat.lt_of_le_of_lt (gcdI_le hb0) h)
  have hw : exS fuel w_law_low_1 [.sh (.int t), .sh (.int b), .sh (.int (t.natAbs : Int)), .sh (.int b), .no] = .nx [.sh (.int t), .sh (.int b), .sh (.int (Int.gcd t b)), .sh (.int 0), s] := by
    rw [show ((b.natAbs : Nat) : Int) = b by omega] at hs
    rw [w_law_low_1, exS]
    exact hs
  have e1 := div_num t b hb0
  have e2 := div_den t b hb0
  generalize Int.gcd t b = g at *
  have hg0 : g ≠ 0 := by omega
  unfold m_law_low mirror b_law_low
  rw [Int.sign_eq_one_of_pos hb, Int.one_mul] at e1 e2
  simp [exSs, exS, evE, evEs, evBlt, args1, abs_eq, hw, evBin, hasBo, hg0, hl, e1, e2, fr]

/-! the four -/
noncomputable def b_plus : List MS := [.ret (.call "lowest" m_lowest [(.bin .add (.bin .mul (.sub (.loc 0) (.int 0)) (.sub (.loc 1) (.int 1))) (.bin .mul (.sub (.loc 1) (.int 0)) (.sub (.loc 0) (.int 1)))), (.bin .mul (.sub (.loc 0) (.int 1)) (.sub (.loc 1) (.int 1)))])]
noncomputable def m_plus : Fn := mirror 2 fuel b_plus
noncomputable def b_minus : List MS := [.ret (.call "lowest" m_lowest [(.bin .sub (.bin .mul (.sub (.loc 0) (.int 0)) (.sub (.loc 1) (.int 1))) (.bin .mul (.sub (.loc 1) (.int 0)) (.sub (.loc 0) (.int 1)))), (.bin .mul (.sub (.loc 0) (.int 1)) (.sub (.loc 1) (.int 1)))])]
noncomputable def m_minus : Fn := mirror 2 fuel b_minus
noncomputable def b_times : List MS := [.ret (.call "lowest" m_lowest [(.bin .mul (.sub (.loc 0) (.int 0)) (.sub (.loc 1) (.int 0))), (.bin .mul (.sub (.loc 0) (.int 1)) (.sub (.loc 1) (.int 1)))])]
noncomputable def m_times : Fn := mirror 2 fuel b_times
noncomputable def b_over : List MS := [.ret (.call "lowest" m_lowest [(.bin .mul (.sub (.loc 0) (.int 0)) (.sub (.loc 1) (.int 1))), (.bin .mul (.sub (.loc 0) (.int 1)) (.sub (.loc 1) (.int 0)))])]
noncomputable def m_over : Fn := mirror 2 fuel b_over
noncomputable def b_law_plus : List MS := [.ret (.call "_law_low" m_law_low [(.bin .add (.bin .mul (.sub (.loc 0) (.int 0)) (.sub (.loc 1) (.int 1))) (.bin .mul (.sub (.loc 1) (.int 0)) (.sub (.loc 0) (.int 1)))), (.bin .mul (.sub (.loc 0) (.int 1)) (.sub (.loc 1) (.int 1)))])]
noncomputable def m_law_plus : Fn := mirror 2 fuel b_law_plus
noncomputable def b_law_times : List MS := [.ret (.call "_law_low" m_law_low [(.bin .mul (.sub (.loc 0) (.int 0)) (.sub (.loc 1) (.int 0))), (.bin .mul (.sub (.loc 0) (.int 1)) (.sub (.loc 1) (.int 1)))])]
noncomputable def m_law_times : Fn := mirror 2 fuel b_law_times
/-- its numbers are of no concern to the products -/
def Sz (q : Rat) : Prop := q.num.natAbs.log2 < 400000 ∧ q.den.log2 < 400000
theorem den0 (q : Rat) : (q.den : Rat) ≠ 0 := by
  have := q.den_pos
  intro e
  have e : (q.den : Rat) = ((0 : Nat) : Rat) := e
  have := Rat.natCast_inj.mp e
  omega
theorem num_eq (q : Rat) : (q.num : Rat) = q * (q.den : Rat) := (ratnum q).symm
theorem dd_lt {a b : Nat} (h : a * b < 2 ^ 9000) : ((a : Int) * (b : Int)).natAbs < 2 ^ 9000 := by
  rw [Int.natAbs_mul, Int.natAbs_natCast, Int.natAbs_natCast]; exact h
theorem dd_pos (p q : Rat) : (0 : Int) < (p.den : Int) * (q.den : Int) := Int.mul_pos (by have := p.den_pos; omega) (by have := q.den_pos; omega)
theorem add_cross (p q : Rat) : ((p.num * (q.den : Int) + q.num * (p.den : Int) : Int) : Rat) / (((p.den : Int) * (q.den : Int) : Int) : Rat) = p + q := by
  have h1 := den0 p
  have h2 := den0 q
  simp only [Rat.intCast_add, Rat.intCast_mul, Rat.intCast_natCast, num_eq]
  grind
theorem sub_cross (p q : Rat) : ((p.num * (q.den : Int) - q.num * (p.den : Int) : Int) : Rat) / (((p.den : Int) * (q.den : Int) : Int) : Rat) = p - q := by
  have h1 := den0 p
  have h2 := den0 q
  simp only [Rat.intCast_sub, Rat.intCast_mul, Rat.intCast_natCast, num_eq]
  grind
theorem mul_cross (p q : Rat) : ((p.num * q.num : Int) : Rat) / (((p.den : Int) * (q.den : Int) : Int) : Rat) = p * q := by
  have h1 := den0 p
  have h2 := den0 q
  simp only [Rat.intCast_mul, Rat.intCast_natCast, num_eq]
  grind
theorem div_cross (p q : Rat) (h : q ≠ 0) : ((p.num * (q.den : Int) : Int) : Rat) / (((p.den : Int) * q.num : Int) : Rat) = p / q := by
  have h1 := den0 p
  have h2 := den0 q
  simp only [Rat.intCast_mul, Rat.intCast_natCast, num_eq]
  grind
theorem nat_ok {a b : Nat} (h1 : a.log2 < 400000) (h2 : b.log2 < 400000) : a.log2 + b.log2 < 1000000 := by omega
theorem plus_ok (p q : Rat) (h1 : Sz p) (h2 : Sz q) (h : p.den * q.den < 2 ^ 9000) : m_plus [fr p, fr q] = .ok (fr (p + q), false) := by
  have hl := lowest_ok (p.num * q.den + q.num * p.den) (p.den * q.den) (by have := dd_pos p q; omega) (dd_lt h)
  rw [add_cross] at hl
  unfold m_plus mirror b_plus
  simp [exSs, exS, evE, evEs, fr, evSub, evBin, nat_ok h1.1 h2.2, nat_ok h2.1 h1.2, nat_ok h1.2 h2.2, args1, hl, hasBo]
theorem minus_ok (p q : Rat) (h1 : Sz p) (h2 : Sz q) (h : p.den * q.den < 2 ^ 9000) : m_minus [fr p, fr q] = .ok (fr (p - q), false) := by
  have hl := lowest_ok (p.num * q.den - q.num * p.den) (p.den * q.den) (by have := dd_pos p q; omega) (dd_lt h)
  rw [sub_cross] at hl
  unfold m_minus mirror b_minus
  simp [exSs, exS, evE, evEs, fr, evSub, evBin, nat_ok h1.1 h2.2, nat_ok h2.1 h1.2, nat_ok h1.2 h2.2, args1, hl, hasBo]
theorem times_ok (p q : Rat) (h1 : Sz p) (h2 : Sz q) (h : p.den * q.den < 2 ^ 9000) : m_times [fr p, fr q] = .ok (fr (p * q), false) := by
  have hl := lowest_ok (p.num * q.num) (p.den * q.den) (by have := dd_pos p q; omega) (dd_lt h)
  rw [mul_cross] at hl
  unfold m_times mirror b_times
  simp [exSs, exS, evE, evEs, fr, evSub, evBin, nat_ok h1.1 h2.1, nat_ok h2.1 h1.2, nat_ok h1.2 h2.2, args1, hl, hasBo]
theorem over_ok (p q : Rat) (h1 : Sz p) (h2 : Sz q) (h0 : q ≠ 0) (h : p.den * q.num.natAbs < 2 ^ 9000) : m_over [fr p, fr q] = .ok (fr (p / q), false) := by
  have hn : q.num ≠ 0 := fun e => h0 (Rat.num_eq_zero.mp e)
  have hl := lowest_ok (p.num * q.den) (p.den * q.num) (by
    intro e
    rcases Int.mul_eq_zero.mp e with z | z
    · have := p.den_pos; omega
    · exact hn z) (by rw [Int.natAbs_mul, Int.natAbs_natCast]; exact h)
  rw [div_cross p q h0] at hl
  unfold m_over mirror b_over
  simp [exSs, exS, evE, evEs, fr, evSub, evBin, nat_ok h1.1 h2.2, nat_ok h1.2 h2.1, args1, hl, hasBo]
theorem law_plus_ok (p q : Rat) (h1 : Sz p) (h2 : Sz q) (h : p.den * q.den < 2 ^ 9000) : m_law_plus [fr p, fr q] = .ok (fr (p + q), false) := by
  have hl := law_low_ok (p.num * q.den + q.num * p.den) (p.den * q.den) (dd_pos p q) (dd_lt h)
  rw [add_cross] at hl
  unfold m_law_plus mirror b_law_plus
  simp [exSs, exS, evE, evEs, fr, evSub, evBin, nat_ok h1.1 h2.2, nat_ok h2.1 h1.2, nat_ok h1.2 h2.2, args1, hl, hasBo]
theorem law_times_ok (p q : Rat) (h1 : Sz p) (h2 : Sz q) (h : p.den * q.den < 2 ^ 9000) : m_law_times [fr p, fr q] = .ok (fr (p * q), false) := by
  have hl := law_low_ok (p.num * q.num) (p.den * q.den) (dd_pos p q) (dd_lt h)
  rw [mul_cross] at hl
  unfold m_law_times mirror b_law_times
  simp [exSs, exS, evE, evEs, fr, evSub, evBin, nat_ok h1.1 h2.1, nat_ok h2.1 h1.2, nat_ok h1.2 h2.2, args1, hl, hasBo]
end MP
set_option Elab.async false
set_option linter.all false
set_option maxRecDepth 100000
set_option maxHeartbeats 4000000
namespace MP
open PySem PySem.Spec PyProof.Rows L2 WM
/-! equality of plain data -/
mutual
/-- plain data without bools, of a depth of at most n -/
def okD : Nat → D → Bool
  | _, .non => true
  | _, .int _ => true
  | _, .str s => PyData.canLay0 (.str s)
  | n + 1, .tup xs => okDs n xs
  | n + 1, .lst xs => okDs n xs
  | _, _ => false
def okDs : Nat → List D → Bool
  | _, [] => true
  | n, x :: xs => okD n x && okDs n xs
end
mutual
theorem okD_lay : ∀ (n : Nat) (d : D), okD n d = true → PyData.canLay0 (toPy d) = true ∧ PyData.depth (toPy d) ≤ n
  | _, .non, _ => ⟨rfl, Nat.zero_le _⟩
  | _, .int _, _ => ⟨rfl, Nat.zero_le _⟩
  | _, .str s, h => ⟨by unfold okD at h; exact h, Nat.zero_le _⟩
  | n + 1, .tup xs, h => by
    have z := okDs_lay n xs (by unfold okD at h; exact h)
    exact ⟨z.1, Nat.succ_le_succ z.2⟩
  | n + 1, .lst xs, h => by
    have z := okDs_lay n xs (by unfold okD at h; exact h)
    exact ⟨z.1, Nat.succ_le_succ z.2⟩
  | _, .bl _, h => by unfold okD at h; cases h
  | _, .scr _, h => by unfold okD at h; cases h
  | 0, .tup _, h => by unfold okD at h; cases h
  | 0, .lst _, h => by unfold okD at h; cases h
theorem okDs_lay : ∀ (n : Nat) (ds : List D), okDs n ds = true → PyData.canLayAll0 (toPys ds) = true ∧ PyData.depthAll (toPys ds) ≤ n
  | _, [], _ => ⟨rfl, Nat.zero_le _⟩
  | n, x :: xs, h => by
    unfold okDs at h
    rw [Bool.and_eq_true] at h
    have z1 := okD_lay n x h.1
    have z2 := okDs_lay n xs h.2
    unfold toPys PyData.canLayAll0 PyData.depthAll
    rw [z1.1, z2.1]
    exact ⟨rfl, Nat.max_le.mpr ⟨z1.2, z2.2⟩⟩
end
theorem okD_shaped {n : Nat} {d : D} (h : okD n d = true) (hn : n ≤ 64) : SeqAt.shaped (toPy d) = true := by
  have z := okD_lay n d h
  unfold SeqAt.shaped
  rw [z.1, Bool.true_and, decide_eq_true_eq]
  exact Nat.le_trans z.2 hn
mutual
theorem okD_eqv : ∀ (n : Nat) (d e : D), okD n d = true → okD n e = true → (PyData.eqv (toPy d) (toPy e) = true ↔ d = e)
  | n, .non, e, h, k => by cases e <;> first | (unfold okD at k; cases k; done) | (simp [toPy, PyData.eqv])
  | n, .int i, e, h, k => by cases e <;> first | (unfold okD at k; cases k; done) | (simp [toPy, PyData.eqv])
  | n, .str i, e, h, k => by cases e <;> first | (unfold okD at k; cases k; done) | (simp [toPy, PyData.eqv])
  | n + 1, .tup xs, e, h, k => by
    cases e <;> first
      | (unfold okD at k; cases k; done)
      | (simp [toPy, PyData.eqv]; done)
      | skip
    rename_i ys
    have z := okDs_eqv n xs ys (by unfold okD at h; exact h) (by unfold okD at k; exact k)
    simp [toPy, PyData.eqv, z]
  | n + 1, .lst xs, e, h, k => by
    cases e <;> first
      | (unfold okD at k; cases k; done)
      | (simp [toPy, PyData.eqv]; done)
      | skip
    rename_i ys
    have z := okDs_eqv n xs ys (by unfold okD at h; exact h) (by unfold okD at k; exact k)
    simp [toPy, PyData.eqv, z]
  | n, .bl _, _, h, _ => by unfold okD at h; cases h
  | n, .scr _, _, h, _ => by unfold okD at h; cases h
  | 0, .tup _, _, h, _ => by unfold okD at h; cases h
  | 0, .lst _, _, h, _ => by unfold okD at h; cases h
theorem okDs_eqv : ∀ (n : Nat) (d e : List D), okDs n d = true → okDs n e = true → (PyData.eqvAll (toPys d) (toPys e) = true ↔ d = e)
  | n, [], [], _, _ => by simp [toPys, PyData.eqvAll]
  | n, [], y :: ys, _, _ => by simp [toPys, PyData.eqvAll]
  | n, x :: xs, [], _, _ => by simp [toPys, PyData.eqvAll]
  | n, x :: xs, y :: ys, h, k => by
    unfold okDs at h k
    rw [Bool.and_eq_true] at h k
    have z1 := okD_eqv n x y h.1 k.1
    have z2 := okDs_eqv n xs ys h.2 k.2
    simp [toPys, PyData.eqvAll, z1, z2]
end
/-- == of plain data -/
theorem ev_eq {n : Nat} {d e : D} (h : okD n d = true) (k : okD n e = true) (hn : n ≤ 64) (p : Bool) (hp : d = e ↔ p = true) : evCmp .eq d e = .ok (.bl p, .sh) := by
  have hb : PyData.eqv (toPy d) (toPy e) = p := by
    rw [Bool.eq_iff_iff, okD_eqv n d e h k, hp]
  simp only [evCmp, okD_shaped h hn, okD_shaped k hn, hb, and_self, if_true]
theorem ev_ne {n : Nat} {d e : D} (h : okD n d = true) (k : okD n e = true) (hn : n ≤ 64) (p : Bool) (hp : d = e ↔ p = true) : evCmp .ne d e = .ok (.bl (!p), .sh) := by
  have hb : PyData.eqv (toPy d) (toPy e) = p := by
    rw [Bool.eq_iff_iff, okD_eqv n d e h k, hp]
  simp only [evCmp, okD_shaped h hn, okD_shaped k hn, hb, and_self, if_true]
@[simp] theorem ev_eqI (i j : Int) : evCmp .eq (.int i) (.int j) = .ok (.bl (decide (i = j)), .sh) := ev_eq (n := 0) rfl rfl (by decide) _ (by simp)
@[simp] theorem ev_neI (i j : Int) : evCmp .ne (.int i) (.int j) = .ok (.bl (!decide (i = j)), .sh) := ev_ne (n := 0) rfl rfl (by decide) _ (by simp)
theorem fr_inj {p q : Rat} : fr p = fr q ↔ p = q := by
  constructor
  · intro h
    unfold fr at h
    simp at h
    exact Rat.ext h.1 (Int.ofNat_inj.mp h.2)
  · rintro rfl; rfl
@[simp] theorem okD_fr (n : Nat) (q : Rat) : okD (n + 1) (fr q) = true := by simp [fr, okD, okDs]
@[simp] theorem ev_eqF (p q : Rat) : evCmp .eq (fr p) (fr q) = .ok (.bl (decide (p = q)), .sh) := ev_eq (n := 1) (by simp) (by simp) (by decide) _ (by rw [fr_inj]; simp)
@[simp] theorem ev_neF (p q : Rat) : evCmp .ne (fr p) (fr q) = .ok (.bl (!decide (p = q)), .sh) := ev_ne (n := 1) (by simp) (by simp) (by decide) _ (by rw [fr_inj]; simp)
/-! sums, products, quotients -/
@[simp] theorem ev_addI (i j : Int) : evBin .add (.int i) (.int j) = .ok (.int (i + j), .sh) := rfl
@[simp] theorem ev_subI (i j : Int) : evBin .sub (.int i) (.int j) = .ok (.int (i - j), .sh) := rfl
theorem ev_mod {i j : Int} (h : j ≠ 0) : evBin .mod (.int i) (.int j) = .ok (.int (i.fmod j), .sh) := by simp only [evBin, ne_eq, h, not_false_eq_true, if_true]
theorem ev_fdiv {i j : Int} (h : j ≠ 0) (k : j.natAbs < 2 ^ 9000) : evBin .fdiv (.int i) (.int j) = .ok (.int (i.fdiv j), .sh) := by
  have : j.natAbs.log2 < 9000 := (Nat.log2_lt (by omega)).mpr k
  simp only [evBin, ne_eq, h, not_false_eq_true, this, and_self, if_true]
theorem ev_mul64 {i j : Int} (h : j.natAbs < 2 ^ 64) : evBin .mul (.int i) (.int j) = .ok (.int (i * j), .sh) := by
  have z : i.natAbs.log2 + j.natAbs.log2 < 1000000 ∨ j.natAbs < 2 ^ 64 := .inr h
  simp only [evBin, z, if_true]
theorem ev_mul {i j : Int} (h1 : i.natAbs < 2 ^ 400000) (h2 : j.natAbs < 2 ^ 400000) : evBin .mul (.int i) (.int j) = .ok (.int (i * j), .sh) := by
  have l : ∀ n : Nat, n < 2 ^ 400000 → n.log2 ≤ 400000 := fun n h => by
    by_cases e : n = 0
    · subst e; simp
    · exact Nat.le_of_lt ((Nat.log2_lt e).mpr h)
  have z : i.natAbs.log2 + j.natAbs.log2 < 1000000 ∨ j.natAbs < 2 ^ 64 := .inl (by have := l _ h1; have := l _ h2; omega)
  simp only [evBin, z, if_true]
theorem ev_pow {i j : Int} (h : 0 ≤ j ∧ j.natAbs ≤ 1000000 ∧ i.natAbs < 2 ^ 64) : evBin .pow (.int i) (.int j) = .ok (.int (i ^ j.toNat), .sh) := by simp only [evBin, h, and_self, if_true]
theorem pow_up {n a b : Nat} (h : n < 2 ^ a) (l : a ≤ b) : n < 2 ^ b := Nat.lt_of_lt_of_le h (Nat.pow_le_pow_right (by decide) l)
theorem exSs_app (n : Nat) (b : List MS) : ∀ (a : List MS) (S : List SV), exSs n (a ++ b) S = match exSs n a S with | .nx S1 => exSs n b S1 | r => r
  | [], S => by rw [List.nil_append, exSs]
  | m :: ms, S => by
    rw [List.cons_append, exSs, exSs]
    cases exS n m S <;> simp [exSs_app n b ms]
theorem ev_mul9 {i j : Int} (h1 : i.natAbs < 2 ^ 9000) (h2 : j.natAbs < 2 ^ 9000) : evBin .mul (.int i) (.int j) = .ok (.int (i * j), .sh) := ev_mul (pow_up h1 (by decide)) (pow_up h2 (by decide))
theorem lt9 {n : Nat} (h : n ≤ 10 ^ 80) : n < 2 ^ 9000 := Nat.lt_of_le_of_lt h (by decide +kernel)
@[simp] theorem is_int (i : Int) (t : Ty) : evIs (.int i) t = .ok (.bl (evIsi (.int i) t), .sh) := rfl
@[simp] theorem is_bl (i : Bool) (t : Ty) : evIs (.bl i) t = .ok (.bl (evIsi (.bl i) t), .sh) := rfl
@[simp] theorem is_str (i : Str) (t : Ty) : evIs (.str i) t = .ok (.bl (evIsi (.str i) t), .sh) := rfl
@[simp] theorem is_non (t : Ty) : evIs .non t = .ok (.bl (evIsi .non t), .sh) := rfl
@[simp] theorem is_tup (i : List D) (t : Ty) : evIs (.tup i) t = .ok (.bl (evIsi (.tup i) t), .sh) := rfl
@[simp] theorem is_lst (i : List D) (t : Ty) : evIs (.lst i) t = .ok (.bl (evIsi (.lst i) t), .sh) := rfl
@[simp] theorem is_fr (q : Rat) (t : Ty) : evIs (fr q) t = .ok (.bl (evIsi (fr q) t), .sh) := rfl
@[simp] theorem isi_fr (q : Rat) : evIsi (fr q) .tuple = true := rfl
end MP
set_option Elab.async false
set_option linter.all false
set_option maxRecDepth 100000
set_option maxHeartbeats 4000000
namespace MP
open PySem PySem.Spec PyProof.Rows L2 WM
noncomputable def b_law_cell_at : List MS := [.ife (.cmp .lt (.loc 1) (.blt .len [(.loc 0)])) [.ret (.sub (.loc 0) (.loc 1))] [], .ret (.int 0)]
noncomputable def m_law_cell_at : Fn := mirror 2 fuel b_law_cell_at
noncomputable def b_law_whole : List MS := [.ret (.and (.isi (.loc 0) .int) (.not (.isi (.loc 0) .bool)))]
noncomputable def m_law_whole : Fn := mirror 1 fuel b_law_whole
noncomputable def b_law_proper : List MS := [.ife (.or (.not (.isi (.loc 0) .tuple)) (.or (.cmp .ne (.blt .len [(.loc 0)]) (.int 2)) (.or (.not (.call "_law_whole" m_law_whole [(.sub (.loc 0) (.int 0))])) (.not (.call "_law_whole" m_law_whole [(.sub (.loc 0) (.int 1))]))))) [.ret (.bl false)] [], .ret (.and (.cmp .gt (.sub (.loc 0) (.int 1)) (.int 0)) (.cmp .eq (.call "_law_low" m_law_low [(.sub (.loc 0) (.int 0)), (.sub (.loc 0) (.int 1))]) (.loc 0)))]
noncomputable def m_law_proper : Fn := mirror 1 fuel b_law_proper
/-- the k-th number of the script, or 0 -/
def cell (ns : List Int) (k : Nat) : Int := ns.getD k 0
theorem cell_at_ok (ns : List Int) (k : Nat) : m_law_cell_at [.scr ns, .int k] = .ok (.int (cell ns k), false) := by
  unfold m_law_cell_at mirror b_law_cell_at cell
  by_cases h : k < ns.length
  · have e : atI ns (k : Int) = some ns[k] := by rw [atI_nat]; simp [h]
    simp [exSs, exS, evE, evEs, evBlt, args1, evCmp, evSub, h, e]
  · simp [exSs, exS, evE, evEs, evBlt, args1, evCmp, evSub, h]
theorem whole_ok (i : Int) : m_law_whole [.int i] = .ok (.bl true, false) := by
  unfold m_law_whole mirror b_law_whole
  simp [exSs, exS, evE, evEs, evIsi]
theorem fr_self (q : Rat) : (q.num : Rat) / ((q.den : Int) : Rat) = q := by
  have h1 := den0 q
  rw [Rat.intCast_natCast, num_eq]
  grind
theorem proper_ok (q : Rat) (h : q.den < 2 ^ 9000) : m_law_proper [fr q] = .ok (.bl true, false) := by
  have hp : (0 : Int) < (q.den : Int) := by have := q.den_pos; omega
  have hl := law_low_ok q.num q.den hp (by rw [Int.natAbs_natCast]; exact h)
  rw [fr_self] at hl
  have he := ev_eqF q q
  unfold fr at he hl
  unfold m_law_proper mirror b_law_proper
  simp [exSs, exS, evE, evEs, fr, evIsi, evBlt, args1, evSub, whole_ok, hasBo, hl, he]
  have := q.den_pos
  simp [evCmp, this, he]
end MP
set_option Elab.async false
set_option linter.all false
set_option maxRecDepth 100000
set_option maxHeartbeats 4000000
namespace MP
open PySem PySem.Spec PyProof.Rows L2 WM
/-! loops and comprehensions -/
/-- a for over anything by an invariant -/
theorem for_inv {f : List SV → SRes} {tg : List SV → D → Option (List SV)} (P : Nat → List SV → Prop) : ∀ (xs : List D) (i : Nat) (S : List SV), P i S →
    (∀ (j : Nat) (x : D) (S : List SV), xs[j]? = some x → P (i + j) S → ∃ S1 S2, tg S x = some S1 ∧ f S1 = .nx S2 ∧ P (i + j + 1) S2) →
    ∃ S', forL f tg xs S = .nx S' ∧ P (i + xs.length) S'
  | [], i, S, h0, _ => ⟨S, by rw [forL], by simpa using h0⟩
  | x :: xs, i, S, h0, st => by
    obtain ⟨S1, S2, h1, h2, h3⟩ := st 0 x S rfl (by simpa using h0)
    obtain ⟨S', h4, h5⟩ := for_inv P xs (i + 1) S2 h3 (fun j y S hy hp => by
      have := st (j + 1) y S (by simpa using hy) (by rw [show i + (j + 1) = i + 1 + j by omega]; exact hp)
      rw [show i + (j + 1) + 1 = i + 1 + j + 1 by omega] at this
      exact this)
    refine ⟨S', by rw [for_go h1 h2, h4], ?_⟩
    rw [List.length_cons, show i + (xs.length + 1) = i + 1 + xs.length by omega]
    exact h5
theorem for_inv0 {f : List SV → SRes} {tg : List SV → D → Option (List SV)} (P : Nat → List SV → Prop) {xs : List D} {S : List SV} (h0 : P 0 S)
    (st : ∀ (j : Nat) (x : D) (S : List SV), xs[j]? = some x → P j S → ∃ S1 S2, tg S x = some S1 ∧ f S1 = .nx S2 ∧ P (j + 1) S2) :
    ∃ S', forL f tg xs S = .nx S' ∧ P xs.length S' := by
  have := for_inv (f := f) (tg := tg) P xs 0 S h0 (fun j x S hx hp => by
    rw [Nat.zero_add] at hp
    have := st j x S hx hp
    rw [Nat.zero_add]
    exact this)
  rw [Nat.zero_add] at this
  exact this
/-- a for over range(n) by an invariant -/
theorem for_rng {f : List SV → SRes} {tg : List SV → D → Option (List SV)} (P : Nat → List SV → Prop) {n : Nat} {S : List SV} (h0 : P 0 S)
    (st : ∀ (j : Nat) (S : List SV), j < n → P j S → ∃ S1 S2, tg S (.int j) = some S1 ∧ f S1 = .nx S2 ∧ P (j + 1) S2) :
    ∃ S', forL f tg ((List.range n).map fun i : Nat => D.int i) S = .nx S' ∧ P n S' := by
  obtain ⟨S', h1, h2⟩ := for_inv0 (f := f) (tg := tg) (xs := (List.range n).map fun i : Nat => D.int i) P h0 (fun j x S hx hp => by
    rw [List.getElem?_map] at hx
    have hj : j < n := by
      by_cases h : j < n
      · exact h
      · rw [List.getElem?_eq_none (by simpa using h)] at hx; cases hx
    rw [List.getElem?_range hj] at hx
    cases hx
    exact st j S hj hp)
  rw [List.length_map, List.length_range] at h2
  exact ⟨S', h1, h2⟩
/-- a for over n items by an invariant -/
theorem for_tab {f : List SV → SRes} {tg : List SV → D → Option (List SV)} (P : Nat → List SV → Prop) (h : Nat → D) {n : Nat} {S : List SV} (h0 : P 0 S)
    (st : ∀ (j : Nat) (S : List SV), j < n → P j S → ∃ S1 S2, tg S (h j) = some S1 ∧ f S1 = .nx S2 ∧ P (j + 1) S2) :
    ∃ S', forL f tg ((List.range n).map h) S = .nx S' ∧ P n S' := by
  obtain ⟨S', h1, h2⟩ := for_inv0 (f := f) (tg := tg) (xs := (List.range n).map h) P h0 (fun j x S hx hp => by
    rw [List.getElem?_map] at hx
    have hj : j < n := by
      by_cases h : j < n
      · exact h
      · rw [List.getElem?_eq_none (by simpa using h)] at hx; cases hx
    rw [List.getElem?_range hj] at hx
    cases hx
    exact st j S hj hp)
  rw [List.length_map, List.length_range] at h2
  exact ⟨S', h1, h2⟩
theorem comp_map {i : Nat} {f : List SV → Res (D × Kd)} {S : List SV} (g : D → D) : ∀ (xs : List D), (∀ x ∈ xs, ∃ k, k ≠ .bo ∧ f (S.set i (.sh x)) = .ok (g x, k)) → compL i f S xs = .ok (xs.map g)
  | [], _ => by rw [compL]; rfl
  | x :: xs, h => by
    obtain ⟨k, hk, e⟩ := h x List.mem_cons_self
    rw [compL, e]
    simp only [hk, if_false]
    rw [comp_map g xs fun y hy => h y (List.mem_cons_of_mem _ hy)]
    rfl
/-- over n items -/
theorem comp_tab {i : Nat} {f : List SV → Res (D × Kd)} {S : List SV} {n : Nat} (h g : Nat → D) (hs : ∀ j, j < n → ∃ k, k ≠ .bo ∧ f (S.set i (.sh (h j))) = .ok (g j, k)) : compL i f S ((List.range n).map h) = .ok ((List.range n).map g) := by
  have key : ∀ (l : List Nat), (∀ j ∈ l, j < n) → compL i f S (l.map h) = .ok (l.map g) := by
    intro l
    induction l with
    | nil => intro _; rw [List.map, compL]; rfl
    | cons j l ih =>
      intro hl
      obtain ⟨k, hk, e⟩ := hs j (hl j List.mem_cons_self)
      rw [List.map, compL, e]
      simp only [hk, if_false]
      rw [ih fun y hy => hl y (List.mem_cons_of_mem _ hy)]
      rfl
  exact key _ fun j hj => List.mem_range.mp hj
/-- over range(n) -/
theorem comp_rng {i : Nat} {f : List SV → Res (D × Kd)} {S : List SV} {n : Nat} (g : Nat → D) (h : ∀ j, j < n → ∃ k, k ≠ .bo ∧ f (S.set i (.sh (.int j))) = .ok (g j, k)) : compL i f S ((List.range n).map fun j : Nat => D.int j) = .ok ((List.range n).map g) := comp_tab _ g h
/-- a comprehension over n items by itself -/
theorem ev_comp {elt : ME} {i : Nat} {k : IK} {es : List ME} {S : List SV} {n : Nat} {rs : List (D × Kd)} (h g : Nat → D) (h1 : evEs es S = .ok rs) (h2 : hasBo rs = false) (h3 : items k (args1 rs) = .ok ((List.range n).map h)) (hn : n ≤ 16777216)
    (hs : ∀ j, j < n → ∃ k, k ≠ .bo ∧ evE elt (S.set i (.sh (h j))) = .ok (g j, k)) : evE (.comp elt i k es) S = .ok (.lst ((List.range n).map g), .fr) := by
  rw [evE, h1]
  show (if hasBo rs = true then _ else _) = _
  rw [h2, if_neg (by decide), h3]
  show (if _ then _ else _) = _
  rw [if_pos (by simpa using hn), comp_tab h g hs]
  rfl
theorem items_rng (n : Nat) (h : n < 4611686018427387904) : items .range1 [.int n] = .ok ((List.range n).map fun i : Nat => D.int i) := by
  have h1 : (n : Int).natAbs < 4611686018427387904 := by omega
  simp only [items, h1, if_true, Int.toNat_natCast]
/-- a def's own frame -/
theorem mir_ret {s n : Nat} {b : List MS} {ds : List D} {d : D} {fr : Bool} (h : exSs n b (ds.map SV.sh ++ List.replicate (s - ds.length) SV.no) = .ret d fr) : mirror s n b ds = .ok (d, fr) := by
  unfold mirror; rw [hide_eq, h]
theorem ss_go {n : Nat} {m : MS} {ms : List MS} {S S1 : List SV} (h : exS n m S = .nx S1) : exSs n (m :: ms) S = exSs n ms S1 := by rw [exSs, h]
theorem ss_ret {n : Nat} {m : MS} {ms : List MS} {S : List SV} {d : D} {fr : Bool} (h : exS n m S = .ret d fr) : exSs n (m :: ms) S = .ret d fr := by rw [exSs, h]
theorem ss_exc {n : Nat} {m : MS} {ms : List MS} {S S1 : List SV} {c : Str} (h : exS n m S = .exc c S1) : exSs n (m :: ms) S = .exc c S1 := by rw [exSs, h]
end MP
set_option Elab.async false
set_option linter.all false
/-! sums, rows, machines: the plain mathematics -/
namespace WM
/-- f 0 + .. + f (n - 1) -/
def sm : Nat → (Nat → Rat) → Rat
  | 0, _ => 0
  | n + 1, f => sm n f + f n
theorem sm_congr {f g : Nat → Rat} : ∀ {n : Nat}, (∀ i, i < n → f i = g i) → sm n f = sm n g
  | 0, _ => rfl
  | n + 1, h => by
    show sm n f + f n = sm n g + g n
    rw [sm_congr fun i hi => h i (by omega), h n (by omega)]
theorem sm_zero {f : Nat → Rat} : ∀ {n : Nat}, (∀ i, i < n → f i = 0) → sm n f = 0
  | 0, _ => rfl
  | n + 1, h => by
    show sm n f + f n = 0
    rw [sm_zero fun i hi => h i (by omega), h n (by omega)]; grind
theorem sm_add (f g : Nat → Rat) : ∀ n : Nat, sm n (fun i => f i + g i) = sm n f + sm n g
  | 0 => by show (0 : Rat) = 0 + 0; grind
  | n + 1 => by
    show sm n (fun i => f i + g i) + (f n + g n) = sm n f + f n + (sm n g + g n)
    rw [sm_add f g n]; grind
theorem sm_sub (f g : Nat → Rat) : ∀ n : Nat, sm n (fun i => f i - g i) = sm n f - sm n g
  | 0 => by show (0 : Rat) = 0 - 0; grind
  | n + 1 => by
    show sm n (fun i => f i - g i) + (f n - g n) = sm n f + f n - (sm n g + g n)
    rw [sm_sub f g n]; grind
theorem sm_mul (c : Rat) (f : Nat → Rat) : ∀ n : Nat, sm n (fun i => c * f i) = c * sm n f
  | 0 => by show (0 : Rat) = c * 0; grind
  | n + 1 => by
    show sm n (fun i => c * f i) + c * f n = c * (sm n f + f n)
    rw [sm_mul c f n]; grind
theorem sm_mulr (c : Rat) (f : Nat → Rat) (n : Nat) : sm n (fun i => f i * c) = sm n f * c := by
  rw [show (fun i => f i * c) = fun i => c * f i from funext fun i => by grind, sm_mul]; grind
theorem sm_neg (f : Nat → Rat) (n : Nat) : sm n (fun i => - f i) = - sm n f := by
  rw [show (fun i => - f i) = fun i => (-1) * f i from funext fun i => by grind, sm_mul]; grind
theorem sm_app (f : Nat → Rat) (n : Nat) : ∀ m : Nat, sm (n + m) f = sm n f + sm m (fun i => f (n + i))
  | 0 => by show sm n f = sm n f + 0; grind
  | m + 1 => by
    show sm (n + m) f + f (n + m) = sm n f + (sm m (fun i => f (n + i)) + f (n + m))
    rw [sm_app f n m]; grind
theorem sm_swap (f : Nat → Nat → Rat) (m : Nat) : ∀ n : Nat, sm n (fun i => sm m (f i)) = sm m (fun j => sm n (fun i => f i j))
  | 0 => by
    show (0 : Rat) = sm m (fun j => 0)
    rw [sm_zero (n := m) (fun i _ => rfl)]
  | n + 1 => by
    show sm n (fun i => sm m (f i)) + sm m (f n) = sm m (fun j => sm n (fun i => f i j) + f n j)
    rw [sm_swap f m n, sm_add]
/-- all but one are nought -/
theorem sm_one {f : Nat → Rat} {k : Nat} : ∀ {n : Nat}, k < n → (∀ i, i < n → i ≠ k → f i = 0) → sm n f = f k
  | 0, h, _ => by omega
  | n + 1, h, z => by
    show sm n f + f n = f k
    by_cases e : k = n
    · subst e
      rw [sm_zero fun i hi => z i (by omega) (by omega)]; grind
    · rw [sm_one (by omega) fun i hi h => z i (by omega) h, z n (by omega) (fun h => e h.symm)]; grind
theorem sm_fit {D N : Nat} {f : Nat → Rat} (hD : 0 < D) : ∀ {n : Nat}, (∀ i, i < n → Fit D N (f i)) → Fit D (n * N) (sm n f)
  | 0, _ => Fit.zero hD
  | n + 1, h => by
    have := (sm_fit hD (n := n) fun i hi => h i (by omega)).add (h n (by omega))
    rw [show n * N + N = (n + 1) * N by rw [Nat.add_mul, Nat.one_mul]] at this
    exact this

/-- a machine -/
structure Mac where
  n : Nat
  k : Nat
  F : Nat → Rat
  T : Nat → Nat → Nat → Rat
  L : Nat → Rat
namespace Mac
/-- a row led on by a sign -/
def step (m : Mac) (v : Nat → Rat) (s : Nat) : Nat → Rat := fun b => sm m.n fun a => v a * m.T s a b
def run (m : Mac) (v : Nat → Rat) (w : List Nat) : Nat → Rat := w.foldl m.step v
def row (m : Mac) (w : List Nat) : Nat → Rat := m.run m.F w
def dotL (m : Mac) (v : Nat → Rat) : Rat := sm m.n fun i => v i * m.L i
def wt (m : Mac) (w : List Nat) : Rat := m.dotL (m.row w)
/-- a column led back by a sign; what a word adds behind -/
def back (m : Mac) (s : Nat) (v : Nat → Rat) : Nat → Rat := fun a => sm m.n fun b => m.T s a b * v b
def col (m : Mac) (w : List Nat) : Nat → Rat := w.foldr m.back m.L
theorem run_nil (m : Mac) (v : Nat → Rat) : m.run v [] = v := rfl
theorem run_cons (m : Mac) (v : Nat → Rat) (s : Nat) (w : List Nat) : m.run v (s :: w) = m.run (m.step v s) w := rfl
theorem run_app (m : Mac) (v : Nat → Rat) (u w : List Nat) : m.run v (u ++ w) = m.run (m.run v u) w := List.foldl_append
theorem row_app (m : Mac) (u w : List Nat) : m.row (u ++ w) = m.run (m.row u) w := run_app m _ u w
theorem row_snoc (m : Mac) (u : List Nat) (s : Nat) : m.row (u ++ [s]) = m.step (m.row u) s := run_app m _ u [s]
theorem step_congr (m : Mac) {v u : Nat → Rat} (s : Nat) (h : ∀ i, i < m.n → v i = u i) : m.step v s = m.step u s := by
  funext b
  exact sm_congr fun a ha => by rw [h a ha]
/-- a step and a column: either way -/
theorem dot_step (m : Mac) (v u : Nat → Rat) (s : Nat) : sm m.n (fun b => m.step v s b * u b) = sm m.n (fun a => v a * m.back s u a) := by
  have e1 : (fun b => m.step v s b * u b) = fun b => sm m.n fun a => v a * m.T s a b * u b := funext fun b => (sm_mulr _ _ _).symm
  have e2 : (fun a => v a * m.back s u a) = fun a => sm m.n fun b => v a * m.T s a b * u b := funext fun a => by
    show v a * sm m.n (fun b => m.T s a b * u b) = _
    rw [← sm_mul]
    exact sm_congr fun b _ => by grind
  rw [e1, e2, sm_swap]
theorem dot_run (m : Mac) : ∀ (w : List Nat) (v : Nat → Rat), m.dotL (m.run v w) = sm m.n (fun a => v a * m.col w a)
  | [], v => rfl
  | s :: w, v => by
    show m.dotL (m.run (m.step v s) w) = sm m.n (fun a => v a * m.back s (m.col w) a)
    rw [dot_run m w (m.step v s), dot_step]
theorem wt_app (m : Mac) (u w : List Nat) : m.wt (u ++ w) = sm m.n (fun a => m.row u a * m.col w a) := by
  show m.dotL (m.row (u ++ w)) = _
  rw [row_app, dot_run]
/-! sums of rows -/
theorem step_add (m : Mac) (v u : Nat → Rat) (s : Nat) : m.step (fun i => v i + u i) s = fun b => m.step v s b + m.step u s b := by
  funext b
  show sm m.n _ = sm m.n _ + sm m.n _
  rw [← sm_add]
  exact sm_congr fun a _ => by grind
theorem step_mul (m : Mac) (c : Rat) (v : Nat → Rat) (s : Nat) : m.step (fun i => c * v i) s = fun b => c * m.step v s b := by
  funext b
  show sm m.n _ = c * sm m.n _
  rw [← sm_mul]
  exact sm_congr fun a _ => by grind
theorem run_add (m : Mac) : ∀ (w : List Nat) (v u : Nat → Rat), m.run (fun i => v i + u i) w = fun b => m.run v w b + m.run u w b
  | [], _, _ => rfl
  | s :: w, v, u => by
    rw [run_cons, step_add, run_add m w]; rfl
theorem run_mul (m : Mac) (c : Rat) : ∀ (w : List Nat) (v : Nat → Rat), m.run (fun i => c * v i) w = fun b => c * m.run v w b
  | [], _ => rfl
  | s :: w, v => by
    rw [run_cons, step_mul, run_mul m c w]; rfl
/-! sizes -/
/-- the first numbers fit D, N; the steps E, M -/
theorem run_fit (m : Mac) {E M : Nat} (hE : ∀ s a b, s < m.k → a < m.n → b < m.n → Fit E M (m.T s a b)) (hE0 : 0 < E) (w : List Nat) : (∀ s ∈ w, s < m.k) → ∀ (v : Nat → Rat) (D N : Nat), 0 < D → (∀ i, i < m.n → Fit D N (v i)) →
    ∀ i, i < m.n → Fit (D * E ^ w.length) (N * (m.n * M) ^ w.length) (m.run v w i) := by
  induction w with
  | nil =>
    intro _ v D N _ h i hi
    show Fit (D * 1) (N * 1) (v i)
    rw [Nat.mul_one, Nat.mul_one]
    exact h i hi
  | cons s w ih =>
    intro hw v D N hD h i hi
    have hs : s < m.k := hw s List.mem_cons_self
    have st : ∀ b, b < m.n → Fit (D * E) (m.n * (N * M)) (m.step v s b) := fun b hb => sm_fit (Nat.mul_pos hD hE0) fun a ha => (h a ha).mul (hE s a b hs ha hb)
    have z := ih (fun t ht => hw t (List.mem_cons_of_mem _ ht)) (m.step v s) (D * E) (m.n * (N * M)) (Nat.mul_pos hD hE0) st i hi
    have e1 : D * E * E ^ w.length = D * E ^ (s :: w).length := by
      rw [List.length_cons, Nat.pow_succ, Nat.mul_assoc, Nat.mul_comm E]
    have e2 : m.n * (N * M) * (m.n * M) ^ w.length = N * (m.n * M) ^ (s :: w).length := by
      rw [List.length_cons, Nat.pow_succ, ← Nat.mul_assoc m.n, Nat.mul_comm m.n N, Nat.mul_assoc N m.n M, Nat.mul_assoc, Nat.mul_comm ((m.n * M) ^ w.length)]
    rw [e1, e2] at z
    exact z
end Mac
end WM
set_option Elab.async false
set_option linter.all false
set_option maxRecDepth 100000
set_option maxHeartbeats 4000000
namespace MP
open PySem PySem.Spec PyProof.Rows L2 WM
noncomputable def wb_dot_1 : List MS := [.set 2 (.call "plus" m_plus [(.loc 2), (.call "times" m_times [(.sub (.loc 0) (.loc 3)), (.sub (.loc 1) (.loc 3))])])]
noncomputable def w_dot_1 : MS := .forI 3 .range1 [(.blt .len [(.loc 0)])] wb_dot_1
noncomputable def b_dot : List MS := [.set 2 (.glo "NOUGHT" (.tup [(.int 0), (.int 1)])), w_dot_1, .ret (.loc 2)]
noncomputable def m_dot : Fn := mirror 4 fuel b_dot
noncomputable def ce_column_1 : ME := (.sub (.loc 2) (.loc 1))
noncomputable def c_column_1 : ME := .comp ce_column_1 2 .val [(.loc 0)]
noncomputable def b_column : List MS := [.ret c_column_1]
noncomputable def m_column : Fn := mirror 3 fuel b_column
noncomputable def ce_led_1 : ME := (.call "dot" m_dot [(.loc 0), (.call "column" m_column [(.loc 1), (.loc 2)])])
noncomputable def c_led_1 : ME := .comp ce_led_1 2 .range1 [(.blt .len [(.loc 0)])]
noncomputable def b_led : List MS := [.ret c_led_1]
noncomputable def m_led : Fn := mirror 3 fuel b_led
noncomputable def wb_row_behind_1 : List MS := [.ife (.or (.cmp .lt (.loc 2) (.int 0)) (.cmp .ge (.loc 2) (.blt .len [(.sub (.loc 0) (.int 1))]))) [.rais "NoSign"] []]
noncomputable def w_row_behind_1 : MS := .forI 2 .val [(.loc 1)] wb_row_behind_1
noncomputable def wb_row_behind_2 : List MS := [.own 3 (.call "led" m_led [(.loc 3), (.sub (.sub (.loc 0) (.int 1)) (.loc 2))])]
noncomputable def w_row_behind_2 : MS := .forI 2 .val [(.loc 1)] wb_row_behind_2
noncomputable def b_row_behind : List MS := [w_row_behind_1, .own 3 (.blt .list [(.sub (.loc 0) (.int 0))]), w_row_behind_2, .retL 3]
noncomputable def m_row_behind : Fn := mirror 4 fuel b_row_behind
noncomputable def b_weigh : List MS := [.ret (.call "dot" m_dot [(.call "row_behind" m_row_behind [(.loc 0), (.loc 1)]), (.sub (.loc 0) (.int 2))])]
noncomputable def m_weigh : Fn := mirror 2 fuel b_weigh
noncomputable def wb_law_dot_1 : List MS := [.set 2 (.call "_law_plus" m_law_plus [(.loc 2), (.call "_law_times" m_law_times [(.sub (.loc 0) (.loc 3)), (.sub (.loc 1) (.loc 3))])])]
noncomputable def w_law_dot_1 : MS := .forI 3 .range1 [(.blt .len [(.loc 0)])] wb_law_dot_1
noncomputable def b_law_dot : List MS := [.set 2 (.tup [(.int 0), (.int 1)]), w_law_dot_1, .ret (.loc 2)]
noncomputable def m_law_dot : Fn := mirror 4 fuel b_law_dot
noncomputable def b_law_fraction : List MS := [.ret (.call "_law_low" m_law_low [(.bin .sub (.bin .mod (.loc 0) (.int 9)) (.int 4)), (.sub (.lst [(.int 1), (.int 1), (.int 2), (.int 1), (.int 3)]) (.bin .mod (.bin .fdiv (.loc 0) (.int 9)) (.int 5)))])]
noncomputable def m_law_fraction : Fn := mirror 1 fuel b_law_fraction
noncomputable def wb_law_machine_1 : List MS := [.set 0 (.bin .mod (.bin .add (.bin .mul (.loc 0) (.int 48271)) (.int 29)) (.int 2147483647)), .app 3 (.ife (.cmp .eq (.bin .mod (.bin .fdiv (.loc 0) (.int 11)) (.int 3)) (.int 0)) (.tup [(.int 0), (.int 1)]) (.call "_law_fraction" m_law_fraction [(.bin .fdiv (.loc 0) (.int 33))]))]
noncomputable def w_law_machine_1 : MS := .forI 4 .range1 [(.bin .mul (.loc 1) (.bin .add (.int 2) (.bin .mul (.loc 1) (.loc 2))))] wb_law_machine_1
noncomputable def wb_law_machine_2 : List MS := [.set 9 (.bin .add (.bin .mul (.int 2) (.loc 1)) (.bin .mul (.bin .add (.bin .mul (.loc 6) (.loc 1)) (.loc 8)) (.loc 1))), .app 7 (.blt .tuple [(.sl (.loc 3) (.loc 9) (.bin .add (.loc 9) (.loc 1)))])]
noncomputable def w_law_machine_2 : MS := .forI 8 .range1 [(.loc 1)] wb_law_machine_2
noncomputable def wb_law_machine_3 : List MS := [.own 7 (.lst []), w_law_machine_2, .app 5 (.blt .tuple [(.loc 7)])]
noncomputable def w_law_machine_3 : MS := .forI 6 .range1 [(.loc 2)] wb_law_machine_3
noncomputable def b_law_machine : List MS := [.own 3 (.lst []), w_law_machine_1, .own 5 (.lst []), w_law_machine_3, .ret (.tup [(.blt .tuple [(.slHi (.loc 3) (.loc 1))]), (.blt .tuple [(.loc 5)]), (.blt .tuple [(.sl (.loc 3) (.loc 1) (.bin .mul (.int 2) (.loc 1)))])])]
noncomputable def m_law_machine : Fn := mirror 10 fuel b_law_machine
noncomputable def wb_law_word_1 : List MS := [.set 0 (.bin .mod (.bin .add (.bin .mul (.loc 0) (.int 48271)) (.int 17)) (.int 2147483647)), .app 3 (.bin .mod (.bin .fdiv (.loc 0) (.int 5)) (.loc 1))]
noncomputable def w_law_word_1 : MS := .forI 4 .range1 [(.bin .mod (.loc 0) (.bin .add (.loc 2) (.int 1)))] wb_law_word_1
noncomputable def b_law_word : List MS := [.own 3 (.lst []), w_law_word_1, .ret (.blt .tuple [(.loc 3)])]
noncomputable def m_law_word : Fn := mirror 5 fuel b_law_word
noncomputable def ce_law_led_1 : ME := (.sub (.sub (.loc 1) (.loc 4)) (.loc 3))
noncomputable def c_law_led_1 : ME := .comp ce_law_led_1 4 .range1 [(.blt .len [(.loc 0)])]
noncomputable def wb_law_led_1 : List MS := [.app 2 (.call "_law_dot" m_law_dot [(.loc 0), c_law_led_1])]
noncomputable def w_law_led_1 : MS := .forI 3 .range1 [(.blt .len [(.loc 0)])] wb_law_led_1
noncomputable def b_law_led : List MS := [.own 2 (.lst []), w_law_led_1, .retL 2]
noncomputable def m_law_led : Fn := mirror 5 fuel b_law_led
noncomputable def wb_law_row_1 : List MS := [.set 2 (.call "_law_led" m_law_led [(.loc 2), (.sub (.sub (.loc 0) (.int 1)) (.loc 3))])]
noncomputable def w_law_row_1 : MS := .forI 3 .val [(.loc 1)] wb_law_row_1
noncomputable def b_law_row : List MS := [.set 2 (.blt .list [(.sub (.loc 0) (.int 0))]), w_law_row_1, .ret (.loc 2)]
noncomputable def m_law_row : Fn := mirror 4 fuel b_law_row
noncomputable def b_law_weight : List MS := [.ret (.call "_law_dot" m_law_dot [(.call "_law_row" m_law_row [(.loc 0), (.loc 1)]), (.sub (.loc 0) (.int 2))])]
noncomputable def m_law_weight : Fn := mirror 2 fuel b_law_weight
noncomputable def b_law_is_fraction : List MS := [.ife (.or (.not (.isi (.loc 0) .tuple)) (.cmp .ne (.blt .len [(.loc 0)]) (.int 2))) [.ret (.bl false)] [], .ret (.and (.call "_law_whole" m_law_whole [(.sub (.loc 0) (.int 0))]) (.and (.call "_law_whole" m_law_whole [(.sub (.loc 0) (.int 1))]) (.cmp .eq (.loc 0) (.loc 1))))]
noncomputable def m_law_is_fraction : Fn := mirror 2 fuel b_law_is_fraction
noncomputable def wb_law_same_row_1 : List MS := [.ife (.not (.call "_law_is_fraction" m_law_is_fraction [(.sub (.loc 0) (.loc 2)), (.sub (.loc 1) (.loc 2))])) [.ret (.bl false)] []]
noncomputable def w_law_same_row_1 : MS := .forI 2 .range1 [(.blt .len [(.loc 1)])] wb_law_same_row_1
noncomputable def b_law_same_row : List MS := [.ife (.or (.not (.isi (.loc 0) .list)) (.cmp .ne (.blt .len [(.loc 0)]) (.blt .len [(.loc 1)]))) [.ret (.bl false)] [], w_law_same_row_1, .ret (.bl true)]
noncomputable def m_law_same_row : Fn := mirror 3 fuel b_law_same_row

/-- a row as a tuple, as a list -/
def tabs (n : Nat) (f : Nat → Rat) : List D := (List.range n).map fun i => fr (f i)
def rT (n : Nat) (f : Nat → Rat) : D := .tup (tabs n f)
def rL (n : Nat) (f : Nat → Rat) : D := .lst (tabs n f)
/-- a tuple or a list -/
def Sq (d : D) (xs : List D) : Prop := d = .tup xs ∨ d = .lst xs
theorem tabs_len (n : Nat) (f : Nat → Rat) : (tabs n f).length = n := by simp [tabs]
theorem tabs_get {n : Nat} {f : Nat → Rat} {i : Nat} (h : i < n) : (tabs n f)[i]? = some (fr (f i)) := by simp [tabs, h]
theorem tabs_congr {n : Nat} {f g : Nat → Rat} (h : ∀ i, i < n → f i = g i) : tabs n f = tabs n g := by
  unfold tabs
  refine List.map_congr_left fun i hi => ?_
  rw [h i (List.mem_range.mp hi)]
theorem Sq.len {d : D} {xs : List D} (h : Sq d xs) : evBlt .len [d] = .ok (.int xs.length, .sh) := by
  rcases h with rfl | rfl <;> rfl
theorem Sq.sub {d e : D} {xs : List D} {i : Nat} (h : Sq d xs) (hi : xs[i]? = some e) : evSub d (.int i) = .ok (e, .sh) := by
  rcases h with rfl | rfl <;> simp only [evSub, atI_nat, hi]
theorem rT_sq (n : Nat) (f : Nat → Rat) : Sq (rT n f) (tabs n f) := .inl rfl
theorem rL_sq (n : Nat) (f : Nat → Rat) : Sq (rL n f) (tabs n f) := .inr rfl
theorem fr_zero : fr 0 = .tup [.int 0, .int 1] := rfl
theorem fr_one : fr 1 = .tup [.int 1, .int 1] := rfl
theorem Sz.fit {D N : Nat} {q : Rat} (h : Fit D N q) (hD : D < 2 ^ 9000) (hN : N < 2 ^ 390000) : Sz q := by
  have l : ∀ n a : Nat, n < 2 ^ a → a ≤ 390000 → n.log2 < 400000 := fun n a hn ha => by
    by_cases e : n = 0
    · subst e; simp
    · exact Nat.lt_of_lt_of_le ((Nat.log2_lt e).mpr hn) (by omega)
  exact ⟨l _ 390000 (Nat.lt_of_le_of_lt h.num_le hN) (by decide), l _ 9000 (Nat.lt_of_le_of_lt h.den_le hD) (by decide)⟩
theorem le_sq {a : Nat} : a ≤ a * a := by
  rcases Nat.eq_zero_or_pos a with h | h
  · subst h; exact Nat.le_refl _
  · exact Nat.le_mul_of_pos_left _ h
/-- sizes at which a sum of products is worked out -/
structure Cap (n D1 N1 D2 N2 : Nat) : Prop where
  d : (D1 * D2) * (D1 * D2) < 2 ^ 9000
  n1 : N1 < 2 ^ 180000
  n2 : N2 < 2 ^ 180000
  n : n < 2 ^ 1000
theorem Cap.one {n D1 N1 D2 N2 : Nat} (c : Cap n D1 N1 D2 N2) : D1 * D2 < 2 ^ 9000 := Nat.lt_of_le_of_lt le_sq c.d
theorem Cap.nn {n D1 N1 D2 N2 : Nat} (c : Cap n D1 N1 D2 N2) {i : Nat} (h : i ≤ n) : i * (N1 * N2) < 2 ^ 390000 := by
  have h1 : N1 * N2 ≤ 2 ^ 180000 * 2 ^ 180000 := Nat.mul_le_mul (Nat.le_of_lt c.n1) (Nat.le_of_lt c.n2)
  have h2 : i * (N1 * N2) ≤ 2 ^ 1000 * (2 ^ 180000 * 2 ^ 180000) := Nat.mul_le_mul (Nat.le_trans h (Nat.le_of_lt c.n)) h1
  rw [← Nat.pow_add, ← Nat.pow_add] at h2
  exact Nat.lt_of_le_of_lt h2 (Nat.pow_lt_pow_right (by decide) (by decide))
theorem Cap.len {n D1 N1 D2 N2 : Nat} (c : Cap n D1 N1 D2 N2) (hn : n < 2 ^ 40) : n < 4611686018427387904 := Nat.lt_of_lt_of_le hn (by decide)
section
variable {n D1 N1 D2 N2 : Nat} {f g : Nat → Rat}
theorem Cap.szf (c : Cap n D1 N1 D2 N2) (hf : ∀ i, i < n → Fit D1 N1 (f i)) (hg : ∀ i, i < n → Fit D2 N2 (g i)) {i : Nat} (h : i < n) :
    Sz (f i) ∧ Sz (g i) ∧ (f i).den * (g i).den < 2 ^ 9000 ∧ Sz (f i * g i) ∧ Sz (sm i fun i => f i * g i) ∧ (sm i fun i => f i * g i).den * (f i * g i).den < 2 ^ 9000 := by
  have f1 := hf i h
  have g1 := hg i h
  have p1 := f1.mul g1
  have s1 : Fit (D1 * D2) (i * (N1 * N2)) (sm i fun i => f i * g i) := sm_fit (Nat.mul_pos f1.1 g1.1) fun j hj => (hf j (by omega)).mul (hg j (by omega))
  have hd1 : D1 < 2 ^ 9000 := Nat.lt_of_le_of_lt (Nat.le_mul_of_pos_right _ g1.1) c.one
  have hd2 : D2 < 2 ^ 9000 := Nat.lt_of_le_of_lt (Nat.le_mul_of_pos_left _ f1.1) c.one
  exact ⟨Sz.fit f1 hd1 (pow_up c.n1 (by decide)), Sz.fit g1 hd2 (pow_up c.n2 (by decide)), Nat.lt_of_le_of_lt (Nat.mul_le_mul f1.den_le g1.den_le) c.one,
    Sz.fit p1 c.one (by have := c.nn (i := 1) (by omega); omega), Sz.fit s1 c.one (c.nn (by omega)), Nat.lt_of_le_of_lt (Nat.mul_le_mul s1.den_le p1.den_le) c.d⟩
/-- the loop of dot, _law_dot -/
theorem dot_loop {P T : Fn} {x y : Str} {a b : D} (s3 : SV) (fa : ∀ i, i < n → evSub a (.int i) = .ok (fr (f i), .sh)) (fb : ∀ i, i < n → evSub b (.int i) = .ok (fr (g i), .sh))
    (pt : ∀ i, i < n → T [fr (f i), fr (g i)] = .ok (fr (f i * g i), false)) (pp : ∀ i, i < n → P [fr (sm i fun i => f i * g i), fr (f i * g i)] = .ok (fr (sm (i + 1) fun i => f i * g i), false)) :
    ∃ s, forL (exSs fuel [.set 2 (.call x P [(.loc 2), (.call y T [(.sub (.loc 0) (.loc 3)), (.sub (.loc 1) (.loc 3))])])]) (fun S d => some (S.set 3 (.sh d))) ((List.range n).map fun i : Nat => D.int i) [.sh a, .sh b, .sh (fr 0), s3] = .nx [.sh a, .sh b, .sh (fr (sm n fun i => f i * g i)), s] := by
  obtain ⟨S', h1, s, h2⟩ := for_rng (f := exSs fuel [.set 2 (.call x P [(.loc 2), (.call y T [(.sub (.loc 0) (.loc 3)), (.sub (.loc 1) (.loc 3))])])]) (tg := fun S d => some (S.set 3 (.sh d)))
    (fun j S => ∃ s, S = [.sh a, .sh b, .sh (fr (sm j fun i => f i * g i)), s]) (n := n) (S := [.sh a, .sh b, .sh (fr 0), s3]) ⟨s3, rfl⟩ (by
      rintro j S hj ⟨s, rfl⟩
      exact ⟨_, _, rfl, by simp [exSs, exS, evE, evEs, args1, hasBo, fa j hj, fb j hj, pt j hj, pp j hj]; rfl, _, rfl⟩)
  exact ⟨s, by rw [h1, h2]⟩
theorem dot_ok {a b : D} {xs ys : List D} (ha : Sq a (tabs n f)) (hb : Sq b ys) (hy : ∀ i, i < n → ys[i]? = some (fr (g i))) (c : Cap n D1 N1 D2 N2) (hn : n < 2 ^ 40) (hf : ∀ i, i < n → Fit D1 N1 (f i)) (hg : ∀ i, i < n → Fit D2 N2 (g i)) :
    m_dot [a, b] = .ok (fr (sm n fun i => f i * g i), false) := by
  obtain ⟨s, h⟩ := dot_loop (P := m_plus) (T := m_times) (x := "plus") (y := "times") (a := a) (b := b) (n := n) (f := f) (g := g) .no (fun i hi => ha.sub (tabs_get hi)) (fun i hi => hb.sub (hy i hi))
    (fun i hi => by obtain ⟨z1, z2, z3, z4, z5, z6⟩ := c.szf hf hg hi; exact times_ok _ _ z1 z2 z3) (fun i hi => by obtain ⟨z1, z2, z3, z4, z5, z6⟩ := c.szf hf hg hi; exact plus_ok _ _ z5 z4 z6)
  have hl := ha.len
  rw [tabs_len] at hl
  refine mir_ret ?_
  unfold b_dot
  rw [ss_go (S1 := [.sh a, .sh b, .sh (fr 0), .no]) (by simp [exS, evE, fr_zero]), ss_go (S1 := [.sh a, .sh b, .sh (fr (sm n fun i => f i * g i)), s]) (by
    rw [w_dot_1, exS]
    simp only [evI, evEs, evE, List.getElem?_cons_zero, Res.bind, args1, List.map, hl, hasBo, List.any, Bool.or_false, decide_false, Bool.false_eq_true, if_false, items_rng n (c.len hn), bindS_ok]
    exact h)]
  simp [exSs, exS, evE]
theorem law_dot_ok {a b : D} {xs ys : List D} (ha : Sq a (tabs n f)) (hb : Sq b ys) (hy : ∀ i, i < n → ys[i]? = some (fr (g i))) (c : Cap n D1 N1 D2 N2) (hn : n < 2 ^ 40) (hf : ∀ i, i < n → Fit D1 N1 (f i)) (hg : ∀ i, i < n → Fit D2 N2 (g i)) :
    m_law_dot [a, b] = .ok (fr (sm n fun i => f i * g i), false) := by
  obtain ⟨s, h⟩ := dot_loop (P := m_law_plus) (T := m_law_times) (x := "_law_plus") (y := "_law_times") (a := a) (b := b) (n := n) (f := f) (g := g) .no (fun i hi => ha.sub (tabs_get hi)) (fun i hi => hb.sub (hy i hi))
    (fun i hi => by obtain ⟨z1, z2, z3, z4, z5, z6⟩ := c.szf hf hg hi; exact law_times_ok _ _ z1 z2 z3) (fun i hi => by obtain ⟨z1, z2, z3, z4, z5, z6⟩ := c.szf hf hg hi; exact law_plus_ok _ _ z5 z4 z6)
  have hl := ha.len
  rw [tabs_len] at hl
  refine mir_ret ?_
  unfold b_law_dot
  rw [ss_go (S1 := [.sh a, .sh b, .sh (fr 0), .no]) (by simp [exS, evE, evEs, fr_zero, hasBo, args1]), ss_go (S1 := [.sh a, .sh b, .sh (fr (sm n fun i => f i * g i)), s]) (by
    rw [w_law_dot_1, exS]
    simp only [evI, evEs, evE, List.getElem?_cons_zero, Res.bind, args1, List.map, hl, hasBo, List.any, Bool.or_false, decide_false, Bool.false_eq_true, if_false, items_rng n (c.len hn), bindS_ok]
    exact h)]
  simp [exSs, exS, evE]
end
/-- a step: n rows of n numbers -/
def sT (n m : Nat) (T : Nat → Nat → Rat) : D := .tup ((List.range n).map fun a => rT m (T a))
theorem column_ok {n m b : Nat} {T : Nat → Nat → Rat} (hb : b < m) (hn : n ≤ 16777216) : m_column [sT n m T, .int b] = .ok (rL n fun a => T a b, true) := by
  refine mir_ret ?_
  have e : evE c_column_1 [.sh (sT n m T), .sh (.int b), .no] = .ok (rL n fun a => T a b, .fr) := by
    rw [c_column_1, ev_comp (rs := [(sT n m T, .sh)]) (fun a => rT m (T a)) (fun a => fr (T a b)) (by simp [evEs, evE]) (by simp [hasBo]) (by simp [args1, sT, items]) hn (fun j hj => ⟨.sh, by decide, by
      simp [ce_column_1, evE, (rT_sq m (T j)).sub (tabs_get hb)]⟩)]
    rfl
  unfold b_column
  rw [ss_ret (d := rL n fun a => T a b) (fr := true) (by simp [exS, List.replicate, e])]
theorem led_ok {n : Nat} {a : D} {f : Nat → Rat} {T : Nat → Nat → Rat} {D1 N1 D2 N2 : Nat} (ha : Sq a (tabs n f)) (c : Cap n D1 N1 D2 N2) (hn : n ≤ 16777216) (hf : ∀ i, i < n → Fit D1 N1 (f i)) (hT : ∀ i j, i < n → j < n → Fit D2 N2 (T i j)) :
    m_led [a, sT n n T] = .ok (rL n fun b => sm n fun i => f i * T i b, true) := by
  refine mir_ret ?_
  have hl := ha.len
  rw [tabs_len] at hl
  have e : evE c_led_1 [.sh a, .sh (sT n n T), .no] = .ok (rL n fun b => sm n fun i => f i * T i b, .fr) := by
    rw [c_led_1, ev_comp (n := n) (rs := [(.int n, .sh)]) (fun j : Nat => D.int j) (fun b => fr (sm n fun i => f i * T i b)) (by simp [evEs, evE, args1, hl]) (by simp [hasBo]) (by simp only [args1, List.map]; exact items_rng n (by omega)) hn (fun j hj => ⟨.sh, by decide, by
      have h2 := dot_ok (xs := []) ha (rL_sq n fun a => T a j) (fun i hi => tabs_get hi) c (by omega) hf (fun i hi => hT i j hi hj)
      simp [ce_led_1, evE, evEs, args1, hasBo, column_ok (T := T) hj hn, h2]⟩)]
    rfl
  unfold b_led
  rw [ss_ret (d := rL n fun b => sm n fun i => f i * T i b) (fr := true) (by simp [exS, List.replicate, e])]
theorem law_led_ok {n : Nat} {a : D} {f : Nat → Rat} {T : Nat → Nat → Rat} {D1 N1 D2 N2 : Nat} (ha : Sq a (tabs n f)) (c : Cap n D1 N1 D2 N2) (hn : n ≤ 16777215) (hf : ∀ i, i < n → Fit D1 N1 (f i)) (hT : ∀ i j, i < n → j < n → Fit D2 N2 (T i j)) :
    m_law_led [a, sT n n T] = .ok (rL n fun b => sm n fun i => f i * T i b, true) := by
  have hl := ha.len
  rw [tabs_len] at hl
  refine mir_ret ?_
  unfold b_law_led
  obtain ⟨S', h1, s3, h2⟩ := for_rng (f := exSs fuel wb_law_led_1) (tg := fun S d => some (S.set 3 (.sh d))) (fun j S => ∃ s3, S = [.sh a, .sh (sT n n T), .ow (tabs j fun b => sm n fun i => f i * T i b), s3, .no]) (n := n) (S := [.sh a, .sh (sT n n T), .ow [], .no, .no]) ⟨.no, rfl⟩ (by
    rintro j S hj ⟨s3, rfl⟩
    have h3 := law_dot_ok (xs := []) ha (rL_sq n fun a => T a j) (fun i hi => tabs_get hi) c (by omega) hf (fun i hi => hT i j hi hj)
    have e : evE c_law_led_1 [.sh a, .sh (sT n n T), .ow (tabs j fun b => sm n fun i => f i * T i b), .sh (.int j), .no] = .ok (rL n fun a => T a j, .fr) := by
      rw [c_law_led_1, ev_comp (n := n) (rs := [(.int n, .sh)]) (fun j : Nat => D.int j) (fun a => fr (T a j)) (by simp [evEs, evE, args1, hl]) (by simp [hasBo]) (by simp only [args1, List.map]; exact items_rng n (by omega)) (by omega) (fun i hi => ⟨.sh, by decide, by
        have e1 : evSub (sT n n T) (.int i) = .ok (rT n (T i), .sh) := Sq.sub (xs := (List.range n).map fun a => rT n (T a)) (.inl rfl) (by simp [hi])
        simp [ce_law_led_1, evE, e1, (rT_sq n (T i)).sub (tabs_get hj)]⟩)]
      rfl
    refine ⟨_, [.sh a, .sh (sT n n T), .ow (tabs (j + 1) fun b => sm n fun i => f i * T i b), .sh (.int j), .no], rfl, ?_, _, rfl⟩
    have hlt : j < 16777216 := by omega
    simp [wb_law_led_1, exSs, exS, evE, evEs, args1, hasBo, e, h3, tabs_len, hlt]
    simp [tabs, List.range_succ])
  rw [ss_go (S1 := [.sh a, .sh (sT n n T), .ow [], .no, .no]) (by simp [exS, evE, evEs, hasBo, args1]), ss_go (S1 := S') (by
    rw [w_law_led_1, exS]
    simp only [evI, evEs, evE, List.getElem?_cons_zero, Res.bind, args1, List.map, hl, hasBo, List.any, Bool.or_false, decide_false, Bool.false_eq_true, if_false, items_rng n (show n < 4611686018427387904 by omega), bindS_ok]
    exact h1)]
  subst h2
  simp [exSs, exS, rL]
/-- a machine, a word -/
def macD (m : Mac) : D := .tup [rT m.n m.F, .tup ((List.range m.k).map fun s => sT m.n m.n (m.T s)), rT m.n m.L]
def wD (w : List Nat) : D := .tup (w.map fun s : Nat => D.int s)
theorem mac_0 (m : Mac) : evSub (macD m) (.int 0) = .ok (rT m.n m.F, .sh) := by simp [macD, evSub]
theorem mac_1 (m : Mac) : evSub (macD m) (.int 1) = .ok (.tup ((List.range m.k).map fun s => sT m.n m.n (m.T s)), .sh) := by simp [macD, evSub]
theorem mac_2 (m : Mac) : evSub (macD m) (.int 2) = .ok (rT m.n m.L, .sh) := by simp [macD, evSub]
theorem mac_s {m : Mac} {s : Nat} (h : s < m.k) : evSub (.tup ((List.range m.k).map fun s => sT m.n m.n (m.T s))) (.int s) = .ok (sT m.n m.n (m.T s), .sh) := Sq.sub (xs := (List.range m.k).map fun s => sT m.n m.n (m.T s)) (.inl rfl) (by simp [h])
theorem take_snoc {w : List Nat} {j : Nat} {s : Nat} (h : w[j]? = some s) : w.take (j + 1) = w.take j ++ [s] := by
  rw [List.take_add_one, h]; rfl
theorem wD_get {w : List Nat} {j : Nat} {x : D} (h : (w.map fun s : Nat => D.int s)[j]? = some x) : ∃ s, w[j]? = some s ∧ x = .int s := by
  rw [List.getElem?_map] at h
  cases e : w[j]? with
  | none => rw [e] at h; cases h
  | some s => rw [e] at h; cases h; exact ⟨s, rfl, rfl⟩
/-- what a walk through a word needs of the sizes -/
structure Walk (m : Mac) (w : List Nat) (D N E M : Nat) : Prop where
  sg : ∀ s ∈ w, s < m.k
  rows : ∀ u v, u ++ v = w → ∀ i, i < m.n → Fit D N (m.row u i)
  steps : ∀ s a b, s < m.k → a < m.n → b < m.n → Fit E M (m.T s a b)
  cap : Cap m.n D N E M
  n : m.n ≤ 16777215
theorem row_behind_ok {m : Mac} {w : List Nat} {D N E M : Nat} (h : Walk m w D N E M) : m_row_behind [macD m, wD w] = .ok (rL m.n (m.row w), true) := by
  refine mir_ret ?_
  unfold b_row_behind
  obtain ⟨S1, h1, s2, h2⟩ := for_inv0 (f := exSs fuel wb_row_behind_1) (tg := fun S d => some (S.set 2 (.sh d))) (fun j S => ∃ s, S = [.sh (macD m), .sh (wD w), s, .no]) (xs := w.map fun s : Nat => MP.D.int s) (S := [.sh (macD m), .sh (wD w), .no, .no]) ⟨.no, rfl⟩ (by
    rintro j x S hx ⟨s, rfl⟩
    obtain ⟨s, hs, rfl⟩ := wD_get hx
    have hk := h.sg s (List.mem_of_getElem? hs)
    have e1 : ¬ ((s : Int) < 0) := by omega
    have e2 : ¬ ((m.k : Int) ≤ (s : Int)) := by omega
    refine ⟨_, _, rfl, ?_, .sh (.int s), rfl⟩
    simp [wb_row_behind_1, exSs, exS, evE, evEs, evCmp, e1, mac_1, evBlt, args1]
    simp [Nat.not_le.mpr hk])
  subst h2
  obtain ⟨S3, h3, s3, h4⟩ := for_inv0 (f := exSs fuel wb_row_behind_2) (tg := fun S d => some (S.set 2 (.sh d))) (fun j S => ∃ s, S = [.sh (macD m), .sh (wD w), s, .ow (tabs m.n (m.row (w.take j)))]) (xs := w.map fun s : Nat => MP.D.int s) (S := [.sh (macD m), .sh (wD w), s2, .ow (tabs m.n m.F)]) ⟨s2, rfl⟩ (by
    rintro j x S hx ⟨s', rfl⟩
    obtain ⟨s, hs, rfl⟩ := wD_get hx
    have hk := h.sg s (List.mem_of_getElem? hs)
    have hl := led_ok (T := m.T s) (rL_sq m.n (m.row (w.take j))) h.cap (by have := h.n; omega) (h.rows (w.take j) (w.drop j) (List.take_append_drop j w)) (fun a b => h.steps s a b hk)
    have e : (fun b => sm m.n fun i => m.row (w.take j) i * m.T s i b) = m.row (w.take (j + 1)) := by
      rw [take_snoc hs, Mac.row_snoc]; rfl
    rw [e] at hl
    refine ⟨_, _, rfl, ?_, .sh (.int s), rfl⟩
    have hno : noR (rL m.n (m.row (w.take (j + 1))), true) = true := by
      have key : ∀ l : List Nat, noLs (l.map fun i => fr (m.row (w.take (j + 1)) i)) = true := by
        intro l
        induction l with
        | nil => rfl
        | cons a l ih =>
          have hf : noL (fr (m.row (w.take (j + 1)) a)) = true := by simp [fr, noL, noLs]
          simp [noLs, ih, hf]
      exact key _
    have hl' : m_led [.lst (tabs m.n (m.row (w.take j))), sT m.n m.n (m.T s)] = .ok (.lst (tabs m.n (m.row (w.take (j + 1)))), true) := hl
    have hno' : noR (.lst (tabs m.n (m.row (w.take (j + 1)))), true) = true := hno
    have e2 : evE (.call "led" m_led [(.loc 3), (.sub (.sub (.loc 0) (.int 1)) (.loc 2))]) [.sh (macD m), .sh (wD w), .sh (.int s), .ow (tabs m.n (m.row (w.take j)))] = .ok (.lst (tabs m.n (m.row (w.take (j + 1)))), .fr) := by
      simp [evE, evEs, mac_1, mac_s hk, args1, hl', hasBo, hno']
    rw [wb_row_behind_2, ss_go (S1 := [.sh (macD m), .sh (wD w), .sh (.int s), .ow (tabs m.n (m.row (w.take (j + 1))))]) (by
      rw [exS]
      show bindS _ (evE _ [.sh (macD m), .sh (wD w), .sh (.int s), .ow (tabs m.n (m.row (w.take j)))]) _ = _
      rw [e2]
      rfl)]
    rfl)
  rw [List.length_map, List.take_length] at h4
  subst h4
  rw [ss_go (S1 := [.sh (macD m), .sh (wD w), s2, .no]) (by
    rw [w_row_behind_1, exS]
    simp only [evI, evEs, evE, List.getElem?_cons_zero, List.getElem?_cons_succ, Res.bind, args1, List.map, hasBo, List.any, Bool.or_false, decide_false, Bool.false_eq_true, if_false, items, wD, bindS_ok]
    exact h1), ss_go (S1 := [.sh (macD m), .sh (wD w), s2, .ow (tabs m.n m.F)]) (by simp [exS, evE, evEs, mac_0, args1, evBlt, rT]), ss_go (S1 := [.sh (macD m), .sh (wD w), s3, .ow (tabs m.n (m.row w))]) (by
    rw [w_row_behind_2, exS]
    simp only [evI, evEs, evE, List.getElem?_cons_zero, List.getElem?_cons_succ, Res.bind, args1, List.map, hasBo, List.any, Bool.or_false, decide_false, Bool.false_eq_true, if_false, items, wD, bindS_ok]
    exact h3)]
  simp [exSs, exS, rL]
/-- the last numbers too -/
structure Weigh (m : Mac) (w : List Nat) (D N E M Dl Nl : Nat) : Prop extends Walk m w D N E M where
  last : ∀ i, i < m.n → Fit Dl Nl (m.L i)
  capl : Cap m.n D N Dl Nl
theorem Walk.here {m : Mac} {w : List Nat} {D N E M : Nat} (h : Walk m w D N E M) : ∀ i, i < m.n → Fit D N (m.row w i) := h.rows w [] (List.append_nil w)
theorem weigh_ok {m : Mac} {w : List Nat} {D N E M Dl Nl : Nat} (h : Weigh m w D N E M Dl Nl) : m_weigh [macD m, wD w] = .ok (fr (m.wt w), false) := by
  have h1 := row_behind_ok h.toWalk
  have h2 := dot_ok (xs := []) (rL_sq m.n (m.row w)) (rT_sq m.n m.L) (fun i hi => tabs_get hi) h.capl (by have := h.n; omega) h.here h.last
  refine mir_ret ?_
  unfold b_weigh
  simp [exSs, exS, evE, evEs, args1, h1, mac_2, h2, hasBo]
  rfl
theorem law_row_ok {m : Mac} {w : List Nat} {D N E M : Nat} (h : Walk m w D N E M) : m_law_row [macD m, wD w] = .ok (rL m.n (m.row w), false) := by
  refine mir_ret ?_
  unfold b_law_row
  obtain ⟨S3, h3, s3, h4⟩ := for_inv0 (f := exSs fuel wb_law_row_1) (tg := fun S d => some (S.set 3 (.sh d))) (fun j S => ∃ s, S = [.sh (macD m), .sh (wD w), .sh (rL m.n (m.row (w.take j))), s]) (xs := w.map fun s : Nat => MP.D.int s) (S := [.sh (macD m), .sh (wD w), .sh (rL m.n m.F), .no]) ⟨.no, rfl⟩ (by
    rintro j x S hx ⟨s', rfl⟩
    obtain ⟨s, hs, rfl⟩ := wD_get hx
    have hk := h.sg s (List.mem_of_getElem? hs)
    have hl := law_led_ok (T := m.T s) (rL_sq m.n (m.row (w.take j))) h.cap h.n (h.rows (w.take j) (w.drop j) (List.take_append_drop j w)) (fun a b => h.steps s a b hk)
    have e : (fun b => sm m.n fun i => m.row (w.take j) i * m.T s i b) = m.row (w.take (j + 1)) := by
      rw [take_snoc hs, Mac.row_snoc]; rfl
    rw [e] at hl
    refine ⟨_, [.sh (macD m), .sh (wD w), .sh (rL m.n (m.row (w.take (j + 1)))), .sh (.int s)], rfl, ?_, .sh (.int s), rfl⟩
    simp [wb_law_row_1, exSs, exS, evE, evEs, mac_1, mac_s hk, args1, hl, hasBo])
  rw [List.length_map, List.take_length] at h4
  subst h4
  rw [ss_go (S1 := [.sh (macD m), .sh (wD w), .sh (rL m.n m.F), .no]) (by simp [exS, evE, evEs, mac_0, args1, evBlt, rT, rL]), ss_go (S1 := [.sh (macD m), .sh (wD w), .sh (rL m.n (m.row w)), s3]) (by
    rw [w_law_row_1, exS]
    simp only [evI, evEs, evE, List.getElem?_cons_zero, List.getElem?_cons_succ, Res.bind, args1, List.map, hasBo, List.any, Bool.or_false, decide_false, Bool.false_eq_true, if_false, items, wD, bindS_ok]
    exact h3)]
  simp [exSs, exS, evE]
theorem law_weight_ok {m : Mac} {w : List Nat} {D N E M Dl Nl : Nat} (h : Weigh m w D N E M Dl Nl) : m_law_weight [macD m, wD w] = .ok (fr (m.wt w), false) := by
  have h1 := law_row_ok h.toWalk
  have h2 := law_dot_ok (xs := []) (rL_sq m.n (m.row w)) (rT_sq m.n m.L) (fun i hi => tabs_get hi) h.capl (by have := h.n; omega) h.here h.last
  refine mir_ret ?_
  unfold b_law_weight
  simp [exSs, exS, evE, evEs, args1, h1, mac_2, h2, hasBo]
  rfl
/-! what the laws look at -/
theorem is_fraction_ok (p q : Rat) : m_law_is_fraction [fr p, fr q] = .ok (.bl (decide (p = q)), false) := by
  refine mir_ret ?_
  unfold b_law_is_fraction
  have e0 : evSub (fr p) (.int 0) = .ok (.int p.num, .sh) := by simp [fr, evSub]
  have e1 : evSub (fr p) (.int 1) = .ok (.int p.den, .sh) := by simp [fr, evSub]
  have e2 : evBlt .len [fr p] = .ok (.int 2, .sh) := rfl
  simp [exSs, exS, evE, evEs, args1, e0, e1, e2, whole_ok, hasBo]
theorem same_row_ok {n : Nat} {f g : Nat → Rat} (hn : n < 2 ^ 40) (h : ∀ i, i < n → f i = g i) : m_law_same_row [rL n f, rL n g] = .ok (.bl true, false) := by
  rw [show rL n f = rL n g from by unfold rL; rw [tabs_congr h]]
  refine mir_ret ?_
  unfold b_law_same_row
  have hl : evBlt .len [rL n g] = .ok (.int n, .sh) := by have := (rL_sq n g).len; rw [tabs_len] at this; exact this
  obtain ⟨S', h1, s3, h2⟩ := for_rng (f := exSs fuel wb_law_same_row_1) (tg := fun S d => some (S.set 2 (.sh d))) (fun j S => ∃ s3, S = [.sh (rL n g), .sh (rL n g), s3]) (n := n) (S := [.sh (rL n g), .sh (rL n g), .no]) ⟨.no, rfl⟩ (by
    rintro j S hj ⟨s3, rfl⟩
    refine ⟨_, [.sh (rL n g), .sh (rL n g), .sh (.int j)], rfl, ?_, _, rfl⟩
    have e := (rL_sq n g).sub (tabs_get hj)
    simp [wb_law_same_row_1, exSs, exS, evE, evEs, args1, hasBo, e, is_fraction_ok])
  subst h2
  have e4 : ∀ t, evIs (rL n g) t = .ok (.bl (evIsi (rL n g) t), .sh) := fun t => rfl
  have e5 : evIsi (rL n g) .list = true := rfl
  rw [ss_go (S1 := [.sh (rL n g), .sh (rL n g), .no]) (by simp [exSs, exS, evE, evEs, args1, hl, e4, e5, hasBo]), ss_go (S1 := [.sh (rL n g), .sh (rL n g), s3]) (by
    rw [w_law_same_row_1, exS]
    simp only [evI, evEs, evE, List.getElem?_cons_zero, List.getElem?_cons_succ, Res.bind, args1, List.map, hl, hasBo, List.any, Bool.or_false, decide_false, Bool.false_eq_true, if_false, items_rng n (show n < 4611686018427387904 by omega), bindS_ok]
    exact h1)]
  simp [exSs, exS, evE]
end MP
set_option Elab.async false
set_option linter.all false
set_option maxRecDepth 100000
set_option maxHeartbeats 4000000
namespace MP
open PySem PySem.Spec PyProof.Rows L2 WM
/-! drawn fractions, machines, words -/
def botOf (c : Int) : Int := if (c.fdiv 9).fmod 5 = 2 then 2 else if (c.fdiv 9).fmod 5 = 4 then 3 else 1
def fracQ (c : Int) : Rat := ((c.fmod 9 - 4 : Int) : Rat) / ((botOf c : Int) : Rat)
theorem fmod_lt' {w m : Int} (h : 0 < m) : 0 ≤ w.fmod m ∧ w.fmod m < m := ⟨Int.fmod_nonneg_of_pos _ h, Int.fmod_lt_of_pos _ h⟩
theorem Fit.quot' (t b : Int) (hb : 0 < b) : Fit b.toNat t.natAbs ((t : Rat) / (b : Rat)) := by
  have hb' : (b : Rat) ≠ 0 := fun e => by have := cast_inj' (show ((b : Int) : Rat) = ((0 : Int) : Rat) by rw [e]; rfl); omega
  refine ⟨by omega, t, ?_, by omega⟩
  rw [← Rat.intCast_natCast, show ((b.toNat : Nat) : Int) = b by omega]
  grind
theorem frac_fit (c : Int) : Fit 6 24 (fracQ c) := by
  have h9 := fmod_lt' (w := c) (m := 9) (by decide)
  unfold fracQ botOf
  split
  · exact ((Fit.quot' (c.fmod 9 - 4) 2 (by decide)).scale 3 (by decide)).mono (by omega)
  · split
    · exact ((Fit.quot' (c.fmod 9 - 4) 3 (by decide)).scale 2 (by decide)).mono (by omega)
    · exact ((Fit.quot' (c.fmod 9 - 4) 1 (by decide)).scale 6 (by decide)).mono (by omega)
theorem law_fraction_ok (c : Int) : m_law_fraction [.int c] = .ok (fr (fracQ c), false) := by
  have h5 := fmod_lt' (w := c.fdiv 9) (m := 5) (by decide)
  have m1 : evBin .mod (.int c) (.int 9) = .ok (.int (c.fmod 9), .sh) := ev_mod (by decide)
  have m2 : evBin .fdiv (.int c) (.int 9) = .ok (.int (c.fdiv 9), .sh) := ev_fdiv (by decide) (by decide +kernel)
  have m3 : evBin .mod (.int (c.fdiv 9)) (.int 5) = .ok (.int ((c.fdiv 9).fmod 5), .sh) := ev_mod (by decide)
  have m4 : evSub (.lst [.int 1, .int 1, .int 2, .int 1, .int 3]) (.int ((c.fdiv 9).fmod 5)) = .ok (.int (botOf c), .sh) := by
    have h : (c.fdiv 9).fmod 5 = 0 ∨ (c.fdiv 9).fmod 5 = 1 ∨ (c.fdiv 9).fmod 5 = 2 ∨ (c.fdiv 9).fmod 5 = 3 ∨ (c.fdiv 9).fmod 5 = 4 := by omega
    have e3 : atI [D.int 1, .int 1, .int 2, .int 1, .int 3] 3 = some (.int 1) := atI_nat _ 3
    have e4 : atI [D.int 1, .int 1, .int 2, .int 1, .int 3] 4 = some (.int 3) := atI_nat _ 4
    unfold botOf
    rcases h with h | h | h | h | h <;> rw [h] <;> simp [evSub, e3, e4]
  have hb : 0 < botOf c ∧ botOf c ≤ 3 := by unfold botOf; split <;> (try split) <;> omega
  have hl := law_low_ok (c.fmod 9 - 4) (botOf c) hb.1 (lt9 (by omega))
  rw [show ((c.fmod 9 - 4 : Int) : Rat) / ((botOf c : Int) : Rat) = fracQ c from rfl] at hl
  refine mir_ret ?_
  unfold b_law_fraction
  simp [exSs, exS, evE, evEs, args1, m1, m2, m3, m4, hl, hasBo]
/-- the generator of drawn cells -/
def nxt (a c : Int) : Int := (c * 48271 + a).fmod 2147483647
def cells (a c : Int) : Nat → Int
  | 0 => c
  | i + 1 => nxt a (cells a c i)
def drawQ (c : Int) : Rat := if (c.fdiv 11).fmod 3 = 0 then 0 else fracQ (c.fdiv 33)
theorem draw_fit (c : Int) : Fit 6 24 (drawQ c) := by
  unfold drawQ
  split
  · exact Fit.zero (by decide)
  · exact frac_fit _
/-- the i-th number that is drawn -/
def outQ (c : Int) (i : Nat) : Rat := drawQ (cells 29 c (i + 1))
theorem nxt_ok (a c : Int) : evBin .mul (.int c) (.int 48271) = .ok (.int (c * 48271), .sh) ∧ evBin .mod (.int (c * 48271 + a)) (.int 2147483647) = .ok (.int (nxt a c), .sh) := ⟨ev_mul64 (by decide), ev_mod (by decide)⟩
theorem tabs_snoc (n : Nat) (f : Nat → Rat) : tabs (n + 1) f = tabs n f ++ [fr (f n)] := by simp [tabs, List.range_succ]
theorem tabs_cut (f : Nat → Rat) (a n m : Nat) (h : a + n ≤ m) : ((tabs m f).drop a).take n = tabs n fun i => f (a + i) := by
  apply List.ext_getElem?
  intro i
  rw [List.getElem?_take, List.getElem?_drop]
  by_cases hi : i < n
  · rw [if_pos hi, tabs_get (by omega), tabs_get hi]
  · rw [if_neg hi]
    simp [tabs, hi]
theorem sl_tabs (f : Nat → Rat) (a n m : Nat) (h : a + n ≤ m) : evSl (.lst (tabs m f)) (some (a : Int)) (some ((a + n : Nat) : Int)) = .ok (rL n fun i => f (a + i), .fr) := by
  have e : cutD (tabs m f) (some (a : Int)) (some ((a + n : Nat) : Int)) = tabs n fun i => f (a + i) := by
    unfold cutD
    rw [HT.sIx_nat, HT.sIx_nat, tabs_len, Nat.min_eq_left h, Nat.min_eq_left (show a ≤ m by omega), show a + n - a = n by omega]
    exact tabs_cut f a n m h
  show Res.ok (D.lst (cutD _ _ _), Kd.fr) = _
  rw [e]; rfl
theorem slHi_tabs (f : Nat → Rat) (n m : Nat) (h : n ≤ m) : evSl (.lst (tabs m f)) none (some (n : Int)) = .ok (rL n f, .fr) := by
  have e : cutD (tabs m f) none (some (n : Int)) = tabs n f := by
    unfold cutD
    rw [HT.sIx_nat, HT.sIx_none, tabs_len, Nat.min_eq_left h, Nat.sub_zero]
    have := tabs_cut f 0 n m (by omega)
    simpa using this
  show Res.ok (D.lst (cutD _ _ _), Kd.fr) = _
  rw [e]; rfl
/-- the drawn machine -/
def drawn (c : Int) (n k : Nat) : Mac := ⟨n, k, outQ c, fun s a b => outQ c (2 * n + (s * n + a) * n + b), fun i => outQ c (n + i)⟩
theorem drawn_T (c : Int) (n k : Nat) (s a b : Nat) : Fit 6 24 ((drawn c n k).T s a b) := draw_fit _
theorem drawn_F (c : Int) (n k : Nat) (i : Nat) : Fit 6 24 ((drawn c n k).F i) := draw_fit _
theorem drawn_L (c : Int) (n k : Nat) (i : Nat) : Fit 6 24 ((drawn c n k).L i) := draw_fit _
theorem ev_tupleL (n : Nat) (f : Nat → Rat) : evBlt .tuple [rL n f] = .ok (rT n f, .sh) := rfl
theorem mach_loop1 (c : Int) (x1 x2 x5 x6 x7 x8 x9 : SV) (N : Nat) (hN : N ≤ 16777215) : ∃ c' s4, forL (exSs fuel wb_law_machine_1) (fun S d => some (S.set 4 (.sh d))) ((List.range N).map fun i : Nat => D.int i) [.sh (.int c), x1, x2, .ow [], .no, x5, x6, x7, x8, x9] = .nx [.sh (.int c'), x1, x2, .ow (tabs N (outQ c)), s4, x5, x6, x7, x8, x9] := by
  obtain ⟨S', h1, s4, h2⟩ := for_rng (f := exSs fuel wb_law_machine_1) (tg := fun S d => some (S.set 4 (.sh d))) (fun j S => ∃ s4, S = [.sh (.int (cells 29 c j)), x1, x2, .ow (tabs j (outQ c)), s4, x5, x6, x7, x8, x9]) (n := N) (S := [.sh (.int c), x1, x2, .ow [], .no, x5, x6, x7, x8, x9]) ⟨.no, rfl⟩ (by
    rintro j S hj ⟨s4, rfl⟩
    obtain ⟨m1, m2⟩ := nxt_ok 29 (cells 29 c j)
    refine ⟨_, [.sh (.int (cells 29 c (j + 1))), x1, x2, .ow (tabs (j + 1) (outQ c)), .sh (.int j), x5, x6, x7, x8, x9], rfl, ?_, _, rfl⟩
    have hlt : j < 16777216 := by omega
    rw [show cells 29 c (j + 1) = nxt 29 (cells 29 c j) from rfl, tabs_snoc, show outQ c j = drawQ (nxt 29 (cells 29 c j)) from rfl]
    generalize nxt 29 (cells 29 c j) = y at m2
    have m3 : evBin .fdiv (.int y) (.int 11) = .ok (.int (y.fdiv 11), .sh) := ev_fdiv (by decide) (by decide +kernel)
    have m4 : evBin .mod (.int (y.fdiv 11)) (.int 3) = .ok (.int ((y.fdiv 11).fmod 3), .sh) := ev_mod (by decide)
    have m5 : evBin .fdiv (.int y) (.int 33) = .ok (.int (y.fdiv 33), .sh) := ev_fdiv (by decide) (by decide +kernel)
    unfold drawQ
    by_cases h0 : (y.fdiv 11).fmod 3 = 0
    · simp [wb_law_machine_1, exSs, exS, evE, evEs, args1, m1, m2, m3, m4, m5, h0, hasBo, tabs_len, hlt, fr_zero]
    · simp [wb_law_machine_1, exSs, exS, evE, evEs, args1, m1, m2, m3, m4, m5, h0, hasBo, tabs_len, hlt, law_fraction_ok])
  exact ⟨_, s4, by rw [h1, h2]⟩
/-- rows of one sign -/
theorem mach_loop2 (f : Nat → Rat) (n k N s : Nat) (x0 x4 x5 x8 x9 : SV) (hn : n ≤ 100) (hs : s < 10) (hN : 2 * n + (s * n + n) * n ≤ N) : ∃ s8 s9, forL (exSs fuel wb_law_machine_2) (fun S d => some (S.set 8 (.sh d))) ((List.range n).map fun i : Nat => D.int i) [x0, .sh (.int n), .sh (.int k), .ow (tabs N f), x4, x5, .sh (.int s), .ow [], x8, x9] =
    .nx [x0, .sh (.int n), .sh (.int k), .ow (tabs N f), x4, x5, .sh (.int s), .ow ((List.range n).map fun a => rT n fun b => f (2 * n + (s * n + a) * n + b)), s8, s9] := by
  obtain ⟨S', h1, s8, s9, h2⟩ := for_rng (f := exSs fuel wb_law_machine_2) (tg := fun S d => some (S.set 8 (.sh d))) (fun j S => ∃ s8 s9, S = [x0, .sh (.int n), .sh (.int k), .ow (tabs N f), x4, x5, .sh (.int s), .ow ((List.range j).map fun a => rT n fun b => f (2 * n + (s * n + a) * n + b)), s8, s9]) (n := n) (S := [x0, .sh (.int n), .sh (.int k), .ow (tabs N f), x4, x5, .sh (.int s), .ow [], x8, x9]) ⟨x8, x9, rfl⟩ (by
    rintro j S hj ⟨s8, s9, rfl⟩
    refine ⟨_, [x0, .sh (.int n), .sh (.int k), .ow (tabs N f), x4, x5, .sh (.int s), .ow ((List.range (j + 1)).map fun a => rT n fun b => f (2 * n + (s * n + a) * n + b)), .sh (.int j), .sh (.int ((2 * n + (s * n + j) * n : Nat) : Int))], rfl, ?_, _, _, rfl⟩
    have hle : 2 * n + (s * n + j) * n + n ≤ N := by
      have : (s * n + j) * n + n ≤ (s * n + n) * n := by
        rw [show (s * n + j) * n + n = (s * n + j + 1) * n by rw [Nat.add_mul (s * n + j) 1, Nat.one_mul]]
        exact Nat.mul_le_mul_right _ (by omega)
      omega
    have m1 : evBin .mul (.int 2) (.int n) = .ok (.int (2 * n), .sh) := ev_mul64 (by omega)
    have m2 : evBin .mul (.int s) (.int n) = .ok (.int (s * n), .sh) := ev_mul64 (by omega)
    have m3 : evBin .mul (.int ((s : Int) * n + j)) (.int n) = .ok (.int (((s : Int) * n + j) * n), .sh) := ev_mul64 (by omega)
    have e := sl_tabs f (2 * n + (s * n + j) * n) n N hle
    have c1 : ((2 * n + (s * n + j) * n : Nat) : Int) = 2 * (n : Int) + ((s : Int) * n + j) * n := by simp
    have c2 : ((2 * n + (s * n + j) * n + n : Nat) : Int) = 2 * (n : Int) + ((s : Int) * n + j) * n + n := by simp
    rw [c1, c2] at e
    rw [c1]
    have hlt : j < 16777216 := by omega
    simp [wb_law_machine_2, exSs, exS, evE, evEs, args1, m1, m2, m3, e, hasBo, hlt, ev_tupleL, List.range_succ])
  exact ⟨s8, s9, by rw [h1, h2]⟩
theorem law_machine_ok (c : Int) (n k : Nat) (hn : n ≤ 100) (hk : k < 10) : m_law_machine [.int c, .int n, .int k] = .ok (macD (drawn c n k), false) := by
  refine mir_ret ?_
  unfold b_law_machine
  have hN : n * (2 + n * k) ≤ 16777215 := Nat.le_trans (Nat.mul_le_mul hn (show 2 + n * k ≤ 2 + 100 * 9 from Nat.add_le_add_left (Nat.mul_le_mul hn (by omega)) 2)) (by decide)
  obtain ⟨c', s4, h1⟩ := mach_loop1 c (.sh (.int n)) (.sh (.int k)) .no .no .no .no .no (n * (2 + n * k)) hN
  obtain ⟨S', h2, s6, s7, s8, s9, h3⟩ := for_rng (f := exSs fuel wb_law_machine_3) (tg := fun S d => some (S.set 6 (.sh d))) (fun j S => ∃ s6 s7 s8 s9, S = [.sh (.int c'), .sh (.int n), .sh (.int k), .ow (tabs (n * (2 + n * k)) (outQ c)), s4, .ow ((List.range j).map fun s => sT n n fun a b => outQ c (2 * n + (s * n + a) * n + b)), s6, s7, s8, s9]) (n := k) (S := [.sh (.int c'), .sh (.int n), .sh (.int k), .ow (tabs (n * (2 + n * k)) (outQ c)), s4, .ow [], .no, .no, .no, .no]) ⟨.no, .no, .no, .no, rfl⟩ (by
    rintro j S hj ⟨s6, s7, s8, s9, rfl⟩
    have hle : 2 * n + (j * n + n) * n ≤ n * (2 + n * k) := by
      have e1 : (j * n + n) * n = n * (n * (j + 1)) := by rw [show j * n + n = n * (j + 1) by rw [Nat.mul_add, Nat.mul_one, Nat.mul_comm], Nat.mul_comm]
      have e2 : n * (2 + n * k) = 2 * n + n * (n * k) := by rw [Nat.mul_add, Nat.mul_comm n 2]
      have e3 : n * (n * (j + 1)) ≤ n * (n * k) := Nat.mul_le_mul_left _ (Nat.mul_le_mul_left _ (show j + 1 ≤ k by omega))
      omega
    obtain ⟨t8, t9, h4⟩ := mach_loop2 (outQ c) n k (n * (2 + n * k)) j (.sh (.int c')) s4 (.ow ((List.range j).map fun s => sT n n fun a b => outQ c (2 * n + (s * n + a) * n + b))) s8 s9 hn (by omega) hle
    refine ⟨_, [.sh (.int c'), .sh (.int n), .sh (.int k), .ow (tabs (n * (2 + n * k)) (outQ c)), s4, .ow ((List.range (j + 1)).map fun s => sT n n fun a b => outQ c (2 * n + (s * n + a) * n + b)), .sh (.int j), .ow ((List.range n).map fun a => rT n fun b => outQ c (2 * n + (j * n + a) * n + b)), t8, t9], rfl, ?_, _, _, _, _, rfl⟩
    rw [wb_law_machine_3, ss_go (S1 := [.sh (.int c'), .sh (.int n), .sh (.int k), .ow (tabs (n * (2 + n * k)) (outQ c)), s4, .ow ((List.range j).map fun s => sT n n fun a b => outQ c (2 * n + (s * n + a) * n + b)), .sh (.int j), .ow [], s8, s9]) (by simp [exS, evE, evEs, hasBo, args1]), ss_go (S1 := [.sh (.int c'), .sh (.int n), .sh (.int k), .ow (tabs (n * (2 + n * k)) (outQ c)), s4, .ow ((List.range j).map fun s => sT n n fun a b => outQ c (2 * n + (s * n + a) * n + b)), .sh (.int j), .ow ((List.range n).map fun a => rT n fun b => outQ c (2 * n + (j * n + a) * n + b)), t8, t9]) (by
      rw [w_law_machine_2, exS]
      have hi := items_rng n (by omega)
      simp [evI, evEs, evE, args1, hasBo, hi]
      exact h4)]
    have hlt : j < 16777216 := by omega
    simp [exSs, exS, evE, evEs, args1, evBlt, hlt, List.range_succ, sT])
  subst h3
  have m1 : evBin .mul (.int n) (.int k) = .ok (.int (n * k), .sh) := ev_mul64 (by omega)
  have m2 : evBin .mul (.int n) (.int (2 + (n : Int) * k)) = .ok (.int (n * (2 + n * k)), .sh) := ev_mul64 (by
    have : ((2 : Int) + n * k).natAbs ≤ 2 + 100 * 9 := by
      have : n * k ≤ 100 * 9 := Nat.mul_le_mul hn (by omega)
      have e : (n : Int) * k = ((n * k : Nat) : Int) := by simp
      rw [e]; omega
    omega)
  have m3 : evBin .mul (.int 2) (.int n) = .ok (.int (2 * n), .sh) := ev_mul64 (by omega)
  have hi1 : items .range1 [.int (n * (2 + n * k))] = .ok ((List.range (n * (2 + n * k))).map fun i : Nat => D.int i) := by
    have := items_rng (n * (2 + n * k)) (by omega)
    rw [show ((n * (2 + n * k) : Nat) : Int) = (n : Int) * (2 + n * k) by simp] at this
    exact this
  have hi2 := items_rng k (by omega)
  have hle : n + n ≤ n * (2 + n * k) := by rw [Nat.mul_add]; omega
  have e1 := slHi_tabs (outQ c) n _ (show n ≤ n * (2 + n * k) by omega)
  have e2 := sl_tabs (outQ c) n n _ hle
  rw [show ((n + n : Nat) : Int) = 2 * (n : Int) by omega] at e2
  rw [ss_go (S1 := [.sh (.int c), .sh (.int n), .sh (.int k), .ow [], .no, .no, .no, .no, .no, .no]) (by simp [exS, evE, evEs, hasBo, args1]),
    ss_go (S1 := [.sh (.int c'), .sh (.int n), .sh (.int k), .ow (tabs (n * (2 + n * k)) (outQ c)), s4, .no, .no, .no, .no, .no]) (by
      rw [w_law_machine_1, exS]
      simp [evI, evEs, evE, args1, hasBo, m1, m2, hi1]
      exact h1),
    ss_go (S1 := [.sh (.int c'), .sh (.int n), .sh (.int k), .ow (tabs (n * (2 + n * k)) (outQ c)), s4, .ow [], .no, .no, .no, .no]) (by simp [exS, evE, evEs, hasBo, args1]),
    ss_go (S1 := [.sh (.int c'), .sh (.int n), .sh (.int k), .ow (tabs (n * (2 + n * k)) (outQ c)), s4, .ow ((List.range k).map fun s => sT n n fun a b => outQ c (2 * n + (s * n + a) * n + b)), s6, s7, s8, s9]) (by
      rw [w_law_machine_3, exS]
      simp [evI, evEs, evE, args1, hasBo, hi2]
      exact h2)]
  simp [exSs, exS, evE, evEs, args1, hasBo, e1, e2, m3, ev_tupleL, evBlt]
  rfl
/-- the drawn word -/
def wordSign (c : Int) (k : Nat) (i : Nat) : Nat := (((cells 17 c (i + 1)).fdiv 5).fmod k).toNat
def drawnW (c : Int) (k most : Nat) : List Nat := (List.range (c.fmod (most + 1)).toNat).map (wordSign c k)
theorem drawnW_lt (c : Int) {k : Nat} (most : Nat) (hk : 0 < k) : ∀ s ∈ drawnW c k most, s < k := by
  intro s hs
  obtain ⟨i, _, rfl⟩ := List.mem_map.mp hs
  have := fmod_lt' (w := (cells 17 c (i + 1)).fdiv 5) (m := k) (by omega)
  unfold wordSign
  omega
theorem drawnW_len (c : Int) (k most : Nat) : (drawnW c k most).length ≤ most := by
  have := fmod_lt' (w := c) (m := (most : Int) + 1) (by omega)
  simp [drawnW]; omega
theorem law_word_ok (c : Int) (k most : Nat) (hk : 0 < k) (hm : most ≤ 1000) : m_law_word [.int c, .int k, .int most] = .ok (wD (drawnW c k most), false) := by
  refine mir_ret ?_
  unfold b_law_word
  have hf := fmod_lt' (w := c) (m := (most : Int) + 1) (by omega)
  obtain ⟨N, hN⟩ : ∃ N : Nat, c.fmod (most + 1) = N := ⟨(c.fmod (most + 1)).toNat, by omega⟩
  have hw : drawnW c k most = (List.range N).map (wordSign c k) := by unfold drawnW; rw [hN]; rfl
  have hNl : N ≤ 1000 := by omega
  obtain ⟨S', h1, s4, h2⟩ := for_rng (f := exSs fuel wb_law_word_1) (tg := fun S d => some (S.set 4 (.sh d))) (fun j S => ∃ s4, S = [.sh (.int (cells 17 c j)), .sh (.int k), .sh (.int most), .ow ((List.range j).map fun i => D.int (wordSign c k i)), s4]) (n := N) (S := [.sh (.int c), .sh (.int k), .sh (.int most), .ow [], .no]) ⟨.no, rfl⟩ (by
    rintro j S hj ⟨s4, rfl⟩
    obtain ⟨m1, m2⟩ := nxt_ok 17 (cells 17 c j)
    refine ⟨_, [.sh (.int (cells 17 c (j + 1))), .sh (.int k), .sh (.int most), .ow ((List.range (j + 1)).map fun i => D.int (wordSign c k i)), .sh (.int j)], rfl, ?_, _, rfl⟩
    have hlt : j < 16777216 := by omega
    have hy : wordSign c k j = (((nxt 17 (cells 17 c j)).fdiv 5).fmod k).toNat := rfl
    rw [show cells 17 c (j + 1) = nxt 17 (cells 17 c j) from rfl, List.range_succ, List.map_append, List.map_cons, List.map_nil, hy]
    generalize nxt 17 (cells 17 c j) = y at m2
    have hm := fmod_lt' (w := y.fdiv 5) (m := k) (by omega)
    have m3 : evBin .fdiv (.int y) (.int 5) = .ok (.int (y.fdiv 5), .sh) := ev_fdiv (by decide) (by decide +kernel)
    have m4 : evBin .mod (.int (y.fdiv 5)) (.int k) = .ok (.int ((y.fdiv 5).fmod k), .sh) := ev_mod (by omega)
    have e : ((((y.fdiv 5).fmod k).toNat : Nat) : Int) = (y.fdiv 5).fmod k := by omega
    rw [e]
    simp [wb_law_word_1, exSs, exS, evE, evEs, args1, m1, m2, m3, m4, hasBo, hlt])
  subst h2
  have m1 : evBin .mod (.int c) (.int ((most : Int) + 1)) = .ok (.int N, .sh) := by rw [← hN]; exact ev_mod (by omega)
  have hi := items_rng N (by omega)
  rw [ss_go (S1 := [.sh (.int c), .sh (.int k), .sh (.int most), .ow [], .no]) (by simp [exS, evE, evEs, hasBo, args1]), ss_go (S1 := [.sh (.int (cells 17 c N)), .sh (.int k), .sh (.int most), .ow ((List.range N).map fun i => D.int (wordSign c k i)), s4]) (by
    rw [w_law_word_1, exS]
    simp [evI, evEs, evE, args1, hasBo, m1, hi]
    exact h1)]
  simp [exSs, exS, evE, evEs, args1, evBlt, hw, wD]
end MP
set_option Elab.async false
set_option linter.all false
set_option maxRecDepth 100000
set_option maxHeartbeats 4000000
namespace MP
open PySem PySem.Spec PyProof.Rows L2 WM
/-! sizes of walks -/
theorem Cap.mono {n m D1 N1 D2 N2 : Nat} (c : Cap n D1 N1 D2 N2) (h : m ≤ n) : Cap m D1 N1 D2 N2 := ⟨c.d, c.n1, c.n2, Nat.lt_of_le_of_lt h c.n⟩
/-- rows of all words of at most len signs fit -/
theorem rows_fit {m : Mac} {nb len D0 N0 E M : Nat} (hn : m.n ≤ nb) (hE : 0 < E) (hF : ∀ i, i < m.n → Fit D0 N0 (m.F i)) (hT : ∀ s a b, s < m.k → a < m.n → b < m.n → Fit E M (m.T s a b)) (u : List Nat) (hu : u.length ≤ len) (sg : ∀ s ∈ u, s < m.k) (i : Nat) (hi : i < m.n) :
    Fit (D0 * E ^ len) (N0 * ((nb * M + 1) * E) ^ len) (m.row u i) := by
  have h0 : 0 < D0 := (hF i hi).1
  have z := Mac.run_fit m hT hE u sg m.F D0 N0 h0 hF i hi
  obtain ⟨j, hj⟩ : ∃ j, len = u.length + j := ⟨len - u.length, by omega⟩
  have z2 := z.scale (E ^ j) (Nat.pow_pos hE)
  have e1 : D0 * E ^ u.length * E ^ j = D0 * E ^ len := by rw [hj, Nat.pow_add, Nat.mul_assoc]
  rw [e1] at z2
  refine z2.mono ?_
  have a1 : (m.n * M) ^ u.length ≤ (nb * M + 1) ^ u.length := Nat.pow_le_pow_left (Nat.le_trans (Nat.mul_le_mul_right _ hn) (by omega)) _
  have a2 : (nb * M + 1) ^ u.length ≤ (nb * M + 1) ^ len := Nat.pow_le_pow_right (by omega) hu
  have a3 : E ^ j ≤ E ^ len := Nat.pow_le_pow_right hE (by omega)
  rw [Nat.mul_pow (nb * M + 1), Nat.mul_assoc]
  exact Nat.mul_le_mul_left _ (Nat.mul_le_mul (Nat.le_trans a1 a2) a3)
theorem weigh_of {m : Mac} {w : List Nat} {nb len D0 N0 E M Dl Nl : Nat} (hn : m.n ≤ nb) (hl : w.length ≤ len) (sg : ∀ s ∈ w, s < m.k) (hE : 0 < E) (hF : ∀ i, i < m.n → Fit D0 N0 (m.F i)) (hT : ∀ s a b, s < m.k → a < m.n → b < m.n → Fit E M (m.T s a b)) (hL : ∀ i, i < m.n → Fit Dl Nl (m.L i))
    (c1 : Cap nb (D0 * E ^ len) (N0 * ((nb * M + 1) * E) ^ len) E M) (c2 : Cap nb (D0 * E ^ len) (N0 * ((nb * M + 1) * E) ^ len) Dl Nl) (hb : nb ≤ 16777215) : Weigh m w (D0 * E ^ len) (N0 * ((nb * M + 1) * E) ^ len) E M Dl Nl :=
  { sg := sg
    rows := fun u v e i hi => rows_fit hn hE hF hT u (by have := congrArg List.length e; rw [List.length_append] at this; omega) (fun s hs => sg s (by rw [← e]; exact List.mem_append_left _ hs)) i hi
    steps := hT
    cap := c1.mono hn
    n := by omega
    last := hL
    capl := c2.mono hn }
theorem cap_drawn : Cap 24 (6 * 6 ^ 60) (24 * ((24 * 24 + 1) * 6) ^ 60) 6 24 := ⟨by decide +kernel, Nat.lt_of_lt_of_le (m := 2 ^ 9000) (by decide +kernel) (Nat.pow_le_pow_right (by decide) (by decide)), Nat.lt_of_lt_of_le (m := 2 ^ 9000) (by decide +kernel) (Nat.pow_le_pow_right (by decide) (by decide)), by decide +kernel⟩
/-- a machine with small numbers and any word of at most sixty signs -/
theorem weigh_small {m : Mac} {w : List Nat} (hn : m.n ≤ 24) (hl : w.length ≤ 60) (sg : ∀ s ∈ w, s < m.k) (hF : ∀ i, i < m.n → Fit 6 24 (m.F i)) (hT : ∀ s a b, s < m.k → a < m.n → b < m.n → Fit 6 24 (m.T s a b)) (hL : ∀ i, i < m.n → Fit 6 24 (m.L i)) : Weigh m w (6 * 6 ^ 60) (24 * ((24 * 24 + 1) * 6) ^ 60) 6 24 6 24 :=
  weigh_of hn hl sg (by decide) hF hT hL cap_drawn cap_drawn (by decide)
theorem weigh_drawn (c : Int) {n k : Nat} {w : List Nat} (hn : n ≤ 24) (hl : w.length ≤ 60) (sg : ∀ s ∈ w, s < k) : Weigh (drawn c n k) w (6 * 6 ^ 60) (24 * ((24 * 24 + 1) * 6) ^ 60) 6 24 6 24 :=
  weigh_small hn hl sg (fun i _ => drawn_F c n k i) (fun s a b _ _ _ => drawn_T c n k s a b) (fun i _ => drawn_L c n k i)
/-! slices of words -/
theorem wD_hi (w : List Nat) (c : Nat) (h : c ≤ w.length) : evSl (wD w) none (some (c : Int)) = .ok (wD (w.take c), .sh) := by
  show Res.ok (D.tup (cutD _ _ _), Kd.sh) = _
  unfold cutD
  rw [HT.sIx_nat, HT.sIx_none, List.length_map, Nat.min_eq_left h, Nat.sub_zero, List.drop_zero, ← List.map_take]
  rfl
theorem wD_lo (w : List Nat) (c : Nat) (h : c ≤ w.length) : evSl (wD w) (some (c : Int)) none = .ok (wD (w.drop c), .sh) := by
  show Res.ok (D.tup (cutD _ _ _), Kd.sh) = _
  unfold cutD
  rw [HT.sIx_nat, HT.sIx_none, List.length_map, Nat.min_eq_left h, ← List.map_drop, List.take_of_length_le (by simp)]
  rfl
theorem wD_len (w : List Nat) : evBlt .len [wD w] = .ok (.int w.length, .sh) := by
  show Res.ok (D.int ((w.map fun s : Nat => D.int s).length : Nat), Kd.sh) = _
  rw [List.length_map]
/-- the machine that begins with another row -/
def from_ (m : Mac) (f : Nat → Rat) : Mac := { m with F := f }
theorem Weigh.cut {m : Mac} {u v : List Nat} {D N E M Dl Nl : Nat} (h : Weigh m (u ++ v) D N E M Dl Nl) : Weigh (from_ m (m.row u)) v D N E M Dl Nl :=
  { sg := fun s hs => h.sg s (List.mem_append_right _ hs)
    rows := fun a b e i hi => by
      have := h.rows (u ++ a) b (by rw [List.append_assoc, e]) i hi
      rw [Mac.row_app] at this
      exact this
    steps := h.steps
    cap := h.cap
    n := h.n
    last := h.last
    capl := h.capl }
theorem wt_cut (m : Mac) (u v : List Nat) : (from_ m (m.row u)).wt v = m.wt (u ++ v) := by
  show m.dotL (m.run (m.row u) v) = m.dotL (m.row (u ++ v))
  rw [Mac.row_app]
theorem Walk.pre {m : Mac} {u v : List Nat} {D N E M : Nat} (h : Walk m (u ++ v) D N E M) : Walk m u D N E M :=
  { sg := fun s hs => h.sg s (List.mem_append_left _ hs)
    rows := fun a b e i hi => h.rows a (b ++ v) (by rw [← List.append_assoc, e]) i hi
    steps := h.steps
    cap := h.cap
    n := h.n }
end MP
set_option Elab.async false
set_option linter.all false
/-! machines from machines: the plain mathematics -/
namespace WM
theorem sm_const_mul (f g : Nat → Rat) (n m : Nat) : sm n (fun a => sm m (fun b => f a * g b)) = sm n f * sm m g := by
  rw [sm_congr (g := fun a => f a * sm m g) (fun a _ => sm_mul (f a) g m), sm_mulr]
/-- pairs of places -/
theorem sm_pairs (h : Nat → Nat → Rat) (m : Nat) (hm : 0 < m) : ∀ n : Nat, sm (n * m) (fun i => h (i / m) (i % m)) = sm n (fun a => sm m (h a))
  | 0 => by rw [Nat.zero_mul]; rfl
  | n + 1 => by
    rw [Nat.add_mul, Nat.one_mul, sm_app, sm_pairs h m hm n]
    show _ + _ = sm n _ + sm m (h n)
    congr 1
    exact sm_congr fun b hb => by
      rw [Nat.mul_comm n m, Nat.mul_add_div hm, Nat.div_eq_of_lt hb, Nat.add_zero, Nat.mul_add_mod, Nat.mod_eq_of_lt hb]
namespace Mac
/-! products -/
def prod (p q : Mac) : Mac := ⟨p.n * q.n, p.k, fun i => p.F (i / q.n) * q.F (i % q.n), fun s i j => p.T s (i / q.n) (j / q.n) * q.T s (i % q.n) (j % q.n), fun i => p.L (i / q.n) * q.L (i % q.n)⟩
theorem prod_step (p q : Mac) (hq : 0 < q.n) (v u : Nat → Rat) (s : Nat) : (p.prod q).step (fun i => v (i / q.n) * u (i % q.n)) s = fun j => p.step v s (j / q.n) * q.step u s (j % q.n) := by
  funext j
  show sm (p.n * q.n) (fun i => v (i / q.n) * u (i % q.n) * (p.T s (i / q.n) (j / q.n) * q.T s (i % q.n) (j % q.n))) = _
  rw [sm_pairs (fun a b => v a * u b * (p.T s a (j / q.n) * q.T s b (j % q.n))) q.n hq p.n]
  show _ = sm p.n (fun a => v a * p.T s a (j / q.n)) * sm q.n (fun b => u b * q.T s b (j % q.n))
  rw [← sm_const_mul]
  exact sm_congr fun a _ => sm_congr fun b _ => by grind
theorem prod_run (p q : Mac) (hq : 0 < q.n) : ∀ (w : List Nat) (v u : Nat → Rat), (p.prod q).run (fun i => v (i / q.n) * u (i % q.n)) w = fun j => p.run v w (j / q.n) * q.run u w (j % q.n)
  | [], _, _ => rfl
  | s :: w, v, u => by
    rw [run_cons, prod_step p q hq, prod_run p q hq w]; rfl
theorem prod_wt (p q : Mac) (w : List Nat) : (p.prod q).wt w = p.wt w * q.wt w := by
  rcases Nat.eq_zero_or_pos q.n with h | h
  · show sm (p.n * q.n) _ = _ * sm q.n _
    rw [h, Nat.mul_zero]
    show (0 : Rat) = _ * 0
    grind
  · show sm (p.n * q.n) (fun i => (p.prod q).run (p.prod q).F w i * (p.L (i / q.n) * q.L (i % q.n))) = _
    rw [show (p.prod q).F = fun i => p.F (i / q.n) * q.F (i % q.n) from rfl, prod_run p q h w p.F q.F]
    rw [sm_pairs (fun a b => p.run p.F w a * q.run q.F w b * (p.L a * q.L b)) q.n h p.n]
    show _ = sm p.n (fun a => p.run p.F w a * p.L a) * sm q.n (fun b => q.run q.F w b * q.L b)
    rw [← sm_const_mul]
    exact sm_congr fun a _ => sm_congr fun b _ => by grind
/-! sums -/
/-- f, then g from place n on -/
def cat (n : Nat) (f g : Nat → Rat) : Nat → Rat := fun i => if i < n then f i else g (i - n)
theorem cat_lo {n i : Nat} {f g : Nat → Rat} (h : i < n) : cat n f g i = f i := if_pos h
theorem cat_hi (n i : Nat) (f g : Nat → Rat) : cat n f g (n + i) = g i := by
  unfold cat
  rw [if_neg (by omega), Nat.add_sub_cancel_left]
theorem sm_cat (n m : Nat) (f g f' g' : Nat → Rat) : sm (n + m) (fun i => cat n f g i * cat n f' g' i) = sm n (fun i => f i * f' i) + sm m (fun i => g i * g' i) := by
  rw [sm_app]
  congr 1
  · exact sm_congr fun i hi => by rw [cat_lo hi, cat_lo hi]
  · exact sm_congr fun i _ => by rw [cat_hi, cat_hi]
def zero : Nat → Rat := fun _ => 0
def sum (p q : Mac) : Mac := ⟨p.n + q.n, p.k, cat p.n p.F q.F, fun s a => if a < p.n then cat p.n (p.T s a) zero else cat p.n zero (q.T s (a - p.n)), cat p.n p.L q.L⟩
theorem sum_step (p q : Mac) (v u : Nat → Rat) (s : Nat) : (p.sum q).step (cat p.n v u) s = cat p.n (p.step v s) (q.step u s) := by
  funext b
  show sm (p.n + q.n) _ = _
  rw [sm_app]
  have e1 : sm p.n (fun a => cat p.n v u a * (p.sum q).T s a b) = if b < p.n then p.step v s b else 0 := by
    split
    · rename_i h
      exact sm_congr fun a ha => by
        show cat p.n v u a * (if a < p.n then cat p.n (p.T s a) zero else cat p.n zero (q.T s (a - p.n))) b = _
        rw [cat_lo ha, if_pos ha, cat_lo h]
    · rename_i h
      exact sm_zero fun a ha => by
        show cat p.n v u a * (if a < p.n then cat p.n (p.T s a) zero else cat p.n zero (q.T s (a - p.n))) b = _
        rw [if_pos ha]
        unfold cat zero
        rw [if_neg h]; grind
  have e2 : sm q.n (fun a => cat p.n v u (p.n + a) * (p.sum q).T s (p.n + a) b) = if b < p.n then 0 else q.step u s (b - p.n) := by
    split
    · rename_i h
      exact sm_zero fun a ha => by
        show cat p.n v u (p.n + a) * (if p.n + a < p.n then cat p.n (p.T s (p.n + a)) zero else cat p.n zero (q.T s (p.n + a - p.n))) b = _
        rw [if_neg (by omega), cat_lo h]
        unfold zero; grind
    · rename_i h
      exact sm_congr fun a ha => by
        show cat p.n v u (p.n + a) * (if p.n + a < p.n then cat p.n (p.T s (p.n + a)) zero else cat p.n zero (q.T s (p.n + a - p.n))) b = _
        rw [if_neg (by omega), cat_hi, Nat.add_sub_cancel_left]
        unfold cat
        rw [if_neg h]
  rw [e1, e2]
  unfold cat
  split <;> grind
theorem sum_run (p q : Mac) : ∀ (w : List Nat) (v u : Nat → Rat), (p.sum q).run (cat p.n v u) w = cat p.n (p.run v w) (q.run u w)
  | [], _, _ => rfl
  | s :: w, v, u => by
    rw [run_cons, sum_step, sum_run p q w]; rfl
theorem sum_row (p q : Mac) (w : List Nat) : (p.sum q).row w = cat p.n (p.row w) (q.row w) := sum_run p q w p.F q.F
theorem sum_wt (p q : Mac) (w : List Nat) : (p.sum q).wt w = p.wt w + q.wt w := by
  show sm (p.n + q.n) (fun i => (p.sum q).row w i * cat p.n p.L q.L i) = _
  rw [sum_row, sm_cat]; rfl
/-! multiples -/
def scale (p : Mac) (c : Rat) : Mac := { p with F := fun i => p.F i * c }
theorem scale_wt (p : Mac) (c : Rat) (w : List Nat) : (p.scale c).wt w = p.wt w * c := by
  have e : (p.scale c).row w = fun i => c * p.row w i := by
    show p.run (fun i => p.F i * c) w = _
    rw [show (fun i => p.F i * c) = fun i => c * p.F i from funext fun i => by grind, run_mul]; rfl
  show sm p.n (fun i => (p.scale c).row w i * p.L i) = _
  rw [e]
  show sm p.n (fun i => c * p.row w i * p.L i) = sm p.n (fun i => p.row w i * p.L i) * c
  rw [← sm_mulr]
  exact sm_congr fun i _ => by grind
/-! turned -/
def turn (p : Mac) : Mac := ⟨p.n, p.k, p.L, fun s a b => p.T s b a, p.F⟩
theorem turn_step (p : Mac) (v : Nat → Rat) (s : Nat) : p.turn.step v s = p.back s v := by
  funext b
  exact sm_congr fun a _ => by show v a * p.T s b a = p.T s b a * v a; grind
theorem turn_run (p : Mac) : ∀ (w : List Nat) (v : Nat → Rat), p.turn.run v w = (w.reverse).foldr p.back v
  | [], _ => rfl
  | s :: w, v => by
    rw [run_cons, turn_step, turn_run p w, List.reverse_cons, List.foldr_append]; rfl
theorem turn_row (p : Mac) (w : List Nat) : p.turn.row w = p.col w.reverse := turn_run p w p.L
theorem turn_wt (p : Mac) (w : List Nat) : p.turn.wt w = p.wt w.reverse := by
  show sm p.n (fun i => p.turn.row w i * p.F i) = p.dotL (p.run p.F w.reverse)
  rw [turn_row, dot_run]
  exact sm_congr fun i _ => by grind
theorem turn_turn (p : Mac) : p.turn.turn = p := rfl
/-! chains -/
def hop (p : Mac) (s a : Nat) : Rat := sm p.n fun c => p.T s a c * p.L c
def chain (p q : Mac) : Mac := ⟨p.n + q.n, p.k, cat p.n p.F fun i => p.wt [] * q.F i, fun s a => if a < p.n then cat p.n (p.T s a) (fun i => p.hop s a * q.F i) else cat p.n zero (q.T s (a - p.n)), cat p.n zero q.L⟩
theorem chain_step (p q : Mac) (v u : Nat → Rat) (s : Nat) : (p.chain q).step (cat p.n v u) s = cat p.n (p.step v s) (fun j => p.dotL (p.step v s) * q.F j + q.step u s j) := by
  funext b
  show sm (p.n + q.n) _ = _
  rw [sm_app]
  have e1 : sm p.n (fun a => cat p.n v u a * (p.chain q).T s a b) = if b < p.n then p.step v s b else p.dotL (p.step v s) * q.F (b - p.n) := by
    split
    · rename_i h
      exact sm_congr fun a ha => by
        show cat p.n v u a * (if a < p.n then cat p.n (p.T s a) (fun i => p.hop s a * q.F i) else cat p.n zero (q.T s (a - p.n))) b = _
        rw [cat_lo ha, if_pos ha, cat_lo h]
    · rename_i h
      have z : p.dotL (p.step v s) = sm p.n fun a => v a * p.hop s a := by
        show sm p.n (fun b => p.step v s b * p.L b) = _
        rw [dot_step]; rfl
      rw [z, ← sm_mulr]
      exact sm_congr fun a ha => by
        show cat p.n v u a * (if a < p.n then cat p.n (p.T s a) (fun i => p.hop s a * q.F i) else cat p.n zero (q.T s (a - p.n))) b = _
        rw [cat_lo ha, if_pos ha]
        unfold cat
        rw [if_neg h]; grind
  have e2 : sm q.n (fun a => cat p.n v u (p.n + a) * (p.chain q).T s (p.n + a) b) = if b < p.n then 0 else q.step u s (b - p.n) := by
    split
    · rename_i h
      exact sm_zero fun a ha => by
        show cat p.n v u (p.n + a) * (if p.n + a < p.n then cat p.n (p.T s (p.n + a)) (fun i => p.hop s (p.n + a) * q.F i) else cat p.n zero (q.T s (p.n + a - p.n))) b = _
        rw [if_neg (by omega), cat_lo h]
        unfold zero; grind
    · rename_i h
      exact sm_congr fun a ha => by
        show cat p.n v u (p.n + a) * (if p.n + a < p.n then cat p.n (p.T s (p.n + a)) (fun i => p.hop s (p.n + a) * q.F i) else cat p.n zero (q.T s (p.n + a - p.n))) b = _
        rw [if_neg (by omega), cat_hi, Nat.add_sub_cancel_left]
        unfold cat
        rw [if_neg h]
  rw [e1, e2]
  unfold cat
  split <;> grind
/-- what stands in the second machine's rooms -/
def cuts (p q : Mac) (w : List Nat) : Nat → Rat := fun j => sm (w.length + 1) fun c => p.wt (w.take c) * q.row (w.drop c) j
theorem cuts_snoc (p q : Mac) (w : List Nat) (s : Nat) : p.cuts q (w ++ [s]) = fun j => p.wt (w ++ [s]) * q.F j + q.step (p.cuts q w) s j := by
  funext j
  unfold cuts
  rw [List.length_append, List.length_singleton]
  show sm (w.length + 1) _ + _ = _
  have e1 : sm (w.length + 1) (fun c => p.wt ((w ++ [s]).take c) * q.row ((w ++ [s]).drop c) j) = q.step (fun j => sm (w.length + 1) fun c => p.wt (w.take c) * q.row (w.drop c) j) s j := by
    show _ = sm q.n (fun a => sm (w.length + 1) (fun c => p.wt (w.take c) * q.row (w.drop c) a) * q.T s a j)
    have e : sm q.n (fun a => sm (w.length + 1) (fun c => p.wt (w.take c) * q.row (w.drop c) a) * q.T s a j) = sm q.n (fun a => sm (w.length + 1) (fun c => p.wt (w.take c) * q.row (w.drop c) a * q.T s a j)) := sm_congr fun a _ => (sm_mulr _ _ _).symm
    rw [e, sm_swap (fun a c => p.wt (w.take c) * q.row (w.drop c) a * q.T s a j)]
    refine sm_congr fun c hc => ?_
    have hl : c ≤ w.length := by omega
    rw [List.take_append_of_le_length hl, List.drop_append_of_le_length hl, row_snoc]
    show p.wt (w.take c) * sm q.n (fun a => q.row (w.drop c) a * q.T s a j) = _
    rw [← sm_mul]
    exact sm_congr fun a _ => by grind
  rw [e1]
  have e2 : (w ++ [s]).take (w.length + 1) = w ++ [s] := List.take_of_length_le (by simp)
  have e3 : (w ++ [s]).drop (w.length + 1) = [] := List.drop_of_length_le (by simp)
  show _ + p.wt ((w ++ [s]).take (w.length + 1)) * q.row ((w ++ [s]).drop (w.length + 1)) j = _
  rw [e2, e3]
  show _ + p.wt (w ++ [s]) * q.F j = _
  grind
theorem chain_row (p q : Mac) (w : List Nat) : (p.chain q).row w = cat p.n (p.row w) (p.cuts q w) := by
  have key : ∀ (n : Nat) (w : List Nat), w.length = n → (p.chain q).row w = cat p.n (p.row w) (p.cuts q w) := by
    intro n
    induction n with
    | zero =>
      intro w hw
      have : w = [] := List.eq_nil_of_length_eq_zero hw
      subst this
      show cat p.n p.F (fun i => p.wt [] * q.F i) = cat p.n p.F (p.cuts q [])
      congr 1
      funext j
      show p.wt [] * q.F j = 0 + p.wt [] * q.F j
      grind
    | succ n ih =>
      intro w hw
      obtain ⟨u, s, rfl⟩ : ∃ u s, w = u ++ [s] := by
        rcases List.eq_nil_or_concat w with h | ⟨u, s, h⟩
        · subst h; simp at hw
        · exact ⟨u, s, by rw [h, List.concat_eq_append]⟩
      have hu : u.length = n := by simpa using hw
      rw [row_snoc, ih u hu, chain_step, row_snoc, cuts_snoc]
      rw [show p.dotL (p.step (p.row u) s) = p.wt (u ++ [s]) by show _ = p.dotL (p.row (u ++ [s])); rw [row_snoc]]
  exact key w.length w rfl
theorem chain_wt (p q : Mac) (w : List Nat) : (p.chain q).wt w = sm (w.length + 1) fun c => p.wt (w.take c) * q.wt (w.drop c) := by
  show sm (p.n + q.n) (fun i => (p.chain q).row w i * cat p.n zero q.L i) = _
  rw [chain_row, sm_cat]
  have e1 : sm p.n (fun i => p.row w i * zero i) = 0 := sm_zero fun i _ => by unfold zero; grind
  rw [e1]
  have e2 : sm q.n (fun i => p.cuts q w i * q.L i) = sm q.n (fun i => sm (w.length + 1) (fun c => p.wt (w.take c) * q.row (w.drop c) i * q.L i)) := sm_congr fun i _ => (sm_mulr _ _ _).symm
  rw [e2, sm_swap (fun i c => p.wt (w.take c) * q.row (w.drop c) i * q.L i)]
  have e3 : sm (w.length + 1) (fun c => sm q.n (fun i => p.wt (w.take c) * q.row (w.drop c) i * q.L i)) = sm (w.length + 1) fun c => p.wt (w.take c) * q.wt (w.drop c) := sm_congr fun c _ => by
    show _ = p.wt (w.take c) * sm q.n (fun i => q.row (w.drop c) i * q.L i)
    rw [← sm_mul]
    exact sm_congr fun i _ => by grind
  rw [e3]; grind
end Mac
end WM
set_option Elab.async false
set_option linter.all false
set_option maxRecDepth 100000
set_option maxHeartbeats 4000000
namespace MP
open PySem PySem.Spec PyProof.Rows L2 WM
/-! making.py, and what the laws look at in a machine -/
noncomputable def b_see_signs : List MS := [.ife (.cmp .ne (.blt .len [(.sub (.loc 0) (.int 1))]) (.blt .len [(.sub (.loc 1) (.int 1))])) [.rais "Unlike"] []]
noncomputable def m_see_signs : Fn := mirror 2 fuel b_see_signs
-- 0:one 1:other
noncomputable def b_see_rooms : List MS := [.ife (.cmp .gt (.loc 0) (.glo "MOST_ROOMS" (.int 24))) [.rais "TooMany"] []]
noncomputable def m_see_rooms : Fn := mirror 1 fuel b_see_rooms
-- 0:rooms
noncomputable def wb_paired_1 : List MS := [.app 2 (.call "times" m_times [(.loc 3), (.loc 4)])]
noncomputable def w_paired_1 : MS := .forI 4 .val [(.loc 1)] wb_paired_1
noncomputable def wb_paired_2 : List MS := [w_paired_1]
noncomputable def w_paired_2 : MS := .forI 3 .val [(.loc 0)] wb_paired_2
noncomputable def b_paired : List MS := [.own 2 (.lst []), w_paired_2, .ret (.blt .tuple [(.loc 2)])]
noncomputable def m_paired : Fn := mirror 5 fuel b_paired
-- 0:one 1:other 2:found 3:left 4:right
noncomputable def wb_paired_step_1 : List MS := [.app 2 (.call "paired" m_paired [(.loc 3), (.loc 4)])]
noncomputable def w_paired_step_1 : MS := .forI 4 .val [(.loc 1)] wb_paired_step_1
noncomputable def wb_paired_step_2 : List MS := [w_paired_step_1]
noncomputable def w_paired_step_2 : MS := .forI 3 .val [(.loc 0)] wb_paired_step_2
noncomputable def b_paired_step : List MS := [.own 2 (.lst []), w_paired_step_2, .ret (.blt .tuple [(.loc 2)])]
noncomputable def m_paired_step : Fn := mirror 5 fuel b_paired_step
-- 0:one 1:other 2:rows 3:left 4:right
noncomputable def ce_product_1 : ME := (.call "paired_step" m_paired_step [(.sub (.sub (.loc 0) (.int 1)) (.loc 3)), (.sub (.sub (.loc 1) (.int 1)) (.loc 3))])
noncomputable def c_product_1 : ME := .comp ce_product_1 3 .range1 [(.blt .len [(.sub (.loc 0) (.int 1))])]
noncomputable def b_product : List MS := [.exp (.call "see_signs" m_see_signs [(.loc 0), (.loc 1)]), .exp (.call "see_rooms" m_see_rooms [(.bin .mul (.blt .len [(.sub (.loc 0) (.int 0))]) (.blt .len [(.sub (.loc 1) (.int 0))]))]), .set 2 (.blt .tuple [c_product_1]), .ret (.tup [(.call "paired" m_paired [(.sub (.loc 0) (.int 0)), (.sub (.loc 1) (.int 0))]), (.loc 2), (.call "paired" m_paired [(.sub (.loc 0) (.int 2)), (.sub (.loc 1) (.int 2))])])]
noncomputable def m_product : Fn := mirror 4 fuel b_product
-- 0:one 1:other 2:steps 3:k
noncomputable def wb_law_proper_row_1 : List MS := [.ife (.not (.call "_law_proper" m_law_proper [(.loc 2)])) [.ret (.bl false)] []]
noncomputable def w_law_proper_row_1 : MS := .forI 2 .val [(.loc 0)] wb_law_proper_row_1
noncomputable def b_law_proper_row : List MS := [.ife (.or (.not (.isi (.loc 0) .tuple)) (.cmp .ne (.blt .len [(.loc 0)]) (.loc 1))) [.ret (.bl false)] [], w_law_proper_row_1, .ret (.bl true)]
noncomputable def m_law_proper_row : Fn := mirror 3 fuel b_law_proper_row
-- 0:row 1:many 2:part
noncomputable def wb_law_is_machine_1 : List MS := [.ife (.not (.call "_law_proper_row" m_law_proper_row [(.loc 4), (.loc 1)])) [.ret (.bl false)] []]
noncomputable def w_law_is_machine_1 : MS := .forI 4 .val [(.loc 3)] wb_law_is_machine_1
noncomputable def wb_law_is_machine_2 : List MS := [.ife (.or (.not (.isi (.loc 3) .tuple)) (.cmp .ne (.blt .len [(.loc 3)]) (.loc 1))) [.ret (.bl false)] [], w_law_is_machine_1]
noncomputable def w_law_is_machine_2 : MS := .forI 3 .val [(.sub (.loc 0) (.int 1))] wb_law_is_machine_2
noncomputable def b_law_is_machine : List MS := [.ife (.or (.not (.isi (.loc 0) .tuple)) (.or (.cmp .ne (.blt .len [(.loc 0)]) (.int 3)) (.not (.isi (.sub (.loc 0) (.int 1)) .tuple)))) [.ret (.bl false)] [], .ife (.or (.not (.call "_law_proper_row" m_law_proper_row [(.sub (.loc 0) (.int 0)), (.loc 1)])) (.not (.call "_law_proper_row" m_law_proper_row [(.sub (.loc 0) (.int 2)), (.loc 1)]))) [.ret (.bl false)] [], .ife (.cmp .ne (.blt .len [(.sub (.loc 0) (.int 1))]) (.loc 2)) [.ret (.bl false)] [], w_law_is_machine_2, .ret (.bl true)]
noncomputable def m_law_is_machine : Fn := mirror 5 fuel b_law_is_machine
-- 0:machine 1:rooms 2:signs 3:step 4:row
noncomputable def ce_noughts_1 : ME := (.glo "NOUGHT" (.tup [(.int 0), (.int 1)]))
noncomputable def c_noughts_1 : ME := .comp ce_noughts_1 1 .range1 [(.loc 0)]
noncomputable def b_noughts : List MS := [.ret (.blt .tuple [c_noughts_1])]
noncomputable def m_noughts : Fn := mirror 2 fuel b_noughts
-- 0:many 1:k
noncomputable def ce_side_by_side_1 : ME := (.bin .add (.loc 3) (.call "noughts" m_noughts [(.blt .len [(.loc 1)])]))
noncomputable def c_side_by_side_1 : ME := .comp ce_side_by_side_1 3 .val [(.loc 0)]
noncomputable def ce_side_by_side_2 : ME := (.bin .add (.call "noughts" m_noughts [(.blt .len [(.loc 0)])]) (.loc 3))
noncomputable def c_side_by_side_2 : ME := .comp ce_side_by_side_2 3 .val [(.loc 1)]
noncomputable def b_side_by_side : List MS := [.set 2 c_side_by_side_1, .ret (.blt .tuple [(.bin .add (.loc 2) c_side_by_side_2)])]
noncomputable def m_side_by_side : Fn := mirror 4 fuel b_side_by_side
-- 0:one 1:other 2:rows 3:row
noncomputable def ce_added_1 : ME := (.call "side_by_side" m_side_by_side [(.sub (.sub (.loc 0) (.int 1)) (.loc 3)), (.sub (.sub (.loc 1) (.int 1)) (.loc 3))])
noncomputable def c_added_1 : ME := .comp ce_added_1 3 .range1 [(.blt .len [(.sub (.loc 0) (.int 1))])]
noncomputable def b_added : List MS := [.exp (.call "see_signs" m_see_signs [(.loc 0), (.loc 1)]), .exp (.call "see_rooms" m_see_rooms [(.bin .add (.blt .len [(.sub (.loc 0) (.int 0))]) (.blt .len [(.sub (.loc 1) (.int 0))]))]), .set 2 (.blt .tuple [c_added_1]), .ret (.tup [(.bin .add (.sub (.loc 0) (.int 0)) (.sub (.loc 1) (.int 0))), (.loc 2), (.bin .add (.sub (.loc 0) (.int 2)) (.sub (.loc 1) (.int 2)))])]
noncomputable def m_added : Fn := mirror 4 fuel b_added
-- 0:one 1:other 2:steps 3:k
noncomputable def ce_scaled_1 : ME := (.call "times" m_times [(.loc 2), (.loc 1)])
noncomputable def c_scaled_1 : ME := .comp ce_scaled_1 2 .val [(.sub (.loc 0) (.int 0))]
noncomputable def b_scaled : List MS := [.ret (.tup [(.blt .tuple [c_scaled_1]), (.sub (.loc 0) (.int 1)), (.sub (.loc 0) (.int 2))])]
noncomputable def m_scaled : Fn := mirror 3 fuel b_scaled
-- 0:machine 1:fraction 2:part
noncomputable def ce_turned_1 : ME := (.blt .tuple [(.call "column" m_column [(.loc 2), (.loc 3)])])
noncomputable def c_turned_1 : ME := .comp ce_turned_1 3 .range1 [(.blt .len [(.loc 2)])]
noncomputable def wb_turned_1 : List MS := [.app 1 (.blt .tuple [c_turned_1])]
noncomputable def w_turned_1 : MS := .forI 2 .val [(.sub (.loc 0) (.int 1))] wb_turned_1
noncomputable def b_turned : List MS := [.own 1 (.lst []), w_turned_1, .ret (.tup [(.sub (.loc 0) (.int 2)), (.blt .tuple [(.loc 1)]), (.sub (.loc 0) (.int 0))])]
noncomputable def m_turned : Fn := mirror 4 fuel b_turned
-- 0:machine 1:steps 2:step 3:b
noncomputable def ce_chained_step_1 : ME := (.call "times" m_times [(.loc 6), (.loc 8)])
noncomputable def c_chained_step_1 : ME := .comp ce_chained_step_1 8 .val [(.loc 3)]
noncomputable def wb_chained_step_1 : List MS := [.set 6 (.call "dot" m_dot [(.sub (.loc 0) (.loc 5)), (.loc 1)]), .app 4 (.bin .add (.sub (.loc 0) (.loc 5)) (.blt .tuple [c_chained_step_1]))]
noncomputable def w_chained_step_1 : MS := .forI 5 .range1 [(.blt .len [(.loc 0)])] wb_chained_step_1
noncomputable def wb_chained_step_2 : List MS := [.app 4 (.bin .add (.call "noughts" m_noughts [(.blt .len [(.loc 0)])]) (.loc 7))]
noncomputable def w_chained_step_2 : MS := .forI 7 .val [(.loc 2)] wb_chained_step_2
noncomputable def b_chained_step : List MS := [.own 4 (.lst []), w_chained_step_1, w_chained_step_2, .ret (.blt .tuple [(.loc 4)])]
noncomputable def m_chained_step : Fn := mirror 9 fuel b_chained_step
-- 0:one 1:one_last 2:other 3:other_first 4:rows 5:a 6:hop 7:row 8:part
noncomputable def ce_chained_1 : ME := (.call "times" m_times [(.loc 2), (.loc 6)])
noncomputable def c_chained_1 : ME := .comp ce_chained_1 6 .val [(.sub (.loc 1) (.int 0))]
noncomputable def wb_chained_1 : List MS := [.app 4 (.call "chained_step" m_chained_step [(.sub (.sub (.loc 0) (.int 1)) (.loc 5)), (.sub (.loc 0) (.int 2)), (.sub (.sub (.loc 1) (.int 1)) (.loc 5)), (.sub (.loc 1) (.int 0))])]
noncomputable def w_chained_1 : MS := .forI 5 .range1 [(.blt .len [(.sub (.loc 0) (.int 1))])] wb_chained_1
noncomputable def b_chained : List MS := [.exp (.call "see_signs" m_see_signs [(.loc 0), (.loc 1)]), .exp (.call "see_rooms" m_see_rooms [(.bin .add (.blt .len [(.sub (.loc 0) (.int 0))]) (.blt .len [(.sub (.loc 1) (.int 0))]))]), .set 2 (.call "dot" m_dot [(.sub (.loc 0) (.int 0)), (.sub (.loc 0) (.int 2))]), .set 3 (.bin .add (.sub (.loc 0) (.int 0)) (.blt .tuple [c_chained_1])), .own 4 (.lst []), w_chained_1, .ret (.tup [(.loc 3), (.blt .tuple [(.loc 4)]), (.bin .add (.call "noughts" m_noughts [(.blt .len [(.sub (.loc 0) (.int 0))])]) (.sub (.loc 1) (.int 2)))])]
noncomputable def m_chained : Fn := mirror 7 fuel b_chained
-- 0:one 1:other 2:none 3:first 4:steps 5:k 6:part
theorem see_signs_ok {p q : Mac} (h : p.k = q.k) : m_see_signs [macD p, macD q] = .ok (.non, false) := by
  unfold m_see_signs mirror b_see_signs
  simp [exSs, exS, evE, evEs, args1, mac_1, evBlt, h]
theorem see_signs_no {p q : Mac} (h : p.k ≠ q.k) : m_see_signs [macD p, macD q] = .exc "Unlike" := by
  have h' : ¬ ((p.k : Int) = q.k) := by omega
  unfold m_see_signs mirror b_see_signs
  simp [exSs, exS, evE, evEs, args1, mac_1, evBlt, h, h']
theorem see_rooms_ok {n : Nat} (h : n ≤ 24) : m_see_rooms [.int n] = .ok (.non, false) := by
  have h' : ¬ ((24 : Int) < n) := by omega
  unfold m_see_rooms mirror b_see_rooms
  simp [exSs, exS, evE, evEs, args1, evCmp, h']
theorem see_rooms_no {n : Nat} (h : 24 < n) : m_see_rooms [.int n] = .exc "TooMany" := by
  have h' : (24 : Int) < n := by omega
  unfold m_see_rooms mirror b_see_rooms
  simp [exSs, exS, evE, evEs, args1, evCmp, h']
theorem rT_len (n : Nat) (f : Nat → Rat) : evBlt .len [rT n f] = .ok (.int n, .sh) := by have := (rT_sq n f).len; rw [tabs_len] at this; exact this
theorem rL_len (n : Nat) (f : Nat → Rat) : evBlt .len [rL n f] = .ok (.int n, .sh) := by have := (rL_sq n f).len; rw [tabs_len] at this; exact this
theorem sT_len (n m : Nat) (T : Nat → Nat → Rat) : evBlt .len [sT n m T] = .ok (.int n, .sh) := by
  show Res.ok (D.int (((List.range n).map fun a => rT m (T a)).length : Nat), Kd.sh) = _
  rw [List.length_map, List.length_range]
theorem steps_len (m : Mac) : evBlt .len [.tup ((List.range m.k).map fun s => sT m.n m.n (m.T s))] = .ok (.int m.k, .sh) := by
  show Res.ok (D.int (((List.range m.k).map fun s => sT m.n m.n (m.T s)).length : Nat), Kd.sh) = _
  rw [List.length_map, List.length_range]
theorem sT_get {n m a : Nat} {T : Nat → Nat → Rat} (h : a < n) : evSub (sT n m T) (.int a) = .ok (rT m (T a), .sh) := Sq.sub (xs := (List.range n).map fun a => rT m (T a)) (.inl rfl) (by simp [h])
/-- the four, with sizes -/
theorem times_fit {p q : Rat} {D N E M : Nat} (h : Fit D N p) (k : Fit E M q) (h1 : D * E < 2 ^ 9000) (h2 : N < 2 ^ 180000) (h3 : M < 2 ^ 180000) : m_times [fr p, fr q] = .ok (fr (p * q), false) := by
  have a1 : D < 2 ^ 9000 := Nat.lt_of_le_of_lt (Nat.le_mul_of_pos_right _ k.1) h1
  have a2 : E < 2 ^ 9000 := Nat.lt_of_le_of_lt (Nat.le_mul_of_pos_left _ h.1) h1
  exact times_ok p q (Sz.fit h a1 (pow_up h2 (by decide))) (Sz.fit k a2 (pow_up h3 (by decide))) (Nat.lt_of_le_of_lt (Nat.mul_le_mul h.den_le k.den_le) h1)
/-! products -/
theorem pair_div {m a b : Nat} (hb : b < m) : (a * m + b) / m = a ∧ (a * m + b) % m = b := by
  have hm : 0 < m := by omega
  rw [Nat.mul_comm a m, Nat.mul_add_div hm, Nat.div_eq_of_lt hb, Nat.mul_add_mod, Nat.mod_eq_of_lt hb]
  exact ⟨by omega, rfl⟩
theorem paired_ok {n m D1 N1 D2 N2 : Nat} {f g : Nat → Rat} (hn : n ≤ 100) (hm : m ≤ 100) (hf : ∀ i, i < n → Fit D1 N1 (f i)) (hg : ∀ i, i < m → Fit D2 N2 (g i)) (h1 : D1 * D2 < 2 ^ 9000) (h2 : N1 < 2 ^ 180000) (h3 : N2 < 2 ^ 180000) :
    m_paired [rT n f, rT m g] = .ok (rT (n * m) fun i => f (i / m) * g (i % m), false) := by
  refine mir_ret ?_
  unfold b_paired
  obtain ⟨h, hh⟩ : ∃ h : Nat → Rat, (fun i => f (i / m) * g (i % m)) = h := ⟨_, rfl⟩
  obtain ⟨S', l1, s3, s4, l2⟩ := for_tab (f := exSs fuel wb_paired_2) (tg := fun S d => some (S.set 3 (.sh d))) (fun a S => ∃ s3 s4, S = [.sh (rT n f), .sh (rT m g), .ow (tabs (a * m) h), s3, s4]) (fun i => fr (f i)) (n := n) (S := [.sh (rT n f), .sh (rT m g), .ow [], .no, .no]) ⟨.no, .no, by rw [Nat.zero_mul]; rfl⟩ (by
    rintro a S ha ⟨s3, s4, rfl⟩
    obtain ⟨S'', i1, s4', i2⟩ := for_tab (f := exSs fuel wb_paired_1) (tg := fun S d => some (S.set 4 (.sh d))) (fun b S => ∃ s4, S = [.sh (rT n f), .sh (rT m g), .ow (tabs (a * m + b) h), .sh (fr (f a)), s4]) (fun i => fr (g i)) (n := m) (S := [.sh (rT n f), .sh (rT m g), .ow (tabs (a * m) h), .sh (fr (f a)), s4]) ⟨s4, rfl⟩ (by
      rintro b S hb ⟨s4, rfl⟩
      refine ⟨_, [.sh (rT n f), .sh (rT m g), .ow (tabs (a * m + (b + 1)) h), .sh (fr (f a)), .sh (fr (g b))], rfl, ?_, _, rfl⟩
      have e1 := times_fit (hf a ha) (hg b hb) h1 h2 h3
      have e2 : f a * g b = h (a * m + b) := by
        rw [← hh]
        show _ = f ((a * m + b) / m) * g ((a * m + b) % m)
        rw [(pair_div hb).1, (pair_div hb).2]
      have hlt : a * m + b < 16777216 := by
        have : a * m ≤ 100 * 100 := Nat.mul_le_mul (by omega) hm
        omega
      rw [← Nat.add_assoc, tabs_snoc, ← e2]
      simp [wb_paired_1, exSs, exS, evE, evEs, args1, hasBo, e1, tabs_len, hlt])
    subst i2
    refine ⟨_, [.sh (rT n f), .sh (rT m g), .ow (tabs ((a + 1) * m) h), .sh (fr (f a)), s4'], rfl, ?_, _, _, rfl⟩
    rw [wb_paired_2, ss_go (S1 := [.sh (rT n f), .sh (rT m g), .ow (tabs ((a + 1) * m) h), .sh (fr (f a)), s4']) (by
      rw [w_paired_1, exS]
      simp [evI, evEs, evE, args1, hasBo, rT, items]
      rw [Nat.add_mul, Nat.one_mul]
      exact i1)]
    rw [exSs])
  subst l2
  rw [ss_go (S1 := [.sh (rT n f), .sh (rT m g), .ow [], .no, .no]) (by simp [exS, evE, evEs, hasBo, args1]), ss_go (S1 := [.sh (rT n f), .sh (rT m g), .ow (tabs (n * m) h), s3, s4]) (by
    rw [w_paired_2, exS]
    simp [evI, evEs, evE, args1, hasBo, rT, items]
    exact l1)]
  simp [exSs, exS, evE, evEs, args1, evBlt, rT, hh]
theorem paired_step_ok {n m D1 N1 D2 N2 : Nat} {T U : Nat → Nat → Rat} (hn : n ≤ 100) (hm : m ≤ 100) (hf : ∀ i j, i < n → j < n → Fit D1 N1 (T i j)) (hg : ∀ i j, i < m → j < m → Fit D2 N2 (U i j)) (h1 : D1 * D2 < 2 ^ 9000) (h2 : N1 < 2 ^ 180000) (h3 : N2 < 2 ^ 180000) :
    m_paired_step [sT n n T, sT m m U] = .ok (sT (n * m) (n * m) fun i j => T (i / m) (j / m) * U (i % m) (j % m), false) := by
  refine mir_ret ?_
  unfold b_paired_step
  obtain ⟨h, hh⟩ : ∃ h : Nat → D, (fun i => rT (n * m) fun j => T (i / m) (j / m) * U (i % m) (j % m)) = h := ⟨_, rfl⟩
  obtain ⟨S', l1, s3, s4, l2⟩ := for_tab (f := exSs fuel wb_paired_step_2) (tg := fun S d => some (S.set 3 (.sh d))) (fun a S => ∃ s3 s4, S = [.sh (sT n n T), .sh (sT m m U), .ow ((List.range (a * m)).map h), s3, s4]) (fun i => rT n (T i)) (n := n) (S := [.sh (sT n n T), .sh (sT m m U), .ow [], .no, .no]) ⟨.no, .no, by rw [Nat.zero_mul]; rfl⟩ (by
    rintro a S ha ⟨s3, s4, rfl⟩
    obtain ⟨S'', i1, s4', i2⟩ := for_tab (f := exSs fuel wb_paired_step_1) (tg := fun S d => some (S.set 4 (.sh d))) (fun b S => ∃ s4, S = [.sh (sT n n T), .sh (sT m m U), .ow ((List.range (a * m + b)).map h), .sh (rT n (T a)), s4]) (fun i => rT m (U i)) (n := m) (S := [.sh (sT n n T), .sh (sT m m U), .ow ((List.range (a * m)).map h), .sh (rT n (T a)), s4]) ⟨s4, rfl⟩ (by
      rintro b S hb ⟨s4, rfl⟩
      refine ⟨_, [.sh (sT n n T), .sh (sT m m U), .ow ((List.range (a * m + (b + 1))).map h), .sh (rT n (T a)), .sh (rT m (U b))], rfl, ?_, _, rfl⟩
      have e1 := paired_ok hn hm (fun i hi => hf a i ha hi) (fun i hi => hg b i hb hi) h1 h2 h3
      have e2 : (rT (n * m) fun i => T a (i / m) * U b (i % m)) = h (a * m + b) := by
        rw [← hh]
        show _ = rT (n * m) fun j => T ((a * m + b) / m) (j / m) * U ((a * m + b) % m) (j % m)
        rw [(pair_div hb).1, (pair_div hb).2]
      rw [e2] at e1
      have hlt : a * m + b < 16777216 := by
        have : a * m ≤ 100 * 100 := Nat.mul_le_mul (by omega) hm
        omega
      rw [← Nat.add_assoc, List.range_succ, List.map_append]
      simp [wb_paired_step_1, exSs, exS, evE, evEs, args1, hasBo, e1, hlt])
    subst i2
    refine ⟨_, [.sh (sT n n T), .sh (sT m m U), .ow ((List.range ((a + 1) * m)).map h), .sh (rT n (T a)), s4'], rfl, ?_, _, _, rfl⟩
    rw [wb_paired_step_2, ss_go (S1 := [.sh (sT n n T), .sh (sT m m U), .ow ((List.range ((a + 1) * m)).map h), .sh (rT n (T a)), s4']) (by
      rw [w_paired_step_1, exS]
      simp [evI, evEs, evE, args1, hasBo, sT, items]
      rw [Nat.add_mul, Nat.one_mul]
      exact i1)]
    rw [exSs])
  subst l2
  rw [ss_go (S1 := [.sh (sT n n T), .sh (sT m m U), .ow [], .no, .no]) (by simp [exS, evE, evEs, hasBo, args1]), ss_go (S1 := [.sh (sT n n T), .sh (sT m m U), .ow ((List.range (n * m)).map h), s3, s4]) (by
    rw [w_paired_step_2, exS]
    simp [evI, evEs, evE, args1, hasBo, sT, items]
    exact l1)]
  simp [exSs, exS, evE, evEs, args1, evBlt, sT, ← hh]
/-- sizes of a machine's numbers -/
structure MFit (m : Mac) (D0 N0 E M Dl Nl : Nat) : Prop where
  F : ∀ i, i < m.n → Fit D0 N0 (m.F i)
  T : ∀ s a b, s < m.k → a < m.n → b < m.n → Fit E M (m.T s a b)
  L : ∀ i, i < m.n → Fit Dl Nl (m.L i)
theorem MFit.drawn (c : Int) (n k : Nat) : MFit (drawn c n k) 6 24 6 24 6 24 := ⟨fun i _ => drawn_F c n k i, fun s a b _ _ _ => drawn_T c n k s a b, fun i _ => drawn_L c n k i⟩
theorem div_lt {i n m : Nat} (h : i < n * m) : i / m < n ∧ i % m < m := by
  have hm : 0 < m := by
    rcases Nat.eq_zero_or_pos m with e | e
    · subst e; rw [Nat.mul_zero] at h; omega
    · exact e
  exact ⟨(Nat.div_lt_iff_lt_mul hm).mpr h, Nat.mod_lt _ hm⟩
theorem MFit.prod {p q : Mac} {D N E M A B D' N' E' M' A' B' : Nat} (hp : MFit p D N E M A B) (hq : MFit q D' N' E' M' A' B') (hk : p.k = q.k) : MFit (p.prod q) (D * D') (N * N') (E * E') (M * M') (A * A') (B * B') :=
  ⟨fun i hi => (hp.F _ (div_lt hi).1).mul (hq.F _ (div_lt hi).2), fun s a b hs ha hb => (hp.T s _ _ hs (div_lt ha).1 (div_lt hb).1).mul (hq.T s _ _ (by rw [← hk]; exact hs) (div_lt ha).2 (div_lt hb).2), fun i hi => (hp.L _ (div_lt hi).1).mul (hq.L _ (div_lt hi).2)⟩
theorem product_ok {p q : Mac} {D N E M A B D' N' E' M' A' B' : Nat} (hk : p.k = q.k) (hn : p.n * q.n ≤ 24) (hpn : p.n ≤ 100) (hqn : q.n ≤ 100) (hpk : p.k ≤ 100) (hp : MFit p D N E M A B) (hq : MFit q D' N' E' M' A' B')
    (h1 : D * D' < 2 ^ 9000) (h2 : E * E' < 2 ^ 9000) (h3 : A * A' < 2 ^ 9000) (h4 : N < 2 ^ 180000) (h5 : N' < 2 ^ 180000) (h6 : M < 2 ^ 180000) (h7 : M' < 2 ^ 180000) (h8 : B < 2 ^ 180000) (h9 : B' < 2 ^ 180000) :
    m_product [macD p, macD q] = .ok (macD (p.prod q), false) := by
  have e1 := see_signs_ok hk
  have e2 := see_rooms_ok hn
  have e3 := paired_ok hpn hqn hp.F hq.F h1 h4 h5
  have e4 := paired_ok hpn hqn hp.L hq.L h3 h8 h9
  have e5 : evE c_product_1 [.sh (macD p), .sh (macD q), .no, .no] = .ok (.lst ((List.range p.k).map fun s => sT (p.n * q.n) (p.n * q.n) ((p.prod q).T s)), .fr) := by
    rw [c_product_1, ev_comp (n := p.k) (rs := [(.int p.k, .sh)]) (fun j : Nat => MP.D.int j) (fun s => sT (p.n * q.n) (p.n * q.n) ((p.prod q).T s)) (by simp [evEs, evE, args1, mac_1, steps_len]) (by simp [hasBo]) (by simp only [args1, List.map]; exact items_rng p.k (by omega)) (by omega) (fun s hs => ⟨.sh, by decide, by
      have e := paired_step_ok hpn hqn (fun i j => hp.T s i j hs) (fun i j => hq.T s i j (by omega)) h2 h6 h7
      have hs' : s < q.k := by omega
      simp [ce_product_1, evE, evEs, args1, hasBo, mac_1, mac_s hs, mac_s hs', e]
      rfl⟩)]
  have m1 : evBin .mul (.int p.n) (.int q.n) = .ok (.int ((p.n * q.n : Nat) : Int), .sh) := by
    rw [Int.natCast_mul]; exact ev_mul64 (by omega)
  refine mir_ret ?_
  unfold b_product
  show exSs fuel _ [.sh (macD p), .sh (macD q), .no, .no] = _
  rw [ss_go (S1 := [.sh (macD p), .sh (macD q), .no, .no]) (by simp [exS, evE, evEs, args1, hasBo, e1]),
    ss_go (S1 := [.sh (macD p), .sh (macD q), .no, .no]) (by simp only [exS, evE, evEs, List.getElem?_cons_zero, List.getElem?_cons_succ, Res.bind, mac_0, args1, List.map, rT_len, m1, e2, hasBo, List.any, bindS_ok]; simp),
    ss_go (S1 := [.sh (macD p), .sh (macD q), .sh (.tup ((List.range p.k).map fun s => sT (p.n * q.n) (p.n * q.n) ((p.prod q).T s))), .no]) (by
      rw [exS, evE, evEs, e5]
      simp [evEs, args1, evBlt])]
  simp [exSs, exS, evE, evEs, args1, hasBo, mac_0, mac_2, e3, e4]
  rfl
/-! what the laws look at in a machine -/
theorem proper_row_ok {n : Nat} {f : Nat → Rat} {D N : Nat} (h : ∀ i, i < n → Fit D N (f i)) (hD : D < 2 ^ 9000) : m_law_proper_row [rT n f, .int n] = .ok (.bl true, false) := by
  refine mir_ret ?_
  unfold b_law_proper_row
  obtain ⟨S', l1, s2, l2⟩ := for_tab (f := exSs fuel wb_law_proper_row_1) (tg := fun S d => some (S.set 2 (.sh d))) (fun j S => ∃ s2, S = [.sh (rT n f), .sh (.int n), s2]) (fun i => fr (f i)) (n := n) (S := [.sh (rT n f), .sh (.int n), .no]) ⟨.no, rfl⟩ (by
    rintro j S hj ⟨s2, rfl⟩
    have e := proper_ok (f j) (Nat.lt_of_le_of_lt (h j hj).den_le hD)
    refine ⟨_, [.sh (rT n f), .sh (.int n), .sh (fr (f j))], rfl, ?_, _, rfl⟩
    simp [wb_law_proper_row_1, exSs, exS, evE, evEs, args1, hasBo, e])
  subst l2
  have e4 : evIs (rT n f) .tuple = .ok (.bl true, .sh) := rfl
  rw [ss_go (S1 := [.sh (rT n f), .sh (.int n), .no]) (by simp [exSs, exS, evE, evEs, args1, e4, rT_len, hasBo]), ss_go (S1 := [.sh (rT n f), .sh (.int n), s2]) (by
    rw [w_law_proper_row_1, exS]
    simp [evI, evEs, evE, args1, hasBo, rT, items]
    exact l1)]
  simp [exSs, exS, evE]
theorem is_machine_ok {m : Mac} {D0 N0 E M Dl Nl : Nat} (h : MFit m D0 N0 E M Dl Nl) (h1 : D0 < 2 ^ 9000) (h2 : E < 2 ^ 9000) (h3 : Dl < 2 ^ 9000) : m_law_is_machine [macD m, .int m.n, .int m.k] = .ok (.bl true, false) := by
  refine mir_ret ?_
  unfold b_law_is_machine
  have p1 := proper_row_ok h.F h1
  have p2 := proper_row_ok h.L h3
  obtain ⟨S', l1, s3, s4, l2⟩ := for_tab (f := exSs fuel wb_law_is_machine_2) (tg := fun S d => some (S.set 3 (.sh d))) (fun j S => ∃ s3 s4, S = [.sh (macD m), .sh (.int m.n), .sh (.int m.k), s3, s4]) (fun s => sT m.n m.n (m.T s)) (n := m.k) (S := [.sh (macD m), .sh (.int m.n), .sh (.int m.k), .no, .no]) ⟨.no, .no, rfl⟩ (by
    rintro s S hs ⟨s3, s4, rfl⟩
    obtain ⟨S'', i1, s4', i2⟩ := for_tab (f := exSs fuel wb_law_is_machine_1) (tg := fun S d => some (S.set 4 (.sh d))) (fun b S => ∃ s4, S = [.sh (macD m), .sh (.int m.n), .sh (.int m.k), .sh (sT m.n m.n (m.T s)), s4]) (fun a => rT m.n (m.T s a)) (n := m.n) (S := [.sh (macD m), .sh (.int m.n), .sh (.int m.k), .sh (sT m.n m.n (m.T s)), s4]) ⟨s4, rfl⟩ (by
      rintro a S ha ⟨s4, rfl⟩
      have e := proper_row_ok (fun i hi => h.T s a i hs ha hi) h2
      refine ⟨_, [.sh (macD m), .sh (.int m.n), .sh (.int m.k), .sh (sT m.n m.n (m.T s)), .sh (rT m.n (m.T s a))], rfl, ?_, _, rfl⟩
      simp [wb_law_is_machine_1, exSs, exS, evE, evEs, args1, hasBo, e])
    subst i2
    refine ⟨_, [.sh (macD m), .sh (.int m.n), .sh (.int m.k), .sh (sT m.n m.n (m.T s)), s4'], rfl, ?_, _, _, rfl⟩
    have e4 : evIs (sT m.n m.n (m.T s)) .tuple = .ok (.bl true, .sh) := rfl
    rw [wb_law_is_machine_2, ss_go (S1 := [.sh (macD m), .sh (.int m.n), .sh (.int m.k), .sh (sT m.n m.n (m.T s)), s4]) (by simp [exSs, exS, evE, evEs, args1, e4, sT_len, hasBo]), ss_go (S1 := [.sh (macD m), .sh (.int m.n), .sh (.int m.k), .sh (sT m.n m.n (m.T s)), s4']) (by
      rw [w_law_is_machine_1, exS]
      simp [evI, evEs, evE, args1, hasBo, sT, items]
      exact i1)]
    rw [exSs])
  subst l2
  have e4 : evIs (macD m) .tuple = .ok (.bl true, .sh) := rfl
  have e5 : evBlt .len [macD m] = .ok (.int 3, .sh) := rfl
  rw [ss_go (S1 := [.sh (macD m), .sh (.int m.n), .sh (.int m.k), .no, .no]) (by simp [exSs, exS, evE, evEs, args1, e4, e5, mac_1, hasBo, evIsi]),
    ss_go (S1 := [.sh (macD m), .sh (.int m.n), .sh (.int m.k), .no, .no]) (by simp [exSs, exS, evE, evEs, args1, mac_0, mac_2, p1, p2, hasBo]),
    ss_go (S1 := [.sh (macD m), .sh (.int m.n), .sh (.int m.k), .no, .no]) (by simp [exSs, exS, evE, evEs, args1, mac_1, steps_len]),
    ss_go (S1 := [.sh (macD m), .sh (.int m.n), .sh (.int m.k), s3, s4]) (by
      rw [w_law_is_machine_2, exS]
      simp [evI, evEs, evE, args1, hasBo, mac_1, items]
      exact l1)]
  simp [exSs, exS, evE]
end MP
set_option Elab.async false
set_option linter.all false
set_option maxRecDepth 100000
set_option maxHeartbeats 4000000
namespace MP
open PySem PySem.Spec PyProof.Rows L2 WM
/-! making.py: sums, multiples, turned, chains -/
theorem mir_exc {s n : Nat} {b : List MS} {ds : List D} {c : Str} {S1 : List SV} (h : exSs n b (ds.map SV.sh ++ List.replicate (s - ds.length) SV.no) = .exc c S1) : mirror s n b ds = .exc c := by
  unfold mirror; rw [hide_eq, h]
theorem mir_nx {s n : Nat} {b : List MS} {ds : List D} {S1 : List SV} (h : exSs n b (ds.map SV.sh ++ List.replicate (s - ds.length) SV.no) = .nx S1) : mirror s n b ds = .ok (.non, false) := by
  unfold mirror; rw [hide_eq, h]
theorem blt_tl (xs : List D) : evBlt .tuple [.lst xs] = .ok (.tup xs, .sh) := rfl
theorem blt_tt (xs : List D) : evBlt .tuple [.tup xs] = .ok (.tup xs, .sh) := rfl
theorem blt_lt (xs : List D) : evBlt .list [.tup xs] = .ok (.lst xs, .fr) := rfl
theorem blt_ll (xs : List D) : evBlt .list [.lst xs] = .ok (.lst xs, .fr) := rfl
theorem map_cat {α : Type} (n m : Nat) (h : Nat → α) : (List.range (n + m)).map h = (List.range n).map h ++ (List.range m).map fun i => h (n + i) := by
  rw [List.range_add, List.map_append, List.map_map]; rfl
theorem tabs_cat (n m : Nat) (f g : Nat → Rat) : tabs (n + m) (Mac.cat n f g) = tabs n f ++ tabs m g := by
  unfold tabs
  rw [map_cat]
  congr 1
  · exact List.map_congr_left fun i hi => by rw [Mac.cat_lo (List.mem_range.mp hi)]
  · exact List.map_congr_left fun i _ => by rw [Mac.cat_hi]
theorem ev_addR {n m : Nat} (f g : Nat → Rat) (h : n + m ≤ 16777216) : evBin .add (rT n f) (rT m g) = .ok (rT (n + m) (Mac.cat n f g), .sh) := by
  have h' : (tabs n f).length + (tabs m g).length ≤ 16777216 := by rw [tabs_len, tabs_len]; exact h
  simp only [rT, evBin, h', if_true, tabs_cat]
theorem noughts_ok {n : Nat} (hn : n ≤ 16777216) : m_noughts [.int n] = .ok (rT n Mac.zero, false) := by
  have e : evE c_noughts_1 [.sh (.int n), .no] = .ok (rL n Mac.zero, .fr) := by
    rw [c_noughts_1, ev_comp (n := n) (rs := [(.int n, .sh)]) (fun j : Nat => MP.D.int j) (fun _ => fr 0) (by simp [evEs, evE]) (by simp [hasBo]) (by simp only [args1, List.map]; exact items_rng n (by omega)) hn (fun s hs => ⟨.sh, by decide, by simp [ce_noughts_1, evE, fr_zero]⟩)]
    rfl
  refine mir_ret ?_
  unfold b_noughts
  show exSs fuel _ [.sh (.int n), .no] = _
  simp [exSs, exS, evE, evEs, e, args1, ev_tupleL]
def sideT (n : Nat) (T U : Nat → Nat → Rat) : Nat → Nat → Rat := fun a => if a < n then Mac.cat n (T a) Mac.zero else Mac.cat n Mac.zero (U (a - n))
theorem side_rows (n m : Nat) (T U : Nat → Nat → Rat) : ((List.range n).map fun a => rT (n + m) (Mac.cat n (T a) Mac.zero)) ++ ((List.range m).map fun a => rT (n + m) (Mac.cat n Mac.zero (U a))) = (List.range (n + m)).map fun a => rT (n + m) (sideT n T U a) := by
  rw [map_cat]
  congr 1
  · exact List.map_congr_left fun i hi => by unfold sideT; rw [if_pos (List.mem_range.mp hi)]
  · exact List.map_congr_left fun i _ => by unfold sideT; rw [if_neg (by omega), Nat.add_sub_cancel_left]
theorem side_ok {n m : Nat} (T U : Nat → Nat → Rat) (hn : n ≤ 1000) (hm : m ≤ 1000) : m_side_by_side [sT n n T, sT m m U] = .ok (sT (n + m) (n + m) (sideT n T U), false) := by
  have nn := noughts_ok (n := n) (by omega)
  have nm := noughts_ok (n := m) (by omega)
  have e1 : evE c_side_by_side_1 [.sh (sT n n T), .sh (sT m m U), .no, .no] = .ok (.lst ((List.range n).map fun a => rT (n + m) (Mac.cat n (T a) Mac.zero)), .fr) := by
    rw [c_side_by_side_1, ev_comp (n := n) (rs := [(sT n n T, .sh)]) (fun a => rT n (T a)) (fun a => rT (n + m) (Mac.cat n (T a) Mac.zero)) (by simp [evEs, evE]) (by simp [hasBo]) (by simp [args1, sT, items]) (by omega) (fun a ha => ⟨.sh, by decide, by
      simp [ce_side_by_side_1, evE, evEs, args1, sT_len, nm, hasBo, ev_addR (n := n) (m := m) (T a) Mac.zero (by omega)]⟩)]
  have e2 : evE c_side_by_side_2 [.sh (sT n n T), .sh (sT m m U), .sh (.lst ((List.range n).map fun a => rT (n + m) (Mac.cat n (T a) Mac.zero))), .no] = .ok (.lst ((List.range m).map fun a => rT (n + m) (Mac.cat n Mac.zero (U a))), .fr) := by
    rw [c_side_by_side_2, ev_comp (n := m) (rs := [(sT m m U, .sh)]) (fun a => rT m (U a)) (fun a => rT (n + m) (Mac.cat n Mac.zero (U a))) (by simp [evEs, evE]) (by simp [hasBo]) (by simp [args1, sT, items]) (by omega) (fun a ha => ⟨.sh, by decide, by
      simp [ce_side_by_side_2, evE, evEs, args1, sT_len, nn, hasBo, ev_addR (n := n) (m := m) Mac.zero (U a) (by omega)]⟩)]
  have hl : n + m ≤ 16777216 := by omega
  refine mir_ret ?_
  unfold b_side_by_side
  show exSs fuel _ [.sh (sT n n T), .sh (sT m m U), .no, .no] = _
  rw [ss_go (S1 := [.sh (sT n n T), .sh (sT m m U), .sh (.lst ((List.range n).map fun a => rT (n + m) (Mac.cat n (T a) Mac.zero))), .no]) (by simp [exS, e1])]
  simp [exSs, exS, evE, evEs, e2, evBin, hl, args1, evBlt, side_rows]
  rfl
theorem added_ok {p q : Mac} (hk : p.k = q.k) (hn : p.n + q.n ≤ 24) (hpk : p.k ≤ 100) : m_added [macD p, macD q] = .ok (macD (p.sum q), false) := by
  have e1 := see_signs_ok hk
  have e2 := see_rooms_ok hn
  rw [Int.natCast_add] at e2
  have e5 : evE c_added_1 [.sh (macD p), .sh (macD q), .no, .no] = .ok (.lst ((List.range p.k).map fun s => sT (p.n + q.n) (p.n + q.n) ((p.sum q).T s)), .fr) := by
    rw [c_added_1, ev_comp (n := p.k) (rs := [(.int p.k, .sh)]) (fun j : Nat => MP.D.int j) (fun s => sT (p.n + q.n) (p.n + q.n) ((p.sum q).T s)) (by simp [evEs, evE, args1, mac_1, steps_len]) (by simp [hasBo]) (by simp only [args1, List.map]; exact items_rng p.k (by omega)) (by omega) (fun s hs => ⟨.sh, by decide, by
      have e := side_ok (n := p.n) (m := q.n) (p.T s) (q.T s) (by omega) (by omega)
      have hs' : s < q.k := by omega
      simp [ce_added_1, evE, evEs, args1, hasBo, mac_1, mac_s hs, mac_s hs', e]
      rfl⟩)]
  refine mir_ret ?_
  unfold b_added
  show exSs fuel _ [.sh (macD p), .sh (macD q), .no, .no] = _
  rw [ss_go (S1 := [.sh (macD p), .sh (macD q), .no, .no]) (by simp [exS, evE, evEs, args1, hasBo, e1]),
    ss_go (S1 := [.sh (macD p), .sh (macD q), .no, .no]) (by simp [exS, evE, evEs, mac_0, args1, rT_len, e2, hasBo]),
    ss_go (S1 := [.sh (macD p), .sh (macD q), .sh (.tup ((List.range p.k).map fun s => sT (p.n + q.n) (p.n + q.n) ((p.sum q).T s))), .no]) (by
      rw [exS, evE, evEs, e5]
      simp [evEs, args1, evBlt])]
  simp [exSs, exS, evE, evEs, args1, hasBo, mac_0, mac_2, ev_addR (n := p.n) (m := q.n) p.F q.F (by omega), ev_addR (n := p.n) (m := q.n) p.L q.L (by omega)]
  rfl
theorem MFit.sum {p q : Mac} {D N E M A B : Nat} (hD : 0 < D) (hE : 0 < E) (hA : 0 < A) (hp : MFit p D N E M A B) (hq : MFit q D N E M A B) (hk : p.k = q.k) : MFit (p.sum q) D N E M A B := by
  have c : ∀ {D N : Nat} {f g : Nat → Rat} {i : Nat}, 0 < D → (i < p.n → Fit D N (f i)) → (∀ j, i = p.n + j → Fit D N (g j)) → Fit D N (Mac.cat p.n f g i) := by
    intro D N f g i h0 h1 h2
    by_cases h : i < p.n
    · rw [Mac.cat_lo h]; exact h1 h
    · obtain ⟨j, rfl⟩ : ∃ j, i = p.n + j := ⟨i - p.n, by omega⟩
      rw [Mac.cat_hi]; exact h2 j rfl
  refine ⟨fun i hi => c hD (fun h => hp.F i h) (fun j e => hq.F j (by have : i < p.n + q.n := hi; omega)), fun s a b hs ha hb => ?_, fun i hi => c hA (fun h => hp.L i h) (fun j e => hq.L j (by have : i < p.n + q.n := hi; omega))⟩
  have ha' : a < p.n + q.n := ha
  have hb' : b < p.n + q.n := hb
  have hs' : s < p.k := hs
  show Fit E M ((if a < p.n then Mac.cat p.n (p.T s a) Mac.zero else Mac.cat p.n Mac.zero (q.T s (a - p.n))) b)
  split
  · rename_i h
    exact c hE (fun h2 => hp.T s a b hs' h h2) (fun j e => Fit.zero hE)
  · rename_i h
    exact c hE (fun h2 => Fit.zero hE) (fun j e => hq.T s _ j (by omega) (by omega) (by omega))
theorem scaled_ok {m : Mac} {c : Rat} {D N E M A B Dc Nc : Nat} (hn : m.n ≤ 1000) (h : MFit m D N E M A B) (hc : Fit Dc Nc c) (h1 : D * Dc < 2 ^ 9000) (h2 : N < 2 ^ 180000) (h3 : Nc < 2 ^ 180000) : m_scaled [macD m, fr c] = .ok (macD (m.scale c), false) := by
  have e : evE c_scaled_1 [.sh (macD m), .sh (fr c), .no] = .ok (rL m.n (m.scale c).F, .fr) := by
    rw [c_scaled_1, ev_comp (n := m.n) (rs := [(rT m.n m.F, .sh)]) (fun i => fr (m.F i)) (fun i => fr ((m.scale c).F i)) (by simp [evEs, evE, mac_0]) (by simp [hasBo]) (by simp [args1, rT, tabs, items]) (by omega) (fun i hi => ⟨.sh, by decide, by
      have e := times_fit (h.F i hi) hc h1 h2 h3
      simp [ce_scaled_1, evE, evEs, args1, hasBo, e]
      rfl⟩)]
    rfl
  refine mir_ret ?_
  unfold b_scaled
  show exSs fuel _ [.sh (macD m), .sh (fr c), .no] = _
  simp [exSs, exS, evE, evEs, args1, hasBo, e, ev_tupleL, mac_1, mac_2]
  rfl
theorem MFit.scale {m : Mac} {c : Rat} {D N E M A B Dc Nc : Nat} (h : MFit m D N E M A B) (hc : Fit Dc Nc c) : MFit (m.scale c) (D * Dc) (N * Nc) E M A B :=
  ⟨fun i hi => (h.F i hi).mul hc, h.T, h.L⟩
theorem turned_ok {m : Mac} (hn : m.n ≤ 1000) (hk : m.k ≤ 1000) : m_turned [macD m] = .ok (macD m.turn, false) := by
  obtain ⟨S', l1, s2, s3, l2⟩ := for_tab (f := exSs fuel wb_turned_1) (tg := fun S d => some (S.set 2 (.sh d))) (fun j S => ∃ s2 s3, S = [.sh (macD m), .ow ((List.range j).map fun s => sT m.n m.n (m.turn.T s)), s2, s3]) (fun s => sT m.n m.n (m.T s)) (n := m.k) (S := [.sh (macD m), .ow [], .no, .no]) ⟨.no, .no, rfl⟩ (by
    rintro j S hj ⟨s2, s3, rfl⟩
    refine ⟨_, [.sh (macD m), .ow ((List.range (j + 1)).map fun s => sT m.n m.n (m.turn.T s)), .sh (sT m.n m.n (m.T j)), s3], rfl, ?_, _, _, rfl⟩
    have e : evE c_turned_1 [.sh (macD m), .ow ((List.range j).map fun s => sT m.n m.n (m.turn.T s)), .sh (sT m.n m.n (m.T j)), s3] = .ok (.lst ((List.range m.n).map fun b => rT m.n (m.turn.T j b)), .fr) := by
      rw [c_turned_1, ev_comp (n := m.n) (rs := [(.int m.n, .sh)]) (fun j : Nat => MP.D.int j) (fun b => rT m.n (m.turn.T j b)) (by simp [evEs, evE, args1, sT_len]) (by simp [hasBo]) (by simp only [args1, List.map]; exact items_rng m.n (by omega)) (by omega) (fun b hb => ⟨.sh, by decide, by
        have e := column_ok (n := m.n) (m := m.n) (T := m.T j) hb (by omega)
        simp [ce_turned_1, evE, evEs, args1, hasBo, e, ev_tupleL]
        rfl⟩)]
    have hlt : j < 16777216 := by omega
    simp [wb_turned_1, exSs, exS, evE, evEs, args1, hasBo, e, evBlt, hlt, List.range_succ]
    rfl)
  subst l2
  refine mir_ret ?_
  unfold b_turned
  show exSs fuel _ [.sh (macD m), .no, .no, .no] = _
  rw [ss_go (S1 := [.sh (macD m), .ow [], .no, .no]) (by simp [exS, evE, evEs, hasBo, args1]), ss_go (S1 := [.sh (macD m), .ow ((List.range m.k).map fun s => sT m.n m.n (m.turn.T s)), s2, s3]) (by
    rw [w_turned_1, exS]
    simp [evI, evEs, evE, args1, hasBo, mac_1, items]
    exact l1)]
  simp [exSs, exS, evE, evEs, args1, hasBo, mac_0, mac_2, evBlt]
  rfl
theorem MFit.turn {m : Mac} {D N E M A B : Nat} (h : MFit m D N E M A B) : MFit m.turn A B E M D N := ⟨h.L, fun s a b hs ha hb => h.T s b a hs hb ha, h.F⟩
/-! chains -/
theorem wt_nil (m : Mac) : m.wt [] = sm m.n fun i => m.F i * m.L i := rfl
def hopT (p : Mac) (s : Nat) (G : Nat → Rat) : Nat → Nat → Rat := fun a => Mac.cat p.n (p.T s a) fun i => p.hop s a * G i
theorem times_row {n : Nat} {c : Rat} {g : Nat → Rat} {S : List SV} {D1 N1 D2 N2 : Nat} (i : Nat) (e : ME) (k : Nat) (hk : k < S.length) (hik : i ≠ k) (hi : i < S.length) (hS : S[k]? = some (.sh (fr c))) (hn : n ≤ 16777216) (he : evE e S = .ok (rT n g, .sh))
    (hc : Fit D1 N1 c) (hg : ∀ j, j < n → Fit D2 N2 (g j)) (h1 : D1 * D2 < 2 ^ 9000) (h2 : N1 < 2 ^ 180000) (h3 : N2 < 2 ^ 180000) :
    evE (.comp (.call "times" m_times [.loc k, .loc i]) i .val [e]) S = .ok (rL n fun j => c * g j, .fr) := by
  rw [ev_comp (n := n) (rs := [(rT n g, .sh)]) (fun j => fr (g j)) (fun j => fr (c * g j)) (by simp [evEs, he]) (by simp [hasBo]) (by simp [args1, rT, tabs, items]) hn (fun j hj => ⟨.sh, by decide, by
    have e1 := times_fit hc (hg j hj) h1 h2 h3
    have e2 : (S.set i (.sh (fr (g j))))[k]? = some (.sh (fr c)) := by rw [List.getElem?_set_ne hik]; exact hS
    have e3 : (S.set i (.sh (fr (g j))))[i]? = some (.sh (fr (g j))) := by rw [List.getElem?_set_self hi]
    simp only [evE, evEs, e2, e3, Res.bind, args1, List.map, e1, hasBo, List.any]
    simp⟩)]
  rfl
/-- sizes at which a chain is built -/
structure ChainFit (p q : Mac) (D N E M A B D' N' : Nat) : Prop where
  c1 : Cap p.n D N A B
  c2 : Cap p.n E M A B
  d1 : (D * A) * D' < 2 ^ 9000
  d2 : (E * A) * D' < 2 ^ 9000
  n1 : p.n * (N * B) < 2 ^ 180000
  n2 : p.n * (M * B) < 2 ^ 180000
  n3 : N' < 2 ^ 180000
theorem hop_fit {p : Mac} {D N E M A B : Nat} (hE : 0 < E) (hA : 0 < A) (h : MFit p D N E M A B) {s a : Nat} (hs : s < p.k) (ha : a < p.n) : Fit (E * A) (p.n * (M * B)) (p.hop s a) := sm_fit (Nat.mul_pos hE hA) fun c hc => (h.T s a c hs ha hc).mul (h.L c hc)
theorem wt0_fit {p : Mac} {D N E M A B : Nat} (hD : 0 < D) (hA : 0 < A) (h : MFit p D N E M A B) : Fit (D * A) (p.n * (N * B)) (p.wt []) := sm_fit (Nat.mul_pos hD hA) fun c hc => (h.F c hc).mul (h.L c hc)
theorem chained_step_ok {p q : Mac} {s : Nat} {D N E M A B D' N' E' M' A' B' : Nat} (hE : 0 < E) (hA : 0 < A) (hs : s < p.k) (hs' : s < q.k) (hpn : p.n ≤ 100) (hqn : q.n ≤ 100) (hp : MFit p D N E M A B) (hq : MFit q D' N' E' M' A' B') (c : ChainFit p q D N E M A B D' N') :
    m_chained_step [sT p.n p.n (p.T s), rT p.n p.L, sT q.n q.n (q.T s), rT q.n q.F] = .ok (sT (p.n + q.n) (p.n + q.n) ((p.chain q).T s), false) := by
  obtain ⟨h, hh⟩ : ∃ h : Nat → MP.D, (fun a => rT (p.n + q.n) ((p.chain q).T s a)) = h := ⟨_, rfl⟩
  have h1 : ∀ a, a < p.n → h a = rT (p.n + q.n) (Mac.cat p.n (p.T s a) fun i => p.hop s a * q.F i) := fun a ha => by
    rw [← hh]
    show rT _ (if a < p.n then _ else _) = _
    rw [if_pos ha]
  have h2 : ∀ a, h (p.n + a) = rT (p.n + q.n) (Mac.cat p.n Mac.zero (q.T s a)) := fun a => by
    rw [← hh]
    show rT _ (if p.n + a < p.n then _ else _) = _
    rw [if_neg (by omega), Nat.add_sub_cancel_left]
  obtain ⟨S', l1, s5, s6, l2⟩ := for_rng (f := exSs fuel wb_chained_step_1) (tg := fun S d => some (S.set 5 (.sh d))) (fun j S => ∃ s5 s6, S = [.sh (sT p.n p.n (p.T s)), .sh (rT p.n p.L), .sh (sT q.n q.n (q.T s)), .sh (rT q.n q.F), .ow ((List.range j).map h), s5, s6, .no, .no]) (n := p.n) (S := [.sh (sT p.n p.n (p.T s)), .sh (rT p.n p.L), .sh (sT q.n q.n (q.T s)), .sh (rT q.n q.F), .ow [], .no, .no, .no, .no]) ⟨.no, .no, rfl⟩ (by
    rintro a S ha ⟨s5, s6, rfl⟩
    refine ⟨_, [.sh (sT p.n p.n (p.T s)), .sh (rT p.n p.L), .sh (sT q.n q.n (q.T s)), .sh (rT q.n q.F), .ow ((List.range (a + 1)).map h), .sh (.int a), .sh (fr (p.hop s a)), .no, .no], rfl, ?_, _, _, rfl⟩
    have e1 : m_dot [rT p.n (p.T s a), rT p.n p.L] = .ok (fr (p.hop s a), false) := dot_ok (xs := []) (rT_sq _ _) (rT_sq _ _) (fun i hi => tabs_get hi) c.c2 (by omega) (fun i hi => hp.T s a i hs ha hi) hp.L
    have e2 := times_row (n := q.n) (c := p.hop s a) (g := q.F) (S := [.sh (sT p.n p.n (p.T s)), .sh (rT p.n p.L), .sh (sT q.n q.n (q.T s)), .sh (rT q.n q.F), .ow ((List.range a).map h), .sh (.int a), .sh (fr (p.hop s a)), .no, .no]) 8 (.loc 3) 6 (by simp) (by decide) (by simp) (by simp) (by omega) (by simp [evE]) (hop_fit hE hA hp hs ha) hq.F c.d2 c.n2 c.n3
    have e2 : evE c_chained_step_1 [.sh (sT p.n p.n (p.T s)), .sh (rT p.n p.L), .sh (sT q.n q.n (q.T s)), .sh (rT q.n q.F), .ow ((List.range a).map h), .sh (.int a), .sh (fr (p.hop s a)), .no, .no] = _ := e2
    have hlt : a < 16777216 := by omega
    rw [List.range_succ, List.map_append, List.map_cons, List.map_nil, h1 a ha]
    simp [wb_chained_step_1, exSs, exS, evE, evEs, args1, hasBo, sT_get ha, e1, e2, ev_tupleL, ev_addR (n := p.n) (m := q.n) _ _ (show p.n + q.n ≤ 16777216 by omega), hlt])
  subst l2
  have nn := noughts_ok (n := p.n) (by omega)
  obtain ⟨S'', i1, s7, i2⟩ := for_tab (f := exSs fuel wb_chained_step_2) (tg := fun S d => some (S.set 7 (.sh d))) (fun j S => ∃ s7, S = [.sh (sT p.n p.n (p.T s)), .sh (rT p.n p.L), .sh (sT q.n q.n (q.T s)), .sh (rT q.n q.F), .ow ((List.range (p.n + j)).map h), s5, s6, s7, .no]) (fun a => rT q.n (q.T s a)) (n := q.n) (S := [.sh (sT p.n p.n (p.T s)), .sh (rT p.n p.L), .sh (sT q.n q.n (q.T s)), .sh (rT q.n q.F), .ow ((List.range p.n).map h), s5, s6, .no, .no]) ⟨.no, rfl⟩ (by
    rintro a S ha ⟨s7, rfl⟩
    refine ⟨_, [.sh (sT p.n p.n (p.T s)), .sh (rT p.n p.L), .sh (sT q.n q.n (q.T s)), .sh (rT q.n q.F), .ow ((List.range (p.n + (a + 1))).map h), s5, s6, .sh (rT q.n (q.T s a)), .no], rfl, ?_, _, rfl⟩
    have hlt : p.n + a < 16777216 := by omega
    rw [← Nat.add_assoc, List.range_succ, List.map_append, List.map_cons, List.map_nil, h2 a]
    simp [wb_chained_step_2, exSs, exS, evE, evEs, args1, hasBo, sT_len, nn, ev_addR (n := p.n) (m := q.n) _ _ (show p.n + q.n ≤ 16777216 by omega), hlt])
  subst i2
  refine mir_ret ?_
  unfold b_chained_step
  show exSs fuel _ [.sh (sT p.n p.n (p.T s)), .sh (rT p.n p.L), .sh (sT q.n q.n (q.T s)), .sh (rT q.n q.F), .no, .no, .no, .no, .no] = _
  have hi := items_rng p.n (by omega)
  rw [ss_go (S1 := [.sh (sT p.n p.n (p.T s)), .sh (rT p.n p.L), .sh (sT q.n q.n (q.T s)), .sh (rT q.n q.F), .ow [], .no, .no, .no, .no]) (by simp [exS, evE, evEs, hasBo, args1]),
    ss_go (S1 := [.sh (sT p.n p.n (p.T s)), .sh (rT p.n p.L), .sh (sT q.n q.n (q.T s)), .sh (rT q.n q.F), .ow ((List.range p.n).map h), s5, s6, .no, .no]) (by
      rw [w_chained_step_1, exS]
      simp [evI, evEs, evE, args1, hasBo, sT_len, hi]
      exact l1),
    ss_go (S1 := [.sh (sT p.n p.n (p.T s)), .sh (rT p.n p.L), .sh (sT q.n q.n (q.T s)), .sh (rT q.n q.F), .ow ((List.range (p.n + q.n)).map h), s5, s6, s7, .no]) (by
      rw [w_chained_step_2, exS]
      simp [evI, evEs, evE, args1, hasBo, sT, items]
      exact i1)]
  simp [exSs, exS, evE, evEs, args1, evBlt, ← hh]
  rfl
theorem chained_ok {p q : Mac} {D N E M A B D' N' E' M' A' B' : Nat} (hD : 0 < D) (hE : 0 < E) (hA : 0 < A) (hk : p.k = q.k) (hn : p.n + q.n ≤ 24) (hpk : p.k ≤ 100) (hp : MFit p D N E M A B) (hq : MFit q D' N' E' M' A' B') (c : ChainFit p q D N E M A B D' N') :
    m_chained [macD p, macD q] = .ok (macD (p.chain q), false) := by
  have e1 := see_signs_ok hk
  have e2 := see_rooms_ok hn
  rw [Int.natCast_add] at e2
  have e3 : m_dot [rT p.n p.F, rT p.n p.L] = .ok (fr (p.wt []), false) := dot_ok (xs := []) (rT_sq _ _) (rT_sq _ _) (fun i hi => tabs_get hi) c.c1 (by omega) hp.F hp.L
  have e4 := times_row (n := q.n) (c := p.wt []) (g := q.F) (S := [.sh (macD p), .sh (macD q), .sh (fr (p.wt [])), .no, .no, .no, .no]) 6 (.sub (.loc 1) (.int 0)) 2 (by simp) (by decide) (by simp) (by simp) (by omega) (by simp [evE, mac_0]) (wt0_fit hD hA hp) hq.F c.d1 c.n1 c.n3
  have e4 : evE c_chained_1 [.sh (macD p), .sh (macD q), .sh (fr (p.wt [])), .no, .no, .no, .no] = _ := e4
  have nn := noughts_ok (n := p.n) (by omega)
  obtain ⟨f, hf⟩ : ∃ f : MP.D, rT (p.n + q.n) (p.chain q).F = f := ⟨_, rfl⟩
  obtain ⟨S', l1, s5, l2⟩ := for_rng (f := exSs fuel wb_chained_1) (tg := fun S d => some (S.set 5 (.sh d))) (fun j S => ∃ s5, S = [.sh (macD p), .sh (macD q), .sh (fr (p.wt [])), .sh f, .ow ((List.range j).map fun s => sT (p.n + q.n) (p.n + q.n) ((p.chain q).T s)), s5, .no]) (n := p.k) (S := [.sh (macD p), .sh (macD q), .sh (fr (p.wt [])), .sh f, .ow [], .no, .no]) ⟨.no, rfl⟩ (by
    rintro s S hs ⟨s5, rfl⟩
    refine ⟨_, [.sh (macD p), .sh (macD q), .sh (fr (p.wt [])), .sh f, .ow ((List.range (s + 1)).map fun s => sT (p.n + q.n) (p.n + q.n) ((p.chain q).T s)), .sh (.int s), .no], rfl, ?_, _, rfl⟩
    have hs' : s < q.k := by omega
    have e := chained_step_ok hE hA hs hs' (by omega) (by omega) hp hq c
    have hlt : s < 16777216 := by omega
    simp [wb_chained_1, exSs, exS, evE, evEs, args1, hasBo, mac_0, mac_1, mac_2, mac_s hs, mac_s hs', e, hlt, List.range_succ])
  subst l2
  refine mir_ret ?_
  unfold b_chained
  show exSs fuel _ [.sh (macD p), .sh (macD q), .no, .no, .no, .no, .no] = _
  have hi := items_rng p.k (by omega)
  have ea : evBin .add (rT p.n p.F) (rT q.n fun j => p.wt [] * q.F j) = .ok (f, .sh) := by rw [ev_addR _ _ (show p.n + q.n ≤ 16777216 by omega), ← hf]; rfl
  rw [ss_go (S1 := [.sh (macD p), .sh (macD q), .no, .no, .no, .no, .no]) (by simp [exS, evE, evEs, args1, hasBo, e1]),
    ss_go (S1 := [.sh (macD p), .sh (macD q), .no, .no, .no, .no, .no]) (by simp [exS, evE, evEs, mac_0, args1, rT_len, e2, hasBo]),
    ss_go (S1 := [.sh (macD p), .sh (macD q), .sh (fr (p.wt [])), .no, .no, .no, .no]) (by simp [exS, evE, evEs, mac_0, mac_2, args1, hasBo, e3]),
    ss_go (S1 := [.sh (macD p), .sh (macD q), .sh (fr (p.wt [])), .sh f, .no, .no, .no]) (by simp [exS, evE, evEs, mac_0, args1, hasBo, e4, ev_tupleL, ea]),
    ss_go (S1 := [.sh (macD p), .sh (macD q), .sh (fr (p.wt [])), .sh f, .ow [], .no, .no]) (by simp [exS, evE, evEs, hasBo, args1]),
    ss_go (S1 := [.sh (macD p), .sh (macD q), .sh (fr (p.wt [])), .sh f, .ow ((List.range p.k).map fun s => sT (p.n + q.n) (p.n + q.n) ((p.chain q).T s)), s5, .no]) (by
      rw [w_chained_1, exS]
      simp [evI, evEs, evE, args1, hasBo, mac_1, steps_len, hi]
      exact l1)]
  simp [exSs, exS, evE, evEs, args1, blt_tl, mac_0, mac_2, rT_len, nn, hasBo, ev_addR (n := p.n) (m := q.n) Mac.zero q.L (by omega), ← hf]
  rfl
theorem Fit.lcm {D N E M : Nat} {q : Rat} (h : Fit D N q) (F : Nat) (hF : 0 < F) (e : D * F = E) (l : N * F ≤ M) : Fit E M q := by
  rw [← e]
  exact (h.scale F hF).mono l
theorem MFit.chain {p q : Mac} {D N E M A B D' N' : Nat} (hD : 0 < D) (hE : 0 < E) (hA : 0 < A) (hk : p.k = q.k) (hp : MFit p D N E M A B) (hq : MFit q D' N' E M A B) (hD' : 0 < D') :
    MFit (p.chain q) (D * A * D') ((N + p.n * (N * B)) * A * D' * (N' + 1)) (E * A * D') ((M + p.n * (M * B)) * A * D' * (N' + 1)) A B := by
  have up : ∀ {E M : Nat} {x : Rat}, Fit E M x → Fit (E * A * D') ((M + p.n * (M * B)) * A * D' * (N' + 1)) x := fun {E M x} h =>
    ((h.scale A hA).scale D' hD').mono (Nat.le_trans (Nat.mul_le_mul_right _ (Nat.mul_le_mul_right _ (Nat.le_add_right _ _))) (Nat.le_mul_of_pos_right _ (Nat.succ_pos _)))
  have mu : ∀ {E M : Nat} {x y : Rat}, Fit (E * A) (p.n * (M * B)) x → Fit D' N' y → Fit (E * A * D') ((M + p.n * (M * B)) * A * D' * (N' + 1)) (x * y) := fun {E M x y} h k => by
    refine (h.mul k).mono ?_
    refine Nat.mul_le_mul ?_ (by omega)
    exact Nat.le_trans (Nat.le_add_left _ _) (Nat.le_trans (Nat.le_mul_of_pos_right _ hA) (Nat.le_mul_of_pos_right _ hD'))
  have c : ∀ {D N : Nat} {f g : Nat → Rat} {i : Nat}, (i < p.n → Fit D N (f i)) → (∀ j, i = p.n + j → Fit D N (g j)) → Fit D N (Mac.cat p.n f g i) := by
    intro D N f g i h1 h2
    by_cases h : i < p.n
    · rw [Mac.cat_lo h]; exact h1 h
    · obtain ⟨j, rfl⟩ : ∃ j, i = p.n + j := ⟨i - p.n, by omega⟩
      rw [Mac.cat_hi]; exact h2 j rfl
  refine ⟨fun i hi => c (fun h => up (hp.F i h)) (fun j e => mu (wt0_fit hD hA hp) (hq.F j (by have : i < p.n + q.n := hi; omega))), fun s a b hs ha hb => ?_, fun i hi => c (fun h => Fit.zero hA) (fun j e => hq.L j (by have : i < p.n + q.n := hi; omega))⟩
  have ha' : a < p.n + q.n := ha
  have hb' : b < p.n + q.n := hb
  have hs' : s < p.k := hs
  show Fit _ _ ((if a < p.n then Mac.cat p.n (p.T s a) (fun i => p.hop s a * q.F i) else Mac.cat p.n Mac.zero (q.T s (a - p.n))) b)
  split
  · rename_i h
    exact c (fun h2 => up (hp.T s a b hs' h h2)) (fun j e => mu (hop_fit hE hA hp hs' h) (hq.F j (by omega)))
  · rename_i h
    exact c (fun h2 => Fit.zero (Nat.mul_pos (Nat.mul_pos hE hA) hD')) (fun j e => up (hq.T s _ j (by omega) (by omega) (by omega)))
end MP
set_option Elab.async false
set_option linter.all false
/-! whole numbers that solve equations: one more unknown than equations -/
namespace WM
theorem pigeon : ∀ (m n : Nat) (f : Nat → Nat), (∀ x, x < n → f x < m) → m < n → ∃ x y, x < y ∧ y < n ∧ f x = f y
  | 0, n, f, h, hn => by have := h 0 (by omega); omega
  | m + 1, n, f, h, hn => by
    by_cases hc : ∃ x, x < n - 1 ∧ f x = f (n - 1)
    · obtain ⟨x, h1, h2⟩ := hc
      exact ⟨x, n - 1, h1, by omega, h2⟩
    · have hne : ∀ x, x < n - 1 → f x ≠ f (n - 1) := fun x hx e => hc ⟨x, hx, e⟩
      obtain ⟨x, y, h1, h2, h3⟩ := pigeon m (n - 1) (fun x => if f x > f (n - 1) then f x - 1 else f x) (by
        intro x hx
        have a := h x (by omega)
        have b := hne x hx
        have c := h (n - 1) (by omega)
        show (if f x > f (n - 1) then f x - 1 else f x) < m
        split <;> omega) (by omega)
      refine ⟨x, y, h1, by omega, ?_⟩
      have b1 := hne x (by omega)
      have b2 := hne y h2
      have h3 : (if f x > f (n - 1) then f x - 1 else f x) = (if f y > f (n - 1) then f y - 1 else f y) := h3
      split at h3 <;> split at h3 <;> omega
def prodN : Nat → (Nat → Nat) → Nat
  | 0, _ => 1
  | n + 1, f => prodN n f * f n
theorem prodN_pos {f : Nat → Nat} : ∀ {n : Nat}, (∀ i, i < n → 0 < f i) → 0 < prodN n f
  | 0, _ => Nat.one_pos
  | n + 1, h => Nat.mul_pos (prodN_pos fun i hi => h i (by omega)) (h n (by omega))
theorem prodN_mul (f g : Nat → Nat) : ∀ n : Nat, prodN n (fun i => f i * g i) = prodN n f * prodN n g
  | 0 => rfl
  | n + 1 => by
    show prodN n (fun i => f i * g i) * (f n * g n) = prodN n f * f n * (prodN n g * g n)
    rw [prodN_mul f g n]; exact Nat.mul_mul_mul_comm _ _ _ _
theorem prodN_const (c : Nat) : ∀ n : Nat, prodN n (fun _ => c) = c ^ n
  | 0 => rfl
  | n + 1 => by
    show prodN n (fun _ => c) * c = c ^ n * c
    rw [prodN_const c n]
theorem prodN_congr {f g : Nat → Nat} : ∀ {n : Nat}, (∀ i, i < n → f i = g i) → prodN n f = prodN n g
  | 0, _ => rfl
  | n + 1, h => by
    show prodN n f * f n = prodN n g * g n
    rw [prodN_congr fun i hi => h i (by omega), h n (by omega)]
theorem prodN_le {f g : Nat → Nat} : ∀ {n : Nat}, (∀ i, i < n → f i ≤ g i) → prodN n f ≤ prodN n g
  | 0, _ => Nat.le_refl _
  | n + 1, h => Nat.mul_le_mul (prodN_le fun i hi => h i (by omega)) (h n (by omega))
theorem prodN_dvd {f : Nat → Nat} : ∀ {n j : Nat}, j < n → f j ∣ prodN n f
  | 0, j, h => by omega
  | n + 1, j, h => by
    by_cases e : j = n
    · subst e; exact Nat.dvd_mul_left _ _
    · exact Nat.dvd_trans (prodN_dvd (show j < n by omega)) (Nat.dvd_mul_right _ _)
/-- the j-th digit of u -/
def digs (B : Nat → Nat) (j u : Nat) : Nat := u % prodN (j + 1) B / prodN j B
theorem digs_lt {B : Nat → Nat} {j u : Nat} (h : ∀ i, i ≤ j → 0 < B i) : digs B j u < B j := by
  unfold digs
  apply Nat.div_lt_of_lt_mul
  exact Nat.mod_lt _ (prodN_pos fun i hi => h i (by omega))
theorem digs_mod {B : Nat → Nat} {u w : Nat} : ∀ k : Nat, (∀ j, j < k → digs B j u = digs B j w) → u % prodN k B = w % prodN k B
  | 0, _ => by show u % 1 = w % 1; omega
  | k + 1, h => by
    have ih := digs_mod k fun j hj => h j (by omega)
    have hd := h k (by omega)
    unfold digs at hd
    have hv : prodN k B ∣ prodN (k + 1) B := Nat.dvd_mul_right _ _
    have e1 := Nat.div_add_mod (u % prodN (k + 1) B) (prodN k B)
    have e2 := Nat.div_add_mod (w % prodN (k + 1) B) (prodN k B)
    rw [Nat.mod_mod_of_dvd _ hv] at e1 e2
    rw [← e1, ← e2, hd, ih]
theorem digs_inj {B : Nat → Nat} {u w k : Nat} (hu : u < prodN k B) (hw : w < prodN k B) (h : ∀ j, j < k → digs B j u = digs B j w) : u = w := by
  have := digs_mod k h
  rwa [Nat.mod_eq_of_lt hu, Nat.mod_eq_of_lt hw] at this
def code (W : Nat) (v : Nat → Nat) : Nat → Nat
  | 0 => 0
  | l + 1 => code W v l + W ^ l * v l
theorem code_lt {W : Nat} {v : Nat → Nat} : ∀ {l : Nat}, (∀ i, i < l → v i < W) → code W v l < W ^ l
  | 0, _ => Nat.one_pos
  | l + 1, h => by
    have a := code_lt (l := l) fun i hi => h i (by omega)
    have b : W ^ l * v l + W ^ l ≤ W ^ l * W := by
      rw [← Nat.mul_succ]; exact Nat.mul_le_mul_left _ (h l (by omega))
    show code W v l + W ^ l * v l < W ^ l * W
    omega
theorem code_inj {W : Nat} {v w : Nat → Nat} : ∀ {l : Nat}, (∀ i, i < l → v i < W) → (∀ i, i < l → w i < W) → code W v l = code W w l → ∀ i, i < l → v i = w i
  | 0, _, _, _, i, hi => by omega
  | l + 1, h, k, e, i, hi => by
    have a := code_lt (l := l) fun i hi => h i (by omega)
    have b := code_lt (l := l) fun i hi => k i (by omega)
    have e : code W v l + W ^ l * v l = code W w l + W ^ l * w l := e
    have hp : 0 < W ^ l := by omega
    have d1 : (code W v l + W ^ l * v l) / W ^ l = v l := by rw [Nat.add_mul_div_left _ _ hp, Nat.div_eq_of_lt a, Nat.zero_add]
    have d2 : (code W w l + W ^ l * w l) / W ^ l = w l := by rw [Nat.add_mul_div_left _ _ hp, Nat.div_eq_of_lt b, Nat.zero_add]
    have hv : v l = w l := by rw [← d1, ← d2, e]
    by_cases hil : i = l
    · subst hil; exact hv
    · rw [hv] at e
      exact code_inj (l := l) (fun i hi => h i (by omega)) (fun i hi => k i (by omega)) (by omega) i (by omega)
def smI : Nat → (Nat → Int) → Int
  | 0, _ => 0
  | n + 1, f => smI n f + f n
theorem smI_sub (f g : Nat → Int) : ∀ n : Nat, smI n (fun i => f i - g i) = smI n f - smI n g
  | 0 => rfl
  | n + 1 => by
    show smI n (fun i => f i - g i) + (f n - g n) = smI n f + f n - (smI n g + g n)
    rw [smI_sub f g n]; omega
theorem smI_congr {f g : Nat → Int} : ∀ {n : Nat}, (∀ i, i < n → f i = g i) → smI n f = smI n g
  | 0, _ => rfl
  | n + 1, h => by
    show smI n f + f n = smI n g + g n
    rw [smI_congr fun i hi => h i (by omega), h n (by omega)]
theorem smI_le {P : Nat} {f : Nat → Int} : ∀ {n : Nat}, (∀ i, i < n → (f i).natAbs ≤ P) → (smI n f).natAbs ≤ n * P
  | 0, _ => by show (0 : Int).natAbs ≤ _; simp
  | n + 1, h => by
    have a := smI_le (n := n) fun i hi => h i (by omega)
    have b := h n (by omega)
    show (smI n f + f n).natAbs ≤ _
    rw [Nat.add_mul, Nat.one_mul]; omega
theorem smI_cast (f : Nat → Int) : ∀ n : Nat, ((smI n f : Int) : Rat) = sm n fun i => (f i : Rat)
  | 0 => rfl
  | n + 1 => by
    show ((smI n f + f n : Int) : Rat) = sm n (fun i => (f i : Rat)) + (f n : Rat)
    rw [Rat.intCast_add, smI_cast f n]
/-- the bound of siegel -/
def sieP (r : Nat) (S : Nat → Nat) : Nat := (2 * r + 3) ^ r * prodN (r + 1) S
theorem siegel (r : Nat) (A : Nat → Nat → Int) (S : Nat → Nat) (hS : ∀ j, j ≤ r → 0 < S j) (hA : ∀ l j, l < r → j ≤ r → (A l j).natAbs ≤ S j) :
    ∃ z : Nat → Int, (∃ j, j ≤ r ∧ z j ≠ 0) ∧ (∀ j, j ≤ r → (z j).natAbs * S j ≤ sieP r S) ∧ ∀ l, l < r → smI (r + 1) (fun j => A l j * z j) = 0 := by
  have hS' : ∀ j, j < r + 1 → 0 < S j := fun j hj => hS j (by omega)
  have hPS := prodN_pos hS'
  have hP : 0 < sieP r S := Nat.mul_pos (Nat.pow_pos (by omega)) hPS
  have hd : ∀ j, j ≤ r → S j ∣ sieP r S := fun j hj => Nat.dvd_trans (prodN_dvd (show j < r + 1 by omega)) (Nat.dvd_mul_left _ _)
  generalize hPe : sieP r S = P at *
  have hX : ∀ j, j ≤ r → P / S j * S j = P := fun j hj => Nat.div_mul_cancel (hd j hj)
  let B : Nat → Nat := fun j => P / S j + 1
  have hB : ∀ i, 0 < B i := fun i => Nat.succ_pos _
  let W : Nat := 2 * (r + 1) * P + 1
  let val : Nat → Nat → Nat := fun u l => (smI (r + 1) (fun j => A l j * (digs B j u : Int)) + ((r + 1) * P : Nat)).toNat
  have hbd : ∀ u l, l < r → (smI (r + 1) (fun j => A l j * (digs B j u : Int))).natAbs ≤ (r + 1) * P := fun u l hl => smI_le fun j hj => by
    have a := digs_lt (B := B) (j := j) (u := u) fun i _ => hB i
    have a' : digs B j u ≤ P / S j := Nat.lt_succ_iff.mp a
    rw [Int.natAbs_mul, Int.natAbs_natCast, ← hX j (by omega), Nat.mul_comm (P / S j)]
    exact Nat.mul_le_mul (hA l j hl (by omega)) a'
  have hval : ∀ u l, l < r → val u l < W := fun u l hl => by
    have := hbd u l hl
    show (smI (r + 1) (fun j => A l j * (digs B j u : Int)) + ((r + 1) * P : Nat)).toNat < 2 * (r + 1) * P + 1
    rw [Nat.mul_assoc]
    generalize smI (r + 1) (fun j => A l j * (digs B j u : Int)) = q at *
    generalize (r + 1) * P = t at *
    omega
  have hcard : W ^ r < prodN (r + 1) B := by
    have e1 : W ≤ (2 * r + 3) * P := by
      show 2 * (r + 1) * P + 1 ≤ (2 * r + 3) * P
      rw [show 2 * r + 3 = 2 * (r + 1) + 1 by omega, Nat.add_mul, Nat.one_mul]; omega
    have e2 : prodN (r + 1) (fun j => P / S j) * prodN (r + 1) S = P ^ (r + 1) := by
      rw [← prodN_mul, ← prodN_const]
      exact prodN_congr fun i hi => hX i (by omega)
    have e3 : W ^ r * prodN (r + 1) S ≤ prodN (r + 1) (fun j => P / S j) * prodN (r + 1) S := by
      rw [e2]
      refine Nat.le_trans (Nat.mul_le_mul_right _ (Nat.pow_le_pow_left e1 r)) ?_
      rw [Nat.mul_pow, Nat.mul_comm ((2 * r + 3) ^ r), Nat.mul_assoc]
      show P ^ r * ((2 * r + 3) ^ r * prodN (r + 1) S) ≤ P ^ r * P
      rw [show (2 * r + 3) ^ r * prodN (r + 1) S = P from hPe]
      exact Nat.le_refl _
    have e4 := Nat.le_of_mul_le_mul_right e3 hPS
    refine Nat.lt_of_le_of_lt e4 ?_
    show prodN r (fun j => P / S j) * (P / S r) < prodN r B * (P / S r + 1)
    have e5 : prodN r (fun j => P / S j) ≤ prodN r B := prodN_le fun i _ => Nat.le_succ _
    have e6 : 0 < prodN r B := prodN_pos fun i _ => hB i
    have e7 := Nat.mul_le_mul_right (P / S r) e5
    rw [Nat.mul_add, Nat.mul_one]; omega
  obtain ⟨u, w, h1, h2, h3⟩ := pigeon (W ^ r) (prodN (r + 1) B) (fun u => code W (val u) r) (fun u _ => code_lt fun l hl => hval u l hl) hcard
  have hv := code_inj (fun l hl => hval u l hl) (fun l hl => hval w l hl) h3
  refine ⟨fun j => (digs B j u : Int) - (digs B j w : Int), ?_, ?_, ?_⟩
  · apply Classical.byContradiction
    intro hn
    have : u = w := digs_inj (B := B) (k := r + 1) (by omega) h2 fun j hj => by
      apply Classical.byContradiction
      intro hne
      exact hn ⟨j, by omega, by show (digs B j u : Int) - (digs B j w : Int) ≠ 0; omega⟩
    omega
  · intro j hj
    have a := digs_lt (B := B) (j := j) (u := u) fun i _ => hB i
    have b := digs_lt (B := B) (j := j) (u := w) fun i _ => hB i
    have a' : digs B j u ≤ P / S j := Nat.lt_succ_iff.mp a
    have b' : digs B j w ≤ P / S j := Nat.lt_succ_iff.mp b
    have c : ((digs B j u : Int) - (digs B j w : Int)).natAbs ≤ P / S j := by omega
    have := Nat.mul_le_mul_right (S j) c
    rw [hX j hj] at this
    exact this
  · intro l hl
    have e := hv l hl
    have b1 := hbd u l hl
    have b2 := hbd w l hl
    rw [smI_congr (g := fun j => A l j * (digs B j u : Int) - A l j * (digs B j w : Int)) (fun j _ => Int.mul_sub _ _ _), smI_sub]
    have e : (smI (r + 1) (fun j => A l j * (digs B j u : Int)) + ((r + 1) * P : Nat)).toNat = (smI (r + 1) (fun j => A l j * (digs B j w : Int)) + ((r + 1) * P : Nat)).toNat := e
    generalize (r + 1) * P = t at *
    omega
end WM
set_option Elab.async false
set_option linter.all false
/-! a span as functions -/
namespace WM
/-- rows, pivots, cleared rows, and how these come from the rows -/
structure Spn where
  r : Nat
  R : Nat → Nat → Rat
  p : Nat → Nat
  b : Nat → Nat → Rat
  m : Nat → Nat → Rat
namespace Spn
def empty : Spn := ⟨0, fun _ _ => 0, fun _ => 0, fun _ _ => 0, fun _ _ => 0⟩
/-- what is left behind i rows -/
def rest (s : Spn) (v : Nat → Rat) : Nat → Nat → Rat
  | 0 => v
  | i + 1 => fun k => s.rest v i k - s.rest v i (s.p i) / s.b i (s.p i) * s.b i k
def fac (s : Spn) (v : Nat → Rat) (i : Nat) : Rat := s.rest v i (s.p i) / s.b i (s.p i)
def parts (s : Spn) (v : Nat → Rat) : Nat → Nat → Rat
  | 0 => fun _ => 0
  | i + 1 => fun j => if j ≤ i then s.parts v i j + s.fac v i * s.m i j else 0
def sum (s : Spn) (i : Nat) (c : Nat → Rat) (k : Nat) : Rat := sm i fun j => c j * s.R j k
structure Ok (n : Nat) (s : Spn) : Prop where
  pn : ∀ i, i < s.r → s.p i < n
  b0 : ∀ i, i < s.r → s.b i (s.p i) ≠ 0
  bl : ∀ i l, i < s.r → l < i → s.b i (s.p l) = 0
  m1 : ∀ i, i < s.r → s.m i i = 1
  bm : ∀ i k, i < s.r → k < n → s.b i k = s.sum (i + 1) (s.m i) k
theorem parts_hi (s : Spn) (v : Nat → Rat) : ∀ {i j : Nat}, i ≤ j → s.parts v i j = 0
  | 0, _, _ => rfl
  | i + 1, j, h => by
    show (if j ≤ i then _ else (0 : Rat)) = 0
    rw [if_neg (by omega)]
theorem parts_lo (s : Spn) (v : Nat → Rat) {i j : Nat} (h : j ≤ i) : s.parts v (i + 1) j = s.parts v i j + s.fac v i * s.m i j := by
  show (if j ≤ i then _ else (0 : Rat)) = _
  rw [if_pos h]
theorem rest_succ (s : Spn) (v : Nat → Rat) (i k : Nat) : s.rest v (i + 1) k = s.rest v i k - s.fac v i * s.b i k := rfl
theorem fac_parts {n : Nat} {s : Spn} (h : s.Ok n) (v : Nat → Rat) {i : Nat} (hi : i < s.r) : s.fac v i = s.parts v (i + 1) i := by
  rw [parts_lo s v (Nat.le_refl i), parts_hi s v (Nat.le_refl i), h.m1 i hi]; grind
/-- the row is what is left and the parts -/
theorem rest_parts {n : Nat} {s : Spn} (h : s.Ok n) (v : Nat → Rat) : ∀ i, i ≤ s.r → ∀ k, k < n → s.rest v i k = v k - s.sum i (s.parts v i) k
  | 0, _, k, hk => by show v k = v k - 0; grind
  | i + 1, hi, k, hk => by
    have ih := rest_parts h v i (by omega) k hk
    rw [rest_succ, ih, h.bm i k (by omega) hk]
    have e : s.sum (i + 1) (s.parts v (i + 1)) k = s.sum i (s.parts v i) k + s.fac v i * s.sum (i + 1) (s.m i) k := by
      show sm (i + 1) (fun j => s.parts v (i + 1) j * s.R j k) = sm i (fun j => s.parts v i j * s.R j k) + s.fac v i * sm (i + 1) (fun j => s.m i j * s.R j k)
      rw [← sm_mul]
      have e1 : sm i (fun j => s.parts v i j * s.R j k) = sm (i + 1) (fun j => s.parts v i j * s.R j k) := by
        show _ = sm i (fun j => s.parts v i j * s.R j k) + s.parts v i i * s.R i k
        rw [parts_hi s v (Nat.le_refl i)]; grind
      rw [e1, ← sm_add]
      exact sm_congr fun j hj => by rw [parts_lo s v (by omega)]; grind
    rw [e]; grind
theorem rest_piv {n : Nat} {s : Spn} (h : s.Ok n) (v : Nat → Rat) : ∀ i, i ≤ s.r → ∀ l, l < i → s.rest v i (s.p l) = 0
  | 0, _, l, hl => by omega
  | i + 1, hi, l, hl => by
    show s.rest v i (s.p l) - s.rest v i (s.p i) / s.b i (s.p i) * s.b i (s.p l) = 0
    by_cases e : l = i
    · subst e
      have := h.b0 l (by omega)
      grind
    · rw [rest_piv h v i (by omega) l (by omega), h.bl i l (by omega) (by omega)]; grind
/-- sums of rows that are nought at all pivots -/
theorem uniq {n : Nat} {s : Spn} (h : s.Ok n) : ∀ i, i ≤ s.r → ∀ c : Nat → Rat, (∀ l, l < i → s.sum i c (s.p l) = 0) → ∀ j, j < i → c j = 0
  | 0, _, _, _, j, hj => by omega
  | i + 1, hi, c, hc, j, hj => by
    have key : ∀ l, l ≤ i → s.sum (i + 1) c (s.p l) = s.sum i (fun j => c j - c i * s.m i j) (s.p l) + c i * s.b i (s.p l) := by
      intro l hl
      have hp := h.pn l (by omega)
      rw [h.bm i _ (by omega) hp]
      show sm i (fun j => c j * s.R j (s.p l)) + c i * s.R i (s.p l) = sm i (fun j => (c j - c i * s.m i j) * s.R j (s.p l)) + c i * (sm i (fun j => s.m i j * s.R j (s.p l)) + s.m i i * s.R i (s.p l))
      rw [h.m1 i (by omega)]
      have : sm i (fun j => (c j - c i * s.m i j) * s.R j (s.p l)) = sm i (fun j => c j * s.R j (s.p l)) - c i * sm i (fun j => s.m i j * s.R j (s.p l)) := by
        rw [← sm_mul, ← sm_sub]
        exact sm_congr fun j _ => by grind
      rw [this]; grind
    have ih := uniq h i (by omega) (fun j => c j - c i * s.m i j) (fun l hl => by
      have k := key l (by omega)
      rw [hc l (by omega), h.bl i l (by omega) hl] at k
      grind)
    have ci : c i = 0 := by
      have k := key i (Nat.le_refl i)
      have z : s.sum i (fun j => c j - c i * s.m i j) (s.p i) = 0 := sm_zero fun j hj => by
        have := ih j hj
        show (c j - c i * s.m i j) * _ = 0
        have : c j - c i * s.m i j = 0 := this
        rw [this]; grind
      rw [hc i (by omega), z] at k
      have := h.b0 i (by omega)
      rcases Rat.mul_eq_zero.mp (show c i * s.b i (s.p i) = 0 by grind) with e | e
      · exact e
      · exact absurd e this
    by_cases e : j = i
    · subst e; exact ci
    · have := ih j (by omega)
      have : c j - c i * s.m i j = 0 := this
      rw [ci] at this
      grind
theorem uniq2 {n : Nat} {s : Spn} (h : s.Ok n) {i : Nat} (hi : i ≤ s.r) {c d : Nat → Rat} (e : ∀ l, l < i → s.sum i c (s.p l) = s.sum i d (s.p l)) (j : Nat) (hj : j < i) : c j = d j := by
  have := uniq h i hi (fun j => c j - d j) (fun l hl => by
    have e1 : s.sum i (fun j => c j - d j) (s.p l) = s.sum i c (s.p l) - s.sum i d (s.p l) := by
      show sm i _ = sm i _ - sm i _
      rw [← sm_sub]
      exact sm_congr fun j _ => by grind
    rw [e1, e l hl]; grind) j hj
  have : c j - d j = 0 := this
  grind
/-- a row is a sum of multiples: nothing is left -/
theorem rest_of_sum {n : Nat} {s : Spn} (h : s.Ok n) {v : Nat → Rat} {c : Nat → Rat} (e : ∀ k, k < n → v k = s.sum s.r c k) (k : Nat) (hk : k < n) : s.rest v s.r k = 0 := by
  have z : ∀ j, j < s.r → c j = s.parts v s.r j := uniq2 h (Nat.le_refl _) fun l hl => by
    have a := rest_piv h v s.r (Nat.le_refl _) l hl
    have p := h.pn l hl
    rw [rest_parts h v s.r (Nat.le_refl _) _ p, e _ p] at a
    grind
  rw [rest_parts h v s.r (Nat.le_refl _) k hk, e k hk]
  have : s.sum s.r c k = s.sum s.r (s.parts v s.r) k := sm_congr fun j hj => by rw [z j hj]
  rw [this]; grind
theorem sum_of_rest {n : Nat} {s : Spn} (h : s.Ok n) {v : Nat → Rat} {k : Nat} (hk : k < n) (e : s.rest v s.r k = 0) : v k = s.sum s.r (s.parts v s.r) k := by
  have := rest_parts h v s.r (Nat.le_refl _) k hk
  grind
/-- no more rows than places -/
theorem r_le {n : Nat} {s : Spn} (h : s.Ok n) : s.r ≤ n := by
  apply Classical.byContradiction
  intro hn
  obtain ⟨x, y, h1, h2, h3⟩ := pigeon n s.r s.p (fun x hx => h.pn x hx) (by omega)
  have := h.bl y x h2 h1
  rw [h3] at this
  exact h.b0 y h2 this
/-- a row put in -/
def put (s : Spn) (v : Nat → Rat) (q : Nat) : Spn where
  r := s.r + 1
  R := fun i => if i = s.r then v else s.R i
  p := fun i => if i = s.r then q else s.p i
  b := fun i => if i = s.r then s.rest v s.r else s.b i
  m := fun i => if i = s.r then (fun j => if j = s.r then 1 else - s.parts v s.r j) else s.m i
theorem put_sum (s : Spn) (v : Nat → Rat) (q : Nat) {i : Nat} (hi : i ≤ s.r) (c : Nat → Rat) (k : Nat) : (s.put v q).sum i c k = s.sum i c k := sm_congr fun j hj => by
  show c j * (if j = s.r then v else s.R j) k = _
  rw [if_neg (by omega)]
theorem Ok.put {n : Nat} {s : Spn} (h : s.Ok n) {v : Nat → Rat} {q : Nat} (hq : q < n) (h0 : s.rest v s.r q ≠ 0) : (s.put v q).Ok n where
  pn := fun i hi => by
    show (if i = s.r then q else s.p i) < n
    split
    · exact hq
    · exact h.pn i (by have : i < s.r + 1 := hi; omega)
  b0 := fun i hi => by
    show (if i = s.r then s.rest v s.r else s.b i) (if i = s.r then q else s.p i) ≠ 0
    split
    · exact h0
    · exact h.b0 i (by have : i < s.r + 1 := hi; omega)
  bl := fun i l hi hl => by
    have hi : i < s.r + 1 := hi
    show (if i = s.r then s.rest v s.r else s.b i) (if l = s.r then q else s.p l) = 0
    rw [if_neg (show ¬ l = s.r by omega)]
    split
    · exact rest_piv h v s.r (Nat.le_refl _) l (by omega)
    · exact h.bl i l (by omega) hl
  m1 := fun i hi => by
    have hi : i < s.r + 1 := hi
    show (if i = s.r then (fun j => if j = s.r then 1 else - s.parts v s.r j) else s.m i) i = 1
    split
    · rename_i e
      show (if i = s.r then (1 : Rat) else _) = 1
      rw [if_pos e]
    · exact h.m1 i (by omega)
  bm := fun i k hi hk => by
    have hi : i < s.r + 1 := hi
    by_cases e : i = s.r
    · show (if i = s.r then s.rest v s.r else s.b i) k = (s.put v q).sum (i + 1) (if i = s.r then (fun j => if j = s.r then 1 else - s.parts v s.r j) else s.m i) k
      rw [if_pos e, if_pos e, e]
      show _ = (s.put v q).sum s.r (fun j => if j = s.r then 1 else - s.parts v s.r j) k + (if s.r = s.r then (1 : Rat) else _) * (if s.r = s.r then v else s.R s.r) k
      rw [if_pos rfl, if_pos rfl, put_sum s v q (Nat.le_refl _), rest_parts h v s.r (Nat.le_refl _) k hk]
      have : s.sum s.r (fun j => if j = s.r then 1 else - s.parts v s.r j) k = - s.sum s.r (s.parts v s.r) k := by
        show sm _ _ = - sm _ _
        rw [← sm_neg]
        exact sm_congr fun j hj => by
          show (if j = s.r then 1 else - s.parts v s.r j) * _ = _
          rw [if_neg (by omega)]; grind
      rw [this]; grind
    · show (if i = s.r then s.rest v s.r else s.b i) k = (s.put v q).sum (i + 1) (if i = s.r then (fun j => if j = s.r then 1 else - s.parts v s.r j) else s.m i) k
      rw [if_neg e, if_neg e, put_sum s v q (by omega)]
      exact h.bm i k (by omega) hk
theorem Ok.empty (n : Nat) : Spn.Ok n Spn.empty where
  pn := fun i h => absurd h (Nat.not_lt_zero i)
  b0 := fun i h => absurd h (Nat.not_lt_zero i)
  bl := fun i l h => absurd h (Nat.not_lt_zero i)
  m1 := fun i h => absurd h (Nat.not_lt_zero i)
  bm := fun i k h => absurd h (Nat.not_lt_zero i)
/-! sizes -/
/-- the numbers of row j fit C j, S j -/
def Fits (n : Nat) (s : Spn) (C S : Nat → Nat) : Prop := ∀ j k, j < s.r → k < n → Fit (C j) (S j) (s.R j k)
/-- one row more behind i -/
def cons (i : Nat) (f : Nat → Nat) (x : Nat) (j : Nat) : Nat := if j = i then x else f j
theorem prodN_cons (i : Nat) (f : Nat → Nat) (x : Nat) : prodN (i + 1) (cons i f x) = prodN i f * x := by
  show prodN i (cons i f x) * cons i f x i = _
  rw [prodN_congr (f := cons i f x) (g := f) fun j hj => if_neg (by omega)]
  show _ * (if i = i then x else f i) = _
  rw [if_pos rfl]
/-- a row less sums of the first i, nought at their pivots -/
theorem cut_fit {n : Nat} {s : Spn} (h : s.Ok n) {C S : Nat → Nat} (hf : s.Fits n C S) (hS : ∀ j, j < s.r → 0 < S j) {i : Nat} (hi : i ≤ s.r) {v c : Nat → Rat} {Cv Sv : Nat} (hC : 0 < Cv) (hv : ∀ k, k < n → Fit Cv Sv (v k)) (hSv : 0 < Sv)
    (hz : ∀ l, l < i → v (s.p l) = s.sum i c (s.p l)) :
    ∃ t : Nat, 0 < t ∧ t * Sv ≤ (2 * i + 3) ^ i * (prodN i S * Sv) ∧ (∀ j, j < i → Fit (t * Cv) ((2 * i + 3) ^ i * (prodN i S * Sv) * C j) (c j)) ∧
      ∀ k, k < n → Fit (t * Cv) ((i + 1) * ((2 * i + 3) ^ i * (prodN i S * Sv))) (v k - s.sum i c k) := by
  -- whole numbers
  have hR : ∀ j k, j < s.r → k < n → ∃ z : Int, s.R j k * (C j : Rat) = (z : Rat) ∧ z.natAbs ≤ S j := fun j k hj hk => (hf j k hj hk).2
  have hV : ∀ k, k < n → ∃ z : Int, v k * (Cv : Rat) = (z : Rat) ∧ z.natAbs ≤ Sv := fun k hk => (hv k hk).2
  let a : Nat → Nat → Int := fun j k => if h : j < s.r ∧ k < n then Classical.choose (hR j k h.1 h.2) else 0
  have ha : ∀ j k, j < s.r → k < n → s.R j k * (C j : Rat) = (a j k : Rat) ∧ (a j k).natAbs ≤ S j := fun j k hj hk => by
    have := Classical.choose_spec (hR j k hj hk)
    show _ = ((if h : j < s.r ∧ k < n then Classical.choose (hR j k h.1 h.2) else 0 : Int) : Rat) ∧ (if h : j < s.r ∧ k < n then Classical.choose (hR j k h.1 h.2) else 0 : Int).natAbs ≤ S j
    rw [dif_pos ⟨hj, hk⟩]; exact this
  let w : Nat → Int := fun k => if h : k < n then Classical.choose (hV k h) else 0
  have hw : ∀ k, k < n → v k * (Cv : Rat) = (w k : Rat) ∧ (w k).natAbs ≤ Sv := fun k hk => by
    have := Classical.choose_spec (hV k hk)
    show _ = ((if h : k < n then Classical.choose (hV k h) else 0 : Int) : Rat) ∧ (if h : k < n then Classical.choose (hV k h) else 0 : Int).natAbs ≤ Sv
    rw [dif_pos hk]; exact this
  obtain ⟨z, ⟨j0, hj0, hz0⟩, hzb, hze⟩ := siegel i (fun l j => if j = i then w (s.p l) else a j (s.p l)) (cons i S Sv) (fun j hj => by
    show 0 < (if j = i then Sv else S j)
    split
    · exact hSv
    · exact hS j (by omega)) (fun l j hl hj => by
    have hp := h.pn l (by omega)
    show (if j = i then w (s.p l) else a j (s.p l)).natAbs ≤ (if j = i then Sv else S j)
    split
    · exact (hw _ hp).2
    · exact (ha j _ (by omega) hp).2)
  have hP : sieP i (cons i S Sv) = (2 * i + 3) ^ i * (prodN i S * Sv) := by
    show (2 * i + 3) ^ i * prodN (i + 1) (cons i S Sv) = _
    rw [prodN_cons]
  rw [hP] at hzb
  generalize (2 * i + 3) ^ i * (prodN i S * Sv) = P at *
  -- the equations
  have eq1 : ∀ l, l < i → sm i (fun j => (a j (s.p l) : Rat) * (z j : Rat)) + (w (s.p l) : Rat) * (z i : Rat) = 0 := fun l hl => by
    have e := congrArg (fun x : Int => (x : Rat)) (hze l hl)
    have e : ((smI (i + 1) (fun j => (if j = i then w (s.p l) else a j (s.p l)) * z j) : Int) : Rat) = ((0 : Int) : Rat) := e
    rw [smI_cast] at e
    have e : sm i (fun j => (((if j = i then w (s.p l) else a j (s.p l)) * z j : Int) : Rat)) + (((if i = i then w (s.p l) else a i (s.p l)) * z i : Int) : Rat) = ((0 : Int) : Rat) := e
    rw [if_pos rfl, Rat.intCast_mul] at e
    rw [show ((0 : Int) : Rat) = 0 from rfl] at e
    rw [← e]
    congr 1
    exact sm_congr fun j hj => by rw [if_neg (by omega), Rat.intCast_mul]
  have eq2 : ∀ l, l < i → s.sum i (fun j => (z j : Rat) * (C j : Rat)) (s.p l) = - ((z i : Rat) * (Cv : Rat) * v (s.p l)) := fun l hl => by
    have hp := h.pn l (by omega)
    have e := eq1 l hl
    rw [← (hw _ hp).1] at e
    have : s.sum i (fun j => (z j : Rat) * (C j : Rat)) (s.p l) = sm i (fun j => (a j (s.p l) : Rat) * (z j : Rat)) := sm_congr fun j hj => by
      rw [← (ha j _ (by omega) hp).1]; grind
    rw [this]; grind
  have hCv : (Cv : Rat) ≠ 0 := fun e => by
    have e : (Cv : Rat) = ((0 : Nat) : Rat) := e
    have := Rat.natCast_inj.mp e
    omega
  have hCj : ∀ j, j < i → 0 < n → (C j : Rat) ≠ 0 := fun j hj hn e => by
    have e : (C j : Rat) = ((0 : Nat) : Rat) := e
    have := Rat.natCast_inj.mp e
    have := (hf j 0 (by omega) hn).1
    omega
  have hn : ∀ j, j < i → 0 < n := fun j hj => by have := h.pn j (by omega); omega
  have ht : z i ≠ 0 := by
    intro e
    have u := uniq h i hi (fun j => (z j : Rat) * (C j : Rat)) (fun l hl => by
      rw [eq2 l hl, e]
      show -(((0 : Int) : Rat) * _ * _) = 0
      rw [show ((0 : Int) : Rat) = 0 from rfl]; grind)
    by_cases ei : j0 = i
    · subst ei; exact hz0 e
    · have := u j0 (by omega)
      rcases Rat.mul_eq_zero.mp this with e1 | e1
      · exact hz0 (cast_inj' (by rw [e1]; rfl))
      · exact hCj j0 (by omega) (hn j0 (by omega)) e1
  have htR : (z i : Rat) ≠ 0 := fun e => ht (cast_inj' (by rw [e]; rfl))
  have hc : ∀ j, j < i → c j = - ((z j : Rat) * (C j : Rat)) / ((z i : Rat) * (Cv : Rat)) := uniq2 h hi fun l hl => by
    rw [← hz l hl]
    have e : s.sum i (fun j => - ((z j : Rat) * (C j : Rat)) / ((z i : Rat) * (Cv : Rat))) (s.p l) = - (1 / ((z i : Rat) * (Cv : Rat))) * s.sum i (fun j => (z j : Rat) * (C j : Rat)) (s.p l) := by
      show sm _ _ = _ * sm _ _
      rw [← sm_mul]
      exact sm_congr fun j _ => by grind
    rw [e, eq2 l hl]
    grind
  have hti : ((z i).natAbs : Rat) = (z i : Rat) ∨ ((z i).natAbs : Rat) = - (z i : Rat) := by
    rcases Int.natAbs_eq (z i) with e | e
    · left
      rw [← Rat.intCast_natCast, ← e]
    · right
      rw [← Rat.intCast_natCast, ← Rat.intCast_neg]
      congr 1
      omega
  refine ⟨(z i).natAbs, by omega, ?_, ?_, ?_⟩
  · have := hzb i (Nat.le_refl i)
    have e : cons i S Sv i = Sv := if_pos rfl
    rw [e] at this
    exact this
  · intro j hj
    have b := hzb j (by omega)
    have e : cons i S Sv j = S j := if_neg (by omega)
    rw [e] at b
    have b2 : (z j).natAbs ≤ P := Nat.le_trans (Nat.le_mul_of_pos_right _ (hS j (by omega))) b
    rcases hti with e | e
    · refine ⟨Nat.mul_pos (by omega) hC, - z j * (C j : Int), ?_, ?_⟩
      · rw [hc j hj, Rat.natCast_mul, e, Rat.intCast_mul, Rat.intCast_neg, Rat.intCast_natCast]
        grind
      · rw [Int.natAbs_mul, Int.natAbs_neg, Int.natAbs_natCast]; exact Nat.mul_le_mul_right _ b2
    · refine ⟨Nat.mul_pos (by omega) hC, z j * (C j : Int), ?_, ?_⟩
      · rw [hc j hj, Rat.natCast_mul, e, Rat.intCast_mul, Rat.intCast_natCast]
        grind
      · rw [Int.natAbs_mul, Int.natAbs_natCast]; exact Nat.mul_le_mul_right _ b2
  · intro k hk
    have e1 : (v k - s.sum i c k) * ((z i : Rat) * (Cv : Rat)) = ((z i * w k + smI i (fun j => z j * a j k) : Int) : Rat) := by
      rw [Rat.intCast_add, Rat.intCast_mul, smI_cast, ← (hw k hk).1]
      have : s.sum i c k * ((z i : Rat) * (Cv : Rat)) = - sm i (fun j => ((z j * a j k : Int) : Rat)) := by
        show sm i _ * _ = _
        rw [← sm_mulr, ← sm_neg]
        exact sm_congr fun j hj => by
          rw [hc j hj, Rat.intCast_mul, ← (ha j k (by omega) hk).1]
          grind
      grind
    have bd : (z i * w k + smI i (fun j => z j * a j k)).natAbs ≤ (i + 1) * P := by
      have b1 : (smI i (fun j => z j * a j k)).natAbs ≤ i * P := smI_le fun j hj => by
        have b := hzb j (by omega)
        have e : cons i S Sv j = S j := if_neg (by omega)
        rw [e] at b
        rw [Int.natAbs_mul]
        exact Nat.le_trans (Nat.mul_le_mul_left _ (ha j k (by omega) hk).2) b
      have b2 : (z i * w k).natAbs ≤ P := by
        have b := hzb i (Nat.le_refl i)
        have e : cons i S Sv i = Sv := if_pos rfl
        rw [e] at b
        rw [Int.natAbs_mul]
        exact Nat.le_trans (Nat.mul_le_mul_left _ (hw k hk).2) b
      rw [Nat.add_mul, Nat.one_mul]
      omega
    rcases hti with e | e
    · refine ⟨Nat.mul_pos (by omega) hC, _, ?_, bd⟩
      rw [Rat.natCast_mul, e]; exact e1
    · refine ⟨Nat.mul_pos (by omega) hC, - (z i * w k + smI i (fun j => z j * a j k)), ?_, by rw [Int.natAbs_neg]; exact bd⟩
      rw [Rat.natCast_mul, e, Rat.intCast_neg, ← e1]; grind
end Spn
end WM
set_option Elab.async false
set_option linter.all false
set_option maxRecDepth 100000
set_option maxHeartbeats 4000000
namespace MP
open PySem PySem.Spec PyProof.Rows L2 WM
noncomputable def wb_pivot_of_1 : List MS := [.ife (.cmp .ne (.sub (.sub (.loc 0) (.loc 1)) (.int 0)) (.int 0)) [.ret (.loc 1)] []]
noncomputable def w_pivot_of_1 : MS := .forI 1 .range1 [(.blt .len [(.loc 0)])] wb_pivot_of_1
noncomputable def b_pivot_of : List MS := [w_pivot_of_1, .ret .non]
noncomputable def m_pivot_of : Fn := mirror 2 fuel b_pivot_of
noncomputable def ce_Span_split_1 : ME := (.glo "NOUGHT" (.tup [(.int 0), (.int 1)]))
noncomputable def c_Span_split_1 : ME := .comp ce_Span_split_1 9 .val [(.attr 0 false)]
noncomputable def ce_Span_split_2 : ME := (.call "minus" m_minus [(.sub (.loc 2) (.loc 10)), (.call "times" m_times [(.loc 7), (.sub (.loc 5) (.loc 10))])])
noncomputable def c_Span_split_2 : ME := .comp ce_Span_split_2 10 .range1 [(.blt .len [(.loc 2)])]
noncomputable def wb_Span_split_1 : List MS := [.sto 3 (.loc 8) (.call "plus" m_plus [(.sub (.loc 3) (.loc 8)), (.call "times" m_times [(.loc 7), (.sub (.loc 6) (.loc 8))])])]
noncomputable def w_Span_split_1 : MS := .forI 8 .range1 [(.blt .len [(.loc 6)])] wb_Span_split_1
noncomputable def wb_Span_split_2 : List MS := [.ife (.cmp .ne (.sub (.sub (.loc 2) (.loc 4)) (.int 0)) (.int 0)) [.set 7 (.call "over" m_over [(.sub (.loc 2) (.loc 4)), (.sub (.loc 5) (.loc 4))]), .own 2 c_Span_split_2, w_Span_split_1] []]
noncomputable def w_Span_split_2 : MS := .forU [4, 5, 6] .val [(.attr 0 true)] wb_Span_split_2
noncomputable def b_Span_split : List MS := [.own 2 (.blt .list [(.loc 1)]), .own 3 c_Span_split_1, w_Span_split_2, .ret2 2 3]
noncomputable def m_Span_split : Fn := mirror 11 fuel b_Span_split
noncomputable def b_Span_holds : List MS := [.ret (.isN false (.call "pivot_of" m_pivot_of [(.sub (.mcall 0 "split" m_Span_split (.loc 1)) (.int 0))]))]
noncomputable def m_Span_holds : Fn := mirror 2 fuel b_Span_holds
noncomputable def ce_Span_put_1 : ME := (.call "minus" m_minus [(.glo "NOUGHT" (.tup [(.int 0), (.int 1)])), (.loc 6)])
noncomputable def c_Span_put_1 : ME := .comp ce_Span_put_1 6 .val [(.loc 3)]
noncomputable def e2_put : ME := (.call "pivot_of" m_pivot_of [(.loc 2)])
noncomputable def e4_put : ME := (.bin .add c_Span_put_1 (.lst [(.glo "ONE" (.tup [(.int 1), (.int 1)]))]))
noncomputable def g_put : PutFn := putG m_Span_split e2_put e4_put
/-! a span as plain data -/
def rowsD (n : Nat) (s : Spn) : List D := (List.range s.r).map fun i => rL n (s.R i)
def clE (n : Nat) (s : Spn) (i : Nat) : D := .tup [.int (s.p i), rL n (s.b i), rL (i + 1) (s.m i)]
def clD (n : Nat) (s : Spn) : List D := (List.range s.r).map (clE n s)
def obD (n : Nat) (s : Spn) : D := .ob (rowsD n s) (clD n s)
/-- a for that is left at item q -/
theorem for_stop {f : List SV → SRes} {tg : List SV → D → Option (List SV)} {r : SRes} (hr : ∀ S, r ≠ .nx S) : ∀ (q : Nat) (P : Nat → List SV → Prop) (xs : List D) (S : List SV) (y : D), P 0 S → xs[q]? = some y →
    (∀ (j : Nat) (x : D) (S : List SV), j < q → xs[j]? = some x → P j S → ∃ S1 S2, tg S x = some S1 ∧ f S1 = .nx S2 ∧ P (j + 1) S2) → (∀ S, P q S → ∃ S1, tg S y = some S1 ∧ f S1 = r) → forL f tg xs S = r
  | 0, P, xs, S, y, h0, hy, _, hq => by
    cases xs with
    | nil => cases hy
    | cons x xs =>
      have : x = y := by simpa using hy
      subst this
      obtain ⟨S1, h1, h2⟩ := hq S h0
      rw [forL, h1]
      show (match f S1 with | .nx S2 => forL f tg xs S2 | r => r) = r
      rw [h2]
      cases r with
      | nx S2 => exact absurd rfl (hr S2)
      | _ => rfl
  | q + 1, P, xs, S, y, h0, hy, st, hq => by
    cases xs with
    | nil => cases hy
    | cons x xs =>
      obtain ⟨S1, S2, h1, h2, h3⟩ := st 0 x S (by omega) rfl h0
      rw [for_go h1 h2]
      exact for_stop hr q (fun j => P (j + 1)) xs S2 y h3 (by simpa using hy) (fun j z S hj hz hp => st (j + 1) z S (by omega) (by simpa using hz) hp) hq
theorem fr_num (q : Rat) : evSub (fr q) (.int 0) = .ok (.int q.num, .sh) := by simp [fr, evSub]
theorem fr_den (q : Rat) : evSub (fr q) (.int 1) = .ok (.int (q.den : Int), .sh) := by simp [fr, evSub]
theorem num0 {q : Rat} : q.num = 0 ↔ q = 0 := Rat.num_eq_zero
theorem pivot_none {n : Nat} {f : Nat → Rat} {x : D} (hx : Sq x (tabs n f)) (hn : n < 2 ^ 40) (h : ∀ k, k < n → f k = 0) : m_pivot_of [x] = .ok (.non, false) := by
  refine mir_ret ?_
  unfold b_pivot_of
  have hi := items_rng n (Nat.lt_of_lt_of_le hn (by decide))
  have hl := hx.len
  rw [tabs_len] at hl
  obtain ⟨S', h1, s, h2⟩ := for_rng (f := exSs fuel wb_pivot_of_1) (tg := fun S d => some (S.set 1 (.sh d))) (fun j S => ∃ s, S = [.sh x, s]) (n := n) (S := [.sh x, .no]) ⟨.no, rfl⟩ (by
    rintro j S hj ⟨s, rfl⟩
    have e := hx.sub (tabs_get (f := f) hj)
    rw [h j hj] at e
    exact ⟨_, _, rfl, by simp [wb_pivot_of_1, exSs, exS, evE, e, fr_num]; rfl, _, rfl⟩)
  show exSs fuel _ [.sh x, .no] = _
  rw [ss_go (S1 := S') (by
    rw [w_pivot_of_1, exS]
    simp [evI, evEs, evE, args1, hasBo, hl, hi]
    exact h1)]
  simp [exSs, exS, evE]
theorem pivot_some {n : Nat} {f : Nat → Rat} {x : D} (hx : Sq x (tabs n f)) (hn : n < 2 ^ 40) {q : Nat} (hq : q < n) (h : ∀ k, k < q → f k = 0) (h0 : f q ≠ 0) : m_pivot_of [x] = .ok (.int q, false) := by
  refine mir_ret ?_
  unfold b_pivot_of
  have hi := items_rng n (Nat.lt_of_lt_of_le hn (by decide))
  have hl := hx.len
  rw [tabs_len] at hl
  have h1 : forL (exSs fuel wb_pivot_of_1) (fun S d => some (S.set 1 (.sh d))) ((List.range n).map fun i : Nat => D.int i) [.sh x, .no] = .ret (.int q) false := for_stop (fun S e => by cases e) q (fun j S => ∃ s, S = [.sh x, s]) _ _ (.int q) ⟨.no, rfl⟩ (by simp [hq]) (by
    rintro j y S hj hy ⟨s, rfl⟩
    have e := hx.sub (tabs_get (f := f) (show j < n by omega))
    rw [h j hj] at e
    have : y = .int j := by
      rw [List.getElem?_map, List.getElem?_range (by omega)] at hy
      cases hy; rfl
    subst this
    exact ⟨_, _, rfl, by simp [wb_pivot_of_1, exSs, exS, evE, e, fr_num]; rfl, _, rfl⟩) (by
    rintro S ⟨s, rfl⟩
    have e := hx.sub (tabs_get (f := f) hq)
    have hz : (f q).num ≠ 0 := fun z => h0 (num0.mp z)
    exact ⟨_, rfl, by simp [wb_pivot_of_1, exSs, exS, evE, e, fr_num, hz]⟩)
  show exSs fuel _ [.sh x, .no] = _
  rw [ss_ret (d := .int q) (fr := false) (by
    rw [w_pivot_of_1, exS]
    simp [evI, evEs, evE, args1, hasBo, hl, hi]
    exact h1)]
/-- the first place that is not nought -/
theorem first_place (n : Nat) (f : Nat → Rat) : (∀ k, k < n → f k = 0) ∨ ∃ q, q < n ∧ f q ≠ 0 ∧ ∀ k, k < q → f k = 0 := by
  induction n with
  | zero => exact .inl fun k h => by omega
  | succ n ih =>
    rcases ih with h | ⟨q, h1, h2, h3⟩
    · by_cases e : f n = 0
      · exact .inl fun k hk => by
          by_cases ek : k = n
          · subst ek; exact e
          · exact h k (by omega)
      · exact .inr ⟨n, by omega, e, h⟩
    · exact .inr ⟨q, by omega, h2, h3⟩
/-! sizes -/
def Sml (X : Nat) (q : Rat) : Prop := q.den ≤ X ∧ q.num.natAbs ≤ X
theorem Sml.of {X D N : Nat} {q : Rat} (h : Fit D N q) (h1 : D ≤ X) (h2 : N ≤ X) : Sml X q := ⟨Nat.le_trans h.den_le h1, Nat.le_trans h.num_le h2⟩
theorem lg {a k : Nat} (h : a < 2 ^ k) (hk : k ≤ 390000) : a.log2 < 400000 := by
  by_cases e : a = 0
  · subst e; simp
  · exact Nat.lt_of_lt_of_le ((Nat.log2_lt e).mpr h) (by omega)
theorem Sml.sz {X : Nat} {q : Rat} (h : Sml X q) (hX : X < 2 ^ 390000) : Sz q := ⟨lg (Nat.lt_of_le_of_lt h.2 hX) (Nat.le_refl _), lg (Nat.lt_of_le_of_lt h.1 hX) (Nat.le_refl _)⟩
theorem Sml.mul {X Y : Nat} {p q : Rat} (h : Sml X p) (k : Sml Y q) : Sml (X * Y) (p * q) := by
  have f := (Fit.self p).mul (Fit.self q)
  exact Sml.of f (Nat.mul_le_mul h.1 k.1) (Nat.mul_le_mul h.2 k.2)
/-- what split works with -/
structure SCap (n : Nat) (s : Spn) (v : Nat → Rat) (X : Nat) : Prop where
  x : X * (X * X) < 2 ^ 9000
  hn : n ≤ 1000
  rest : ∀ i k, i ≤ s.r → k < n → Sml X (s.rest v i k)
  parts : ∀ i j, i ≤ s.r → j < s.r → Sml X (s.parts v i j)
  b : ∀ i k, i < s.r → k < n → Sml X (s.b i k)
  m : ∀ i j, i < s.r → j ≤ i → Sml X (s.m i j)
theorem ixN_nat {n j : Nat} (h : j < n) : ixN n (j : Int) = some j := by
  unfold ixN
  rw [if_pos (by omega), if_pos (by omega)]; simp
theorem tabs_set (n : Nat) (f : Nat → Rat) (j : Nat) (y : Rat) (g : Nat → Rat) (h1 : ∀ k, k < n → k ≠ j → g k = f k) (h2 : g j = y) : (tabs n f).set j (fr y) = tabs n g := by
  apply List.ext_getElem?
  intro k
  rw [List.getElem?_set]
  by_cases e : j = k
  · subst e
    rw [if_pos rfl, tabs_len]
    split
    · rename_i h; rw [tabs_get h, h2]
    · rename_i h; rw [List.getElem?_eq_none (by rw [tabs_len]; omega)]
  · rw [if_neg e]
    by_cases hk : k < n
    · rw [tabs_get hk, tabs_get hk, h1 k hk (fun z => e z.symm)]
    · rw [List.getElem?_eq_none (by rw [tabs_len]; omega), List.getElem?_eq_none (by rw [tabs_len]; omega)]
section
variable {n X : Nat} {s : Spn} {v : Nat → Rat}
theorem SCap.two (c : SCap n s v X) (h : 0 < s.r) : X * X < 2 ^ 9000 := by
  have p := (c.m 0 0 h (Nat.le_refl _)).1
  have : 0 < X := Nat.lt_of_lt_of_le (s.m 0 0).den_pos p
  exact Nat.lt_of_le_of_lt (Nat.le_mul_of_pos_left _ this) c.x
theorem SCap.one (c : SCap n s v X) : X < 2 ^ 9000 := by
  rcases Nat.eq_zero_or_pos X with e | e
  · rw [e]; exact Nat.pow_pos (by decide)
  · exact Nat.lt_of_le_of_lt (Nat.le_mul_of_pos_right _ (Nat.mul_pos e e)) c.x
theorem split_ok (h : s.Ok n) (c : SCap n s v X) {x : D} (hx : Sq x (tabs n v)) : m_Span_split [obD n s, x] = .ok (.tup [rL n (s.rest v s.r), rL s.r (s.parts v s.r)], true) := by
  have hrn := Spn.r_le h
  have hn := c.hn
  have hX1 : X < 2 ^ 390000 := pow_up c.one (by decide)
  refine mir_ret ?_
  unfold b_Span_split
  obtain ⟨S', l1, s4, s5, s6, s7, s8, l2⟩ := for_tab (f := exSs fuel wb_Span_split_2) (tg := tgU [4, 5, 6]) (fun i S => ∃ s4 s5 s6 s7 s8, S = [.sh (obD n s), .sh x, .ow (tabs n (s.rest v i)), .ow (tabs s.r (s.parts v i)), s4, s5, s6, s7, s8, .no, .no]) (clE n s) (n := s.r)
    (S := [.sh (obD n s), .sh x, .ow (tabs n v), .ow (tabs s.r fun _ => 0), .no, .no, .no, .no, .no, .no, .no]) ⟨.no, .no, .no, .no, .no, rfl⟩ (by
    rintro i S hi ⟨s4, s5, s6, s7, s8, rfl⟩
    have hp := h.pn i hi
    have hX2 := c.two (by omega)
    have hX2' : X * X < 2 ^ 390000 := pow_up hX2 (by decide)
    have e1 : evSub (.lst (tabs n (s.rest v i))) (.int (s.p i)) = .ok (fr (s.rest v i (s.p i)), .sh) := Sq.sub (.inr rfl) (tabs_get hp)
    have e2 : evSub (rL n (s.b i)) (.int (s.p i)) = .ok (fr (s.b i (s.p i)), .sh) := Sq.sub (.inr rfl) (tabs_get hp)
    by_cases hz : s.rest v i (s.p i) = 0
    · refine ⟨_, [.sh (obD n s), .sh x, .ow (tabs n (s.rest v i)), .ow (tabs s.r (s.parts v i)), .sh (.int (s.p i)), .sh (rL n (s.b i)), .sh (rL (i + 1) (s.m i)), s7, s8, .no, .no], rfl, ?_, .sh (.int (s.p i)), .sh (rL n (s.b i)), .sh (rL (i + 1) (s.m i)), s7, s8, ?_⟩
      · rw [hz] at e1
        simp [wb_Span_split_2, exSs, exS, evE, e1, fr_num]
      · have f0 : s.fac v i = 0 := by unfold Spn.fac; rw [hz]; grind
        have r1 : s.rest v (i + 1) = s.rest v i := funext fun k => by rw [Spn.rest_succ, f0]; grind
        have r2 : s.parts v (i + 1) = s.parts v i := funext fun j => by
          by_cases hj : j ≤ i
          · rw [Spn.parts_lo s v hj, f0]; grind
          · rw [Spn.parts_hi s v (by omega), Spn.parts_hi s v (by omega)]
        rw [r1, r2]
    · have hf : Sml X (s.fac v i) := by rw [Spn.fac_parts h v hi]; exact c.parts (i + 1) i (by omega) (by omega)
      have e3 : m_over [fr (s.rest v i (s.p i)), fr (s.b i (s.p i))] = .ok (fr (s.fac v i), false) := over_ok _ _ ((c.rest i _ (by omega) hp).sz hX1) ((c.b i _ hi hp).sz hX1) (h.b0 i hi) (Nat.lt_of_le_of_lt (Nat.mul_le_mul (c.rest i _ (by omega) hp).1 (c.b i _ hi hp).2) hX2)
      have e4 : ∀ s7 s8, s7 = SV.sh (fr (s.fac v i)) → evE c_Span_split_2 [.sh (obD n s), .sh x, .ow (tabs n (s.rest v i)), .ow (tabs s.r (s.parts v i)), .sh (.int (s.p i)), .sh (rL n (s.b i)), .sh (rL (i + 1) (s.m i)), s7, s8, .no, .no] = .ok (rL n (s.rest v (i + 1)), .fr) := by
        rintro _ s8 rfl
        rw [c_Span_split_2, ev_comp (n := n) (rs := [(.int n, .sh)]) (fun j : Nat => MP.D.int j) (fun k => fr (s.rest v (i + 1) k)) (by simp [evEs, evE, args1, evBlt, tabs_len]) (by simp [hasBo]) (by simp only [args1, List.map]; exact items_rng n (by omega)) (by omega) (fun k hk => ⟨.sh, by decide, by
          have t1 : evSub (.lst (tabs n (s.rest v i))) (.int k) = .ok (fr (s.rest v i k), .sh) := Sq.sub (.inr rfl) (tabs_get hk)
          have t2 : evSub (rL n (s.b i)) (.int k) = .ok (fr (s.b i k), .sh) := Sq.sub (.inr rfl) (tabs_get hk)
          have hb := c.b i k hi hk
          have hr := c.rest i k (by omega) hk
          have hm := hf.mul hb
          have t3 := times_ok (s.fac v i) (s.b i k) (hf.sz hX1) (hb.sz hX1) (Nat.lt_of_le_of_lt (Nat.mul_le_mul hf.1 hb.1) hX2)
          have t4 := minus_ok (s.rest v i k) (s.fac v i * s.b i k) (hr.sz hX1) (hm.sz hX2') (Nat.lt_of_le_of_lt (Nat.mul_le_mul hr.1 hm.1) c.x)
          rw [← Spn.rest_succ] at t4
          simp [ce_Span_split_2, evE, evEs, args1, hasBo, t1, t2, t3, t4]⟩)]
        rfl
      obtain ⟨S'', i1, s8', i2⟩ := for_rng (f := exSs fuel wb_Span_split_1) (tg := fun S d => some (S.set 8 (.sh d))) (fun j S => ∃ s8, S = [.sh (obD n s), .sh x, .ow (tabs n (s.rest v (i + 1))), .ow (tabs s.r fun l => if l < j then s.parts v i l + s.fac v i * s.m i l else s.parts v i l), .sh (.int (s.p i)), .sh (rL n (s.b i)), .sh (rL (i + 1) (s.m i)), .sh (fr (s.fac v i)), s8, .no, .no]) (n := i + 1)
        (S := [.sh (obD n s), .sh x, .ow (tabs n (s.rest v (i + 1))), .ow (tabs s.r (s.parts v i)), .sh (.int (s.p i)), .sh (rL n (s.b i)), .sh (rL (i + 1) (s.m i)), .sh (fr (s.fac v i)), s8, .no, .no]) ⟨s8, by
          have : (fun l => if l < 0 then s.parts v i l + s.fac v i * s.m i l else s.parts v i l) = s.parts v i := funext fun l => if_neg (Nat.not_lt_zero l)
          rw [this]⟩ (by
        rintro j S hj ⟨s8, rfl⟩
        refine ⟨_, [.sh (obD n s), .sh x, .ow (tabs n (s.rest v (i + 1))), .ow (tabs s.r fun l => if l < j + 1 then s.parts v i l + s.fac v i * s.m i l else s.parts v i l), .sh (.int (s.p i)), .sh (rL n (s.b i)), .sh (rL (i + 1) (s.m i)), .sh (fr (s.fac v i)), .sh (.int j), .no, .no], rfl, ?_, _, rfl⟩
        have t1 : evSub (.lst (tabs s.r fun l => if l < j then s.parts v i l + s.fac v i * s.m i l else s.parts v i l)) (.int j) = .ok (fr (s.parts v i j), .sh) := by
          have := Sq.sub (.inr rfl : Sq (.lst (tabs s.r fun l => if l < j then s.parts v i l + s.fac v i * s.m i l else s.parts v i l)) _) (tabs_get (f := fun l => if l < j then s.parts v i l + s.fac v i * s.m i l else s.parts v i l) (show j < s.r by omega))
          rw [this]
          show Res.ok (fr (if j < j then s.parts v i j + s.fac v i * s.m i j else s.parts v i j), Kd.sh) = _
          rw [if_neg (Nat.lt_irrefl j)]
        have t2 : evSub (rL (i + 1) (s.m i)) (.int j) = .ok (fr (s.m i j), .sh) := Sq.sub (.inr rfl) (tabs_get hj)
        have hb := c.m i j hi (by omega)
        have hr := c.parts i j (by omega) (by omega)
        have hm := hf.mul hb
        have t3 := times_ok (s.fac v i) (s.m i j) (hf.sz hX1) (hb.sz hX1) (Nat.lt_of_le_of_lt (Nat.mul_le_mul hf.1 hb.1) hX2)
        have t4 := plus_ok (s.parts v i j) (s.fac v i * s.m i j) (hr.sz hX1) (hm.sz hX2') (Nat.lt_of_le_of_lt (Nat.mul_le_mul hr.1 hm.1) c.x)
        have t5 := ixN_nat (show j < s.r by omega)
        have t6 := tabs_set s.r (fun l => if l < j then s.parts v i l + s.fac v i * s.m i l else s.parts v i l) j (s.parts v i j + s.fac v i * s.m i j) (fun l => if l < j + 1 then s.parts v i l + s.fac v i * s.m i l else s.parts v i l) (fun k _ hk => by
          show (if k < j + 1 then _ else _) = if k < j then _ else _
          by_cases hkj : k < j
          · rw [if_pos hkj, if_pos (by omega)]
          · rw [if_neg hkj, if_neg (by omega)]) (if_pos (by omega))
        simp [wb_Span_split_1, exSs, exS, evE, evEs, args1, hasBo, t1, t2, t3, t4, tabs_len, t5, t6])
      subst i2
      refine ⟨_, [.sh (obD n s), .sh x, .ow (tabs n (s.rest v (i + 1))), .ow (tabs s.r (s.parts v (i + 1))), .sh (.int (s.p i)), .sh (rL n (s.b i)), .sh (rL (i + 1) (s.m i)), .sh (fr (s.fac v i)), s8', .no, .no], rfl, ?_, _, _, _, _, _, rfl⟩
      have hz' : (s.rest v i (s.p i)).num ≠ 0 := fun e => hz (num0.mp e)
      have hi' := items_rng (i + 1) (by omega)
      have hpt : tabs s.r (fun l => if l < i + 1 then s.parts v i l + s.fac v i * s.m i l else s.parts v i l) = tabs s.r (s.parts v (i + 1)) := tabs_congr fun l hl => by
        by_cases hli : l ≤ i
        · rw [Spn.parts_lo s v hli, if_pos (by omega)]
        · rw [Spn.parts_hi s v (by omega), if_neg (by omega), Spn.parts_hi s v (by omega)]
      rw [hpt] at i1
      have e5 := e4 (.sh (fr (s.fac v i))) s8 rfl
      have e6 : exSs fuel [.set 7 (.call "over" m_over [(.sub (.loc 2) (.loc 4)), (.sub (.loc 5) (.loc 4))]), .own 2 c_Span_split_2, w_Span_split_1] [.sh (obD n s), .sh x, .ow (tabs n (s.rest v i)), .ow (tabs s.r (s.parts v i)), .sh (.int (s.p i)), .sh (rL n (s.b i)), .sh (rL (i + 1) (s.m i)), s7, s8, .no, .no] = .nx [.sh (obD n s), .sh x, .ow (tabs n (s.rest v (i + 1))), .ow (tabs s.r (s.parts v (i + 1))), .sh (.int (s.p i)), .sh (rL n (s.b i)), .sh (rL (i + 1) (s.m i)), .sh (fr (s.fac v i)), s8', .no, .no] := by
        rw [ss_go (S1 := [.sh (obD n s), .sh x, .ow (tabs n (s.rest v i)), .ow (tabs s.r (s.parts v i)), .sh (.int (s.p i)), .sh (rL n (s.b i)), .sh (rL (i + 1) (s.m i)), .sh (fr (s.fac v i)), s8, .no, .no]) (by simp [exS, evE, evEs, args1, hasBo, e1, e2, e3]),
          ss_go (S1 := [.sh (obD n s), .sh x, .ow (tabs n (s.rest v (i + 1))), .ow (tabs s.r (s.parts v i)), .sh (.int (s.p i)), .sh (rL n (s.b i)), .sh (rL (i + 1) (s.m i)), .sh (fr (s.fac v i)), s8, .no, .no]) (by rw [exS, e5]; rfl),
          ss_go (S1 := [.sh (obD n s), .sh x, .ow (tabs n (s.rest v (i + 1))), .ow (tabs s.r (s.parts v (i + 1))), .sh (.int (s.p i)), .sh (rL n (s.b i)), .sh (rL (i + 1) (s.m i)), .sh (fr (s.fac v i)), s8', .no, .no]) (by
            have hm : evBlt .len [rL (i + 1) (s.m i)] = .ok (.int ((i + 1 : Nat) : Int), .sh) := rL_len _ _
            rw [w_Span_split_1, exS]
            simp only [evI, evEs, evE, List.getElem?_cons_zero, List.getElem?_cons_succ, Res.bind, args1, List.map, hm, hasBo, List.any, hi']
            simp only [Bool.or_false, decide_eq_true_eq, bindS_ok]
            exact i1)]
        rw [exSs]
      have e7 : evE (.cmp .ne (.sub (.sub (.loc 2) (.loc 4)) (.int 0)) (.int 0)) [.sh (obD n s), .sh x, .ow (tabs n (s.rest v i)), .ow (tabs s.r (s.parts v i)), .sh (.int (s.p i)), .sh (rL n (s.b i)), .sh (rL (i + 1) (s.m i)), s7, s8, .no, .no] = .ok (.bl true, .sh) := by
        simp [evE, e1, fr_num, hz']
      rw [wb_Span_split_2]
      show exSs fuel _ [.sh (obD n s), .sh x, .ow (tabs n (s.rest v i)), .ow (tabs s.r (s.parts v i)), .sh (.int (s.p i)), .sh (rL n (s.b i)), .sh (rL (i + 1) (s.m i)), s7, s8, .no, .no] = _
      rw [ss_go (S1 := [.sh (obD n s), .sh x, .ow (tabs n (s.rest v (i + 1))), .ow (tabs s.r (s.parts v (i + 1))), .sh (.int (s.p i)), .sh (rL n (s.b i)), .sh (rL (i + 1) (s.m i)), .sh (fr (s.fac v i)), s8', .no, .no]) (by rw [exS, e7]; exact e6), exSs])
  subst l2
  have hl := hx
  have e0 : evBlt .list [x] = .ok (rL n v, .fr) := by
    rcases hx with rfl | rfl <;> rfl
  have ep : evE c_Span_split_1 [.sh (obD n s), .sh x, .ow (tabs n v), .no, .no, .no, .no, .no, .no, .no, .no] = .ok (rL s.r fun _ => 0, .fr) := by
    rw [c_Span_split_1, ev_comp (n := s.r) (rs := [(.lst (rowsD n s), .sh)]) (fun i => rL n (s.R i)) (fun _ => fr 0) (by simp [evEs, evE, obD, attrD]) (by simp [hasBo]) (by simp only [args1, List.map, rowsD]; rfl) (by omega) (fun k hk => ⟨.sh, by decide, by simp [ce_Span_split_1, evE, fr_zero]⟩)]
    rfl
  show exSs fuel _ [.sh (obD n s), .sh x, .no, .no, .no, .no, .no, .no, .no, .no, .no] = _
  rw [ss_go (S1 := [.sh (obD n s), .sh x, .ow (tabs n v), .no, .no, .no, .no, .no, .no, .no, .no]) (by
      simp only [exS, evE, evEs, List.getElem?_cons_zero, List.getElem?_cons_succ, Res.bind, args1, List.map, e0, bindS_ok]; rfl),
    ss_go (S1 := [.sh (obD n s), .sh x, .ow (tabs n v), .ow (tabs s.r fun _ => 0), .no, .no, .no, .no, .no, .no, .no]) (by rw [exS, ep]; rfl),
    ss_go (S1 := [.sh (obD n s), .sh x, .ow (tabs n (s.rest v s.r)), .ow (tabs s.r (s.parts v s.r)), s4, s5, s6, s7, s8, .no, .no]) (by
      rw [w_Span_split_2, exS]
      simp [evI, evEs, evE, args1, hasBo, obD, attrD, items]
      exact l1)]
  simp [exSs, exS]
  exact ⟨rfl, rfl⟩
end
end MP
set_option Elab.async false
set_option linter.all false
set_option maxRecDepth 100000
set_option maxHeartbeats 4000000
namespace MP
open PySem PySem.Spec PyProof.Rows L2 WM
section
variable {n X : Nat} {s : Spn} {v : Nat → Rat}
theorem holds_ok (h : s.Ok n) (c : SCap n s v X) {x : D} (hx : Sq x (tabs n v)) (b : Bool) (hb : b = true ↔ ∀ k, k < n → s.rest v s.r k = 0) : m_Span_holds [obD n s, x] = .ok (.bl b, false) := by
  have e := split_ok h c hx
  have hn : n < 2 ^ 40 := Nat.lt_of_le_of_lt c.hn (by decide)
  have es : evE (.sub (.mcall 0 "split" m_Span_split (.loc 1)) (.int 0)) [.sh (obD n s), .sh x] = .ok (rL n (s.rest v s.r), .sh) := by
    have ho : isOb (obD n s) = true := rfl
    simp [evE, ho, e, retD, evSub]
  refine mir_ret ?_
  unfold b_Span_holds
  show exSs fuel _ [.sh (obD n s), .sh x] = _
  rcases first_place n (s.rest v s.r) with z | ⟨q, h1, h2, h3⟩
  · have p := pivot_none (rL_sq n (s.rest v s.r)) hn z
    have : b = true := hb.mpr z
    subst this
    simp only [exSs, exS]
    rw [evE]
    have ec : evE (.call "pivot_of" m_pivot_of [(.sub (.mcall 0 "split" m_Span_split (.loc 1)) (.int 0))]) [.sh (obD n s), .sh x] = .ok (.non, .sh) := by
      rw [evE, evEs, es]
      simp [evEs, args1, p, hasBo]
    rw [ec]; rfl
  · have p := pivot_some (rL_sq n (s.rest v s.r)) hn h1 h3 h2
    have : b = false := by
      cases b with
      | false => rfl
      | true => exact absurd (hb.mp rfl q h1) h2
    subst this
    simp only [exSs, exS]
    rw [evE]
    have ec : evE (.call "pivot_of" m_pivot_of [(.sub (.mcall 0 "split" m_Span_split (.loc 1)) (.int 0))]) [.sh (obD n s), .sh x] = .ok (.int q, .sh) := by
      rw [evE, evEs, es]
      simp [evEs, args1, p, hasBo]
    rw [ec]; rfl
theorem noLs_tabs (f : Nat → Rat) : ∀ l : List Nat, noLs (l.map fun i => fr (f i)) = true
  | [] => rfl
  | x :: l => by
    rw [List.map, noLs, noLs_tabs f l]; rfl
theorem put_no (h : s.Ok n) (c : SCap n s v X) {x : D} (hx : Sq x (tabs n v)) (z : ∀ k, k < n → s.rest v s.r k = 0) : g_put (rowsD n s) (clD n s) x = .ok (false, rowsD n s, clD n s) := by
  have e : m_Span_split [.ob (rowsD n s) (clD n s), x] = _ := split_ok h c hx
  have hn : n < 2 ^ 40 := Nat.lt_of_le_of_lt c.hn (by decide)
  have p := pivot_none (rL_sq n (s.rest v s.r)) hn z
  have e2 : evE e2_put [.no, .sh x, .sh (.lst (tabs n (s.rest v s.r))), .sh (.lst (tabs s.r (s.parts v s.r))), .no, .no, .no] = .ok (.non, .sh) := by
    have p : m_pivot_of [.lst (tabs n (s.rest v s.r))] = _ := p
    simp [e2_put, evE, evEs, args1, p, hasBo]
  unfold g_put putG
  rw [e]
  simp only [rL, e2]
theorem rows_put (s : Spn) (n : Nat) (v : Nat → Rat) (q : Nat) : rowsD n (s.put v q) = rowsD n s ++ [rL n v] := by
  show (List.range (s.r + 1)).map (fun i => rL n (if i = s.r then v else s.R i)) = _
  rw [List.range_succ, List.map_append, List.map_cons, List.map_nil, if_pos rfl]
  congr 1
  exact List.map_congr_left fun i hi => by rw [if_neg (by have := List.mem_range.mp hi; omega)]
theorem cl_put (s : Spn) (n : Nat) (v : Nat → Rat) (q : Nat) : clD n (s.put v q) = clD n s ++ [.tup [.int q, rL n (s.rest v s.r), rL (s.r + 1) fun j => if j = s.r then 1 else - s.parts v s.r j]] := by
  show (List.range (s.r + 1)).map (fun i => MP.D.tup [.int ((if i = s.r then q else s.p i : Nat) : Int), rL n (if i = s.r then s.rest v s.r else s.b i), rL (i + 1) (if i = s.r then (fun j => if j = s.r then 1 else - s.parts v s.r j) else s.m i)]) = _
  rw [List.range_succ, List.map_append, List.map_cons, List.map_nil, if_pos rfl, if_pos rfl, if_pos rfl]
  congr 1
  exact List.map_congr_left fun i hi => by
    have : i ≠ s.r := by have := List.mem_range.mp hi; omega
    rw [if_neg this, if_neg this, if_neg this]; rfl
theorem put_yes (h : s.Ok n) (c : SCap n s v X) {x : D} (hx : Sq x (tabs n v)) {q : Nat} (hq : q < n) (h0 : s.rest v s.r q ≠ 0) (h3 : ∀ k, k < q → s.rest v s.r k = 0) : g_put (rowsD n s) (clD n s) x = .ok (true, rowsD n (s.put v q), clD n (s.put v q)) := by
  have e : m_Span_split [.ob (rowsD n s) (clD n s), x] = _ := split_ok h c hx
  have hn : n < 2 ^ 40 := Nat.lt_of_le_of_lt c.hn (by decide)
  have hrn := Spn.r_le h
  have hn' := c.hn
  have hX1 : X < 2 ^ 390000 := pow_up c.one (by decide)
  have p := pivot_some (rL_sq n (s.rest v s.r)) hn hq h3 h0
  have e2 : evE e2_put [.no, .sh x, .sh (.lst (tabs n (s.rest v s.r))), .sh (.lst (tabs s.r (s.parts v s.r))), .no, .no, .no] = .ok (.int q, .sh) := by
    have p : m_pivot_of [.lst (tabs n (s.rest v s.r))] = _ := p
    simp [e2_put, evE, evEs, args1, p, hasBo]
  have e3 : evE c_Span_put_1 [.no, .sh x, .sh (.lst (tabs n (s.rest v s.r))), .sh (.lst (tabs s.r (s.parts v s.r))), .sh (.int q), .no, .no] = .ok (rL s.r fun j => - s.parts v s.r j, .fr) := by
    rw [c_Span_put_1, ev_comp (n := s.r) (rs := [(.lst (tabs s.r (s.parts v s.r)), .sh)]) (fun j => fr (s.parts v s.r j)) (fun j => fr (- s.parts v s.r j)) (by simp [evEs, evE]) (by simp [hasBo]) (by simp only [args1, List.map, tabs]; rfl) (by omega) (fun k hk => ⟨.sh, by decide, by
      have hp := c.parts s.r k (Nat.le_refl _) hk
      have t := minus_ok 0 (s.parts v s.r k) ⟨by decide, by decide⟩ (hp.sz hX1) (by
        rw [show (0 : Rat).den = 1 from rfl, Nat.one_mul]; exact Nat.lt_of_le_of_lt hp.1 c.one)
      rw [show (0 : Rat) - s.parts v s.r k = - s.parts v s.r k by grind, fr_zero] at t
      simp [ce_Span_put_1, evE, evEs, args1, hasBo, t]⟩)]
    rfl
  have et : tabs s.r (fun j => - s.parts v s.r j) ++ [fr 1] = tabs (s.r + 1) fun j => if j = s.r then 1 else - s.parts v s.r j := by
    rw [tabs_snoc, if_pos rfl]
    congr 1
    exact tabs_congr fun i hi => by rw [if_neg (by omega)]
  have hl : (tabs s.r fun j => - s.parts v s.r j).length + 1 ≤ 16777216 := by rw [tabs_len]; omega
  have e4 : evE e4_put [.no, .sh x, .sh (.lst (tabs n (s.rest v s.r))), .sh (.lst (tabs s.r (s.parts v s.r))), .sh (.int q), .no, .no] = .ok (.lst (tabs (s.r + 1) fun j => if j = s.r then 1 else - s.parts v s.r j), .fr) := by
    rw [e4_put, evE, e3]
    rw [← et]
    simp [evE, evEs, args1, hasBo, evBin, rL, hl, fr_one]
  have e5 : seqOf x = some (tabs n v) := by
    rcases hx with rfl | rfl <;> rfl
  have e6 : noLs (tabs n (s.rest v s.r)) = true := noLs_tabs _ _
  have e7 : noLs (tabs (s.r + 1) fun j => if j = s.r then 1 else - s.parts v s.r j) = true := noLs_tabs _ _
  have e8 : (rowsD n s).length < 16777216 := by simp [rowsD]; omega
  have e9 : (clD n s).length < 16777216 := by simp [clD]; omega
  unfold g_put putG
  rw [e]
  simp only [rL, e2, e4, e5, e6, e7, e8, e9, and_self, if_true]
  rw [rows_put, cl_put]; rfl
end
/-! sizes -/
theorem Sml.zero {X : Nat} (h : 0 < X) : Sml X 0 := ⟨h, Nat.zero_le _⟩
theorem Sml.neg {X : Nat} {q : Rat} (h : Sml X q) : Sml X (-q) := by
  have f := (Fit.self q).neg
  exact Sml.of f h.1 h.2
/-- rows of sizes C, S; a row of sizes Cv, Sv; B, K the bounds -/
structure RCap (n : Nat) (s : Spn) (C S : Nat → Nat) (Cv Sv B K : Nat) : Prop where
  hn : n ≤ 1000
  S0 : ∀ j, j < s.r → 0 < S j
  Sv0 : 0 < Sv
  Cv0 : 0 < Cv
  C1 : ∀ j, j < s.r → C j ≤ K
  Cv1 : Cv ≤ K
  B1 : ∀ i, i ≤ s.r → (2 * i + 3) ^ i * (prodN i S * Sv) ≤ B
  B2 : ∀ i, i < s.r → (2 * i + 3) ^ i * (prodN i S * S i) ≤ B
  x : (1001 * (B * K)) * ((1001 * (B * K)) * (1001 * (B * K))) < 2 ^ 9000
theorem RCap.scap {n : Nat} {s : Spn} {C S : Nat → Nat} {Cv Sv B K : Nat} {v : Nat → Rat} (h : s.Ok n) (c : RCap n s C S Cv Sv B K) (hf : s.Fits n C S) (hv : ∀ k, k < n → Fit Cv Sv (v k)) : SCap n s v (1001 * (B * K)) := by
  have hrn := Spn.r_le h
  have hn := c.hn
  have hK : 0 < K := Nat.lt_of_lt_of_le c.Cv0 c.Cv1
  have hB : 0 < B := Nat.lt_of_lt_of_le (by
    have := c.Sv0
    show 0 < (2 * 0 + 3) ^ 0 * (prodN 0 S * Sv)
    rw [Nat.pow_zero, Nat.one_mul]
    show 0 < 1 * Sv
    omega) (c.B1 0 (Nat.zero_le _))
  have hBK : 0 < B * K := Nat.mul_pos hB hK
  have up : B * K ≤ 1001 * (B * K) := by omega
  have up2 : ∀ i P, i ≤ s.r → P ≤ B → (i + 1) * P ≤ 1001 * (B * K) := fun i P hi hP =>
    Nat.mul_le_mul (show i + 1 ≤ 1001 by omega) (Nat.le_trans hP (Nat.le_mul_of_pos_right _ hK))
  have cut := fun {i : Nat} (hi : i ≤ s.r) {u a : Nat → Rat} {Cu Su : Nat} (h1 : 0 < Cu) (h2 : ∀ k, k < n → Fit Cu Su (u k)) (h3 : 0 < Su) (h4 : Cu ≤ K) (h5 : (2 * i + 3) ^ i * (prodN i S * Su) ≤ B) (h6 : ∀ l, l < i → u (s.p l) = s.sum i a (s.p l)) =>
    show (∀ j, j < i → Sml (1001 * (B * K)) (a j)) ∧ ∀ k, k < n → Sml (1001 * (B * K)) (u k - s.sum i a k) from by
    obtain ⟨t, t0, t1, t2, t3⟩ := Spn.cut_fit h hf c.S0 hi h1 h2 h3 h6
    have tB : t * Cu ≤ B * K := Nat.mul_le_mul (Nat.le_trans (Nat.le_mul_of_pos_right _ h3) (Nat.le_trans t1 h5)) h4
    refine ⟨fun j hj => Sml.of (t2 j hj) (Nat.le_trans tB up) (Nat.le_trans (Nat.mul_le_mul h5 (c.C1 j (by omega))) up), fun k hk => Sml.of (t3 k hk) (Nat.le_trans tB up) (up2 i _ hi h5)⟩
  have eqv : ∀ i, i ≤ s.r → ∀ l, l < i → v (s.p l) = s.sum i (s.parts v i) (s.p l) := fun i hi l hl => by
    have a := Spn.rest_parts h v i hi (s.p l) (h.pn l (by omega))
    rw [Spn.rest_piv h v i hi l hl] at a
    grind
  have bm : ∀ i k, i < s.r → k < n → s.b i k = s.R i k - s.sum i (fun j => - s.m i j) k := fun i k hi hk => by
    rw [h.bm i k hi hk]
    show s.sum i (s.m i) k + s.m i i * s.R i k = _
    rw [h.m1 i hi]
    have : s.sum i (fun j => - s.m i j) k = - s.sum i (s.m i) k := by
      show sm _ _ = - sm _ _
      rw [← sm_neg]
      exact sm_congr fun j _ => by grind
    rw [this]; grind
  have eqb : ∀ i, i < s.r → ∀ l, l < i → s.R i (s.p l) = s.sum i (fun j => - s.m i j) (s.p l) := fun i hi l hl => by
    have a := bm i (s.p l) hi (h.pn l (by omega))
    rw [h.bl i l hi hl] at a
    grind
  have hCi : ∀ i, i < s.r → 0 < C i := fun i hi => (hf i (s.p i) hi (h.pn i hi)).1
  refine ⟨c.x, hn, fun i k hi hk => ?_, fun i j hi hj => ?_, fun i k hi hk => ?_, fun i j hi hj => ?_⟩
  · have := (cut hi c.Cv0 hv c.Sv0 c.Cv1 (c.B1 i hi) (eqv i hi)).2 k hk
    rwa [← Spn.rest_parts h v i hi k hk] at this
  · by_cases e : j < i
    · exact (cut hi c.Cv0 hv c.Sv0 c.Cv1 (c.B1 i hi) (eqv i hi)).1 j e
    · rw [Spn.parts_hi s v (by omega)]
      exact Sml.zero (by omega)
  · have := (cut (Nat.le_of_lt hi) (hCi i hi) (fun k hk => hf i k hi hk) (c.S0 i hi) (c.C1 i hi) (c.B2 i hi) (eqb i hi)).2 k hk
    rwa [← bm i k hi hk] at this
  · by_cases e : j < i
    · have := (cut (Nat.le_of_lt hi) (hCi i hi) (fun k hk => hf i k hi hk) (c.S0 i hi) (c.C1 i hi) (c.B2 i hi) (eqb i hi)).1 j e
      have := this.neg
      rwa [show - - s.m i j = s.m i j by grind] at this
    · have : j = i := by omega
      subst this
      rw [h.m1 j hi]
      exact ⟨by show 1 ≤ _; omega, by show 1 ≤ _; omega⟩
end MP
set_option Elab.async false
set_option linter.all false
/-! the search for a word that parts: the plain mathematics -/
namespace WM
/-- a word's place in the order of words -/
def idx (k : Nat) (w : List Nat) : Nat := w.foldl (fun a s => a * k + s + 1) 0
def idxFrom (k a : Nat) (w : List Nat) : Nat := w.foldl (fun a s => a * k + s + 1) a
theorem idx_app (k : Nat) (u w : List Nat) : idx k (u ++ w) = idxFrom k (idx k u) w := List.foldl_append
theorem idx_snoc (k : Nat) (u : List Nat) (s : Nat) : idx k (u ++ [s]) = idx k u * k + s + 1 := idx_app k u [s]
theorem idxFrom_lt {k : Nat} (hk : 0 < k) : ∀ (w : List Nat) {a b : Nat}, a < b → idxFrom k a w < idxFrom k b w
  | [], _, _, h => h
  | s :: w, a, b, h => by
    show idxFrom k (a * k + s + 1) w < idxFrom k (b * k + s + 1) w
    refine idxFrom_lt hk w ?_
    have : a * k < b * k := Nat.mul_lt_mul_of_pos_right h hk
    omega
theorem idxFrom_ge {k : Nat} (hk : 0 < k) : ∀ (w : List Nat) (a : Nat), a ≤ idxFrom k a w
  | [], a => Nat.le_refl a
  | s :: w, a => by
    have h := idxFrom_ge hk w (a * k + s + 1)
    have : a ≤ a * k := Nat.le_mul_of_pos_right _ hk
    show a ≤ idxFrom k (a * k + s + 1) w
    omega
theorem idx_app_lt {k : Nat} (hk : 0 < k) {u v : List Nat} (w : List Nat) (h : idx k u < idx k v) : idx k (u ++ w) < idx k (v ++ w) := by
  rw [idx_app, idx_app]; exact idxFrom_lt hk w h
theorem idx_app_ge {k : Nat} (hk : 0 < k) (u w : List Nat) : idx k u ≤ idx k (u ++ w) := by
  rw [idx_app]; exact idxFrom_ge hk w _
/-- children of an earlier word stand ahead -/
theorem idx_kids {k : Nat} {u v : List Nat} {s t : Nat} (hs : s < k) (h : idx k u < idx k v) : idx k (u ++ [s]) < idx k (v ++ [t]) := by
  rw [idx_snoc, idx_snoc]
  have : (idx k u + 1) * k ≤ idx k v * k := Nat.mul_le_mul_right _ h
  rw [Nat.add_mul, Nat.one_mul] at this
  omega
def Word (k : Nat) (w : List Nat) : Prop := ∀ t ∈ w, t < k
theorem sum_wt (m : Mac) {s : Spn} {kw : Nat → List Nat} (hR : ∀ i, i < s.r → s.R i = m.row (kw i)) {x : List Nat} {c : Nat → Rat} (h : ∀ b, b < m.n → m.row x b = s.sum s.r c b) (y : List Nat) : m.wt (x ++ y) = sm s.r fun i => c i * m.wt (kw i ++ y) := by
  rw [Mac.wt_app]
  have e : sm m.n (fun a => m.row x a * m.col y a) = sm m.n (fun a => sm s.r (fun i => c i * (m.row (kw i) a * m.col y a))) := sm_congr fun a ha => by
    rw [h a ha]
    show sm s.r _ * _ = _
    rw [← sm_mulr]
    exact sm_congr fun i hi => by rw [hR i hi]; grind
  rw [e, sm_swap (fun a i => c i * (m.row (kw i) a * m.col y a))]
  exact sm_congr fun i _ => by rw [sm_mul, Mac.wt_app]
theorem Mac.wt_L0' (m : Mac) (w : List Nat) : ({ m with L := Mac.zero } : Mac).wt w = 0 := sm_zero fun a _ => by show _ * Mac.zero a = 0; unfold Mac.zero; grind
/-- the line of words, how many are done, the span, the words that were kept -/
structure LInv (m : Mac) (ws : List (List Nat)) (n : Nat) (s : Spn) (kw : Nat → List Nat) : Prop where
  ok : s.Ok m.n
  R : ∀ i, i < s.r → s.R i = m.row (kw i)
  len : ws.length = 1 + m.k * s.r
  nl : n ≤ ws.length
  w0 : [] ∈ ws
  dig : ∀ u ∈ ws, Word m.k u
  kid : ∀ (i t : Nat), i < s.r → t < m.k → kw i ++ [t] ∈ ws
  wl : ∀ u ∈ ws, u.length ≤ s.r
  kl : ∀ i, i < s.r → (kw i).length ≤ i
  inc : ∀ (a b : Nat) (u w : List Nat), a < b → ws[a]? = some u → ws[b]? = some w → idx m.k u < idx m.k w
  last : ∀ u ∈ ws, u = [] ∨ ∃ i t, i < s.r ∧ t < m.k ∧ u = kw i ++ [t]
  kat : ∀ i, i < s.r → ∃ j, j < n ∧ ws[j]? = some (kw i)
  zero : ∀ (j : Nat) (u : List Nat), j < n → ws[j]? = some u → m.wt u = 0
  done : ∀ (j : Nat) (u : List Nat), j < n → ws[j]? = some u → (∃ i, i < s.r ∧ kw i = u) ∨ ∃ c : Nat → Rat, (∀ i, i < s.r → ¬ idx m.k (kw i) < idx m.k u → c i = 0) ∧ ∀ b, b < m.n → m.row u b = s.sum s.r c b
theorem LInv.init (m : Mac) : LInv m [[]] 0 Spn.empty (fun _ => []) where
  ok := Spn.Ok.empty _
  R := fun i h => absurd h (Nat.not_lt_zero i)
  len := by show 1 = 1 + m.k * 0; omega
  nl := Nat.zero_le _
  w0 := List.mem_cons_self
  dig := fun u hu t ht => by
    have : u = [] := by simpa using hu
    subst this; cases ht
  kid := fun i t h => absurd h (Nat.not_lt_zero i)
  wl := fun u hu => by
    have : u = [] := by simpa using hu
    subst this; exact Nat.le_refl _
  kl := fun i h => absurd h (Nat.not_lt_zero i)
  inc := fun a b u w h h1 h2 => by
    have : b < 1 := by
      apply Classical.byContradiction
      intro z
      rw [List.getElem?_eq_none (by show 1 ≤ b; omega)] at h2; cases h2
    omega
  last := fun u hu => .inl (by simpa using hu)
  kat := fun i h => absurd h (Nat.not_lt_zero i)
  zero := fun j u h => absurd h (Nat.not_lt_zero j)
  done := fun j u h => absurd h (Nat.not_lt_zero j)
section
variable {m : Mac} {ws : List (List Nat)} {n : Nat} {s : Spn} {kw : Nat → List Nat}
/-- without the last numbers -/
theorem LInv.drop (I : LInv m ws n s kw) : LInv { m with L := Mac.zero } ws n s kw :=
  ⟨I.ok, I.R, I.len, I.nl, I.w0, I.dig, I.kid, I.wl, I.kl, I.inc, I.last, I.kat, fun j u _ _ => Mac.wt_L0' _ u, I.done⟩
theorem LInv.kat_lt (I : LInv m ws n s kw) {u : List Nat} (hu : ws[n]? = some u) {i : Nat} (hi : i < s.r) : idx m.k (kw i) < idx m.k u := by
  obtain ⟨j, hj, e⟩ := I.kat i hi
  exact I.inc j n _ _ hj e hu
theorem LInv.row_sum (I : LInv m ws n s kw) {u : List Nat} (h0 : ∀ b, b < m.n → s.rest (m.row u) s.r b = 0) : ∀ b, b < m.n → m.row u b = s.sum s.r (s.parts (m.row u) s.r) b := fun b hb => Spn.sum_of_rest I.ok hb (h0 b hb)
theorem get_lt {ws : List (List Nat)} {n : Nat} {u : List Nat} (hu : ws[n]? = some u) : n < ws.length := by
  apply Classical.byContradiction
  intro z
  rw [List.getElem?_eq_none (by omega)] at hu; cases hu
theorem LInv.step_no (I : LInv m ws n s kw) {u : List Nat} (hu : ws[n]? = some u) (hz : m.wt u = 0) (h0 : ∀ b, b < m.n → s.rest (m.row u) s.r b = 0) : LInv m ws (n + 1) s kw :=
  { I with
    nl := get_lt hu
    kat := fun i hi => by obtain ⟨j, h1, h2⟩ := I.kat i hi; exact ⟨j, by omega, h2⟩
    zero := fun j w hj hw => by
      by_cases e : j = n
      · subst e; rw [hu] at hw; cases hw; exact hz
      · exact I.zero j w (by omega) hw
    done := fun j w hj hw => by
      by_cases e : j = n
      · subst e; rw [hu] at hw; cases hw
        exact .inr ⟨_, fun i hi h => absurd (I.kat_lt hu hi) h, I.row_sum h0⟩
      · exact I.done j w (by omega) hw }
/-- one word more behind those kept -/
def consW (r : Nat) (kw : Nat → List Nat) (u : List Nat) (i : Nat) : List Nat := if i = r then u else kw i
theorem consW_lo {r i : Nat} {kw : Nat → List Nat} {u : List Nat} (h : i < r) : consW r kw u i = kw i := if_neg (by omega)
theorem consW_hi (r : Nat) (kw : Nat → List Nat) (u : List Nat) : consW r kw u r = u := if_pos rfl
theorem kids_get {k b : Nat} {u w : List Nat} (h : ((List.range k).map fun t => u ++ [t])[b]? = some w) : b < k ∧ w = u ++ [b] := by
  rw [List.getElem?_map] at h
  by_cases hb : b < k
  · rw [List.getElem?_range hb] at h
    cases h
    exact ⟨hb, rfl⟩
  · rw [List.getElem?_eq_none (by simpa using hb)] at h; cases h
theorem LInv.step_yes (I : LInv m ws n s kw) {u : List Nat} (hu : ws[n]? = some u) (hz : m.wt u = 0) {q : Nat} (hq : q < m.n) (h0 : s.rest (m.row u) s.r q ≠ 0) :
    LInv m (ws ++ (List.range m.k).map fun t => u ++ [t]) (n + 1) (s.put (m.row u) q) (consW s.r kw u) := by
  have hmem : u ∈ ws := List.mem_of_getElem? hu
  have hlt := get_lt hu
  have r1 : (s.put (m.row u) q).r = s.r + 1 := rfl
  have old : ∀ {j : Nat} {w : List Nat}, j < ws.length → (ws ++ (List.range m.k).map fun t => u ++ [t])[j]? = some w → ws[j]? = some w := fun {j w} hj h => by
    rwa [List.getElem?_append_left hj] at h
  have up : ∀ {j : Nat} {w : List Nat}, ws[j]? = some w → (ws ++ (List.range m.k).map fun t => u ++ [t])[j]? = some w := fun {j w} h => by
    rw [List.getElem?_append_left (get_lt h)]; exact h
  refine ⟨I.ok.put hq h0, fun i hi => ?_, ?_, ?_, ?_, fun w hw => ?_, fun i t hi ht => ?_, fun w hw => ?_, fun i hi => ?_, fun a b w x hab ha hb => ?_, fun w hw => ?_, fun i hi => ?_, fun j w hj hw => ?_, fun j w hj hw => ?_⟩
  · show (if i = s.r then m.row u else s.R i) = m.row (if i = s.r then u else kw i)
    split
    · rfl
    · exact I.R i (by rw [r1] at hi; omega)
  · rw [List.length_append, List.length_map, List.length_range, I.len, r1, Nat.mul_add]; omega
  · rw [List.length_append]; omega
  · exact List.mem_append_left _ I.w0
  · rcases List.mem_append.mp hw with h | h
    · exact I.dig w h
    · obtain ⟨t, h1, rfl⟩ := List.mem_map.mp h
      intro y hy
      rcases List.mem_append.mp hy with h2 | h2
      · exact I.dig u hmem y h2
      · have : y = t := by simpa using h2
        subst this; exact List.mem_range.mp h1
  · by_cases e : i = s.r
    · subst e
      rw [consW_hi]
      exact List.mem_append_right _ (List.mem_map.mpr ⟨t, List.mem_range.mpr ht, rfl⟩)
    · rw [r1] at hi
      rw [consW_lo (by omega)]
      exact List.mem_append_left _ (I.kid i t (by omega) ht)
  · rw [r1]
    rcases List.mem_append.mp hw with h | h
    · have := I.wl w h; omega
    · obtain ⟨t, h1, rfl⟩ := List.mem_map.mp h
      have := I.wl u hmem
      rw [List.length_append, List.length_singleton]; omega
  · by_cases e : i = s.r
    · subst e
      rw [consW_hi]
      exact I.wl u hmem
    · rw [r1] at hi
      rw [consW_lo (by omega)]
      exact I.kl i (by omega)
  · by_cases hb' : b < ws.length
    · exact I.inc a b w x hab (old (by omega) ha) (old hb' hb)
    · rw [List.getElem?_append_right (by omega)] at hb
      obtain ⟨b1, rfl⟩ := kids_get hb
      by_cases ha' : a < ws.length
      · have ha := old ha' ha
        rcases I.last w (List.mem_of_getElem? ha) with e | ⟨i, t, hi, ht, e⟩
        · subst e
          rw [idx_snoc]
          show 0 < _
          omega
        · subst e
          exact idx_kids ht (I.kat_lt hu hi)
      · rw [List.getElem?_append_right (by omega)] at ha
        obtain ⟨a1, rfl⟩ := kids_get ha
        rw [idx_snoc, idx_snoc]; omega
  · rw [r1]
    rcases List.mem_append.mp hw with h | h
    · rcases I.last w h with e | ⟨i, t, hi, ht, e⟩
      · exact .inl e
      · exact .inr ⟨i, t, by omega, ht, by rw [consW_lo hi]; exact e⟩
    · obtain ⟨t, h1, rfl⟩ := List.mem_map.mp h
      exact .inr ⟨s.r, t, by omega, List.mem_range.mp h1, by rw [consW_hi]⟩
  · by_cases e : i = s.r
    · subst e
      rw [consW_hi]
      exact ⟨n, by omega, up hu⟩
    · rw [r1] at hi
      rw [consW_lo (by omega)]
      obtain ⟨j, h1, h2⟩ := I.kat i (by omega)
      exact ⟨j, by omega, up h2⟩
  · have hw := old (by omega) hw
    by_cases e : j = n
    · subst e; rw [hu] at hw; cases hw; exact hz
    · exact I.zero j w (by omega) hw
  · have hw := old (by omega) hw
    by_cases e : j = n
    · subst e; rw [hu] at hw; cases hw
      exact .inl ⟨s.r, by omega, consW_hi _ _ _⟩
    · rcases I.done j w (by omega) hw with ⟨i, h1, h2⟩ | ⟨c, h1, h2⟩
      · exact .inl ⟨i, by omega, by rw [consW_lo h1]; exact h2⟩
      · refine .inr ⟨fun i => if i = s.r then 0 else c i, fun i hi h => ?_, fun b hb => ?_⟩
        · show (if i = s.r then (0 : Rat) else c i) = 0
          split
          · rfl
          · have hi' : i < s.r := by rw [r1] at hi; omega
            rw [consW_lo hi'] at h
            exact h1 i hi' h
        · rw [h2 b hb]
          show sm s.r (fun i => c i * s.R i b) = sm s.r (fun i => (if i = s.r then 0 else c i) * (if i = s.r then m.row u else s.R i) b) + (if s.r = s.r then (0 : Rat) else c s.r) * _
          rw [if_pos rfl]
          have : sm s.r (fun i => c i * s.R i b) = sm s.r (fun i => (if i = s.r then 0 else c i) * (if i = s.r then m.row u else s.R i) b) := sm_congr fun i hi => by
            rw [if_neg (by omega), if_neg (by omega)]
          rw [this]; grind
/-- where a word stands -/
theorem LInv.where_ (I : LInv m ws n s kw) (hk : 0 < m.k) : ∀ (l : Nat) (w : List Nat), w.length = l → Word m.k w → (∃ x y j, w = x ++ y ∧ n ≤ j ∧ ws[j]? = some x) ∨
    (∃ x y, w = x ++ y ∧ ∃ c : Nat → Rat, (∀ i, i < s.r → ¬ idx m.k (kw i) < idx m.k x → c i = 0) ∧ ∀ b, b < m.n → m.row x b = s.sum s.r c b) ∨ ((∃ i, i < s.r ∧ kw i = w) ∧ ∃ j, j < n ∧ ws[j]? = some w) := by
  intro l
  induction l with
  | zero =>
    intro w hw _
    have : w = [] := List.eq_nil_of_length_eq_zero hw
    subst this
    obtain ⟨j, hj⟩ := List.getElem?_of_mem I.w0
    by_cases e : n ≤ j
    · exact .inl ⟨[], [], j, rfl, e, hj⟩
    · rcases I.done j [] (by omega) hj with h | h
      · exact .inr (.inr ⟨h, j, by omega, hj⟩)
      · exact .inr (.inl ⟨[], [], rfl, h⟩)
  | succ l ih =>
    intro w hw hd
    obtain ⟨u, t, rfl⟩ : ∃ u t, w = u ++ [t] := by
      rcases List.eq_nil_or_concat w with h | ⟨u, t, h⟩
      · subst h; cases hw
      · exact ⟨u, t, by rw [h, List.concat_eq_append]⟩
    have hu : u.length = l := by simpa using hw
    have ht : t < m.k := hd t (List.mem_append_right _ List.mem_cons_self)
    rcases ih u hu (fun y hy => hd y (List.mem_append_left _ hy)) with ⟨x, y, j, e, h1, h2⟩ | ⟨x, y, e, h⟩ | ⟨⟨i, h1, h2⟩, _⟩
    · exact .inl ⟨x, y ++ [t], j, by rw [e, List.append_assoc], h1, h2⟩
    · exact .inr (.inl ⟨x, y ++ [t], by rw [e, List.append_assoc], h⟩)
    · have hm := I.kid i t h1 ht
      rw [h2] at hm
      obtain ⟨j, hj⟩ := List.getElem?_of_mem hm
      by_cases e : n ≤ j
      · exact .inl ⟨u ++ [t], [], j, by rw [List.append_nil], e, hj⟩
      · rcases I.done j _ (by omega) hj with h | h
        · exact .inr (.inr ⟨h, j, by omega, hj⟩)
        · exact .inr (.inl ⟨u ++ [t], [], by rw [List.append_nil], h⟩)
/-- words ahead of those that wait weigh nought -/
theorem LInv.ahead (I : LInv m ws n s kw) (hk : 0 < m.k) : ∀ (N : Nat) (w : List Nat), idx m.k w ≤ N → Word m.k w → (∀ j u, n ≤ j → ws[j]? = some u → idx m.k w < idx m.k u) → m.wt w = 0 := by
  intro N
  induction N using Nat.strongRecOn with
  | ind N ih =>
    intro w hN hd hp
    rcases I.where_ hk w.length w rfl hd with ⟨x, y, j, e, h1, h2⟩ | ⟨x, y, e, c, h1, h2⟩ | ⟨_, j, h1, h2⟩
    · have := hp j x h1 h2
      rw [e] at this
      have := idx_app_ge hk x y
      omega
    · subst e
      rw [sum_wt m I.R h2 y]
      exact sm_zero fun i hi => by
        by_cases hx : idx m.k (kw i) < idx m.k x
        · have hlt := idx_app_lt hk y hx
          have hdw : Word m.k (kw i ++ y) := fun t ht => by
            rcases List.mem_append.mp ht with h | h
            · obtain ⟨j, _, hj⟩ := I.kat i hi
              exact I.dig _ (List.mem_of_getElem? hj) t h
            · exact hd t (List.mem_append_right _ h)
          rw [ih (idx m.k (kw i ++ y)) (by omega) (kw i ++ y) (Nat.le_refl _) hdw (fun j u a b => Nat.lt_trans hlt (hp j u a b))]
          grind
        · rw [h1 i hi hx]; grind
    · exact I.zero j w h1 h2
/-- a word that parts is the first one, and short -/
theorem LInv.found (I : LInv m ws n s kw) (hk : 0 < m.k) {u : List Nat} (hu : ws[n]? = some u) (hz : m.wt u ≠ 0) : u.length + 1 ≤ m.n ∧ ∀ w, Word m.k w → idx m.k w < idx m.k u → m.wt w = 0 := by
  constructor
  · have hl := I.wl u (List.mem_of_getElem? hu)
    have hr : s.r + 1 ≤ m.n := by
      apply Classical.byContradiction
      intro hn
      have h0 : ∀ b, b < m.n → s.rest (m.row u) s.r b = 0 := by
        intro b hb
        apply Classical.byContradiction
        intro hne
        have := Spn.r_le (I.ok.put hb hne)
        have : s.r + 1 ≤ m.n := this
        omega
      have e := sum_wt m I.R (I.row_sum h0) []
      rw [List.append_nil] at e
      refine hz (e.trans (sm_zero fun i hi => ?_))
      obtain ⟨j, hj, hw⟩ := I.kat i hi
      rw [List.append_nil, I.zero j _ hj hw]; grind
    omega
  · intro w hw hlt
    refine I.ahead hk _ w (Nat.le_refl _) hw fun j x hj hx => ?_
    by_cases e : j = n
    · subst e; rw [hu] at hx; cases hx; exact hlt
    · exact Nat.lt_trans hlt (I.inc n j u x (by omega) hu hx)
theorem LInv.all (I : LInv m ws ws.length s kw) (hk : 0 < m.k) (w : List Nat) (hw : Word m.k w) : m.wt w = 0 :=
  I.ahead hk _ w (Nat.le_refl _) hw fun j u hj hu => by have := get_lt hu; omega
/-- the rows that were kept show it -/
theorem LInv.shows (I : LInv m ws ws.length s kw) : (∀ i, i < s.r → m.dotL (s.R i) = 0) ∧ (∃ c, ∀ b, b < m.n → m.F b = s.sum s.r c b) ∧ ∀ i t, i < s.r → t < m.k → ∃ c, ∀ b, b < m.n → m.step (s.R i) t b = s.sum s.r c b := by
  have one : ∀ w ∈ ws, ∃ c, ∀ b, b < m.n → m.row w b = s.sum s.r c b := fun w hw => by
    obtain ⟨j, hj⟩ := List.getElem?_of_mem hw
    rcases I.done j w (get_lt hj) hj with ⟨i, h1, h2⟩ | ⟨c, _, h⟩
    · refine ⟨fun l => if l = i then 1 else 0, fun b hb => ?_⟩
      show _ = sm s.r fun l => (if l = i then (1 : Rat) else 0) * s.R l b
      rw [sm_one h1 (fun l _ hl => by rw [if_neg hl]; grind), if_pos rfl, I.R i h1, h2]; grind
    · exact ⟨c, h⟩
  refine ⟨fun i hi => ?_, one [] I.w0, fun i t hi ht => ?_⟩
  · obtain ⟨j, hj, hw⟩ := I.kat i hi
    rw [I.R i hi]
    exact I.zero j _ hj hw
  · obtain ⟨c, h⟩ := one _ (I.kid i t hi ht)
    refine ⟨c, fun b hb => ?_⟩
    rw [I.R i hi, ← Mac.row_snoc]
    exact h b hb
end
end WM
set_option Elab.async false
set_option linter.all false
set_option maxRecDepth 100000
set_option maxHeartbeats 4000000
namespace MP
open PySem PySem.Spec PyProof.Rows L2 WM
noncomputable def ce_apart_1 : ME := (.call "side_by_side" m_side_by_side [(.sub (.sub (.loc 0) (.int 1)) (.loc 3)), (.sub (.sub (.loc 1) (.int 1)) (.loc 3))])
noncomputable def c_apart_1 : ME := .comp ce_apart_1 3 .range1 [(.blt .len [(.sub (.loc 0) (.int 1))])]
noncomputable def ce_apart_2 : ME := (.call "minus" m_minus [(.glo "NOUGHT" (.tup [(.int 0), (.int 1)])), (.loc 4)])
noncomputable def c_apart_2 : ME := .comp ce_apart_2 4 .val [(.sub (.loc 1) (.int 2))]
noncomputable def b_apart : List MS := [.set 2 c_apart_1, .ret (.tup [(.bin .add (.sub (.loc 0) (.int 0)) (.sub (.loc 1) (.int 0))), (.loc 2), (.bin .add (.sub (.loc 0) (.int 2)) (.blt .tuple [c_apart_2]))])]
noncomputable def m_apart : Fn := mirror 5 fuel b_apart
noncomputable def wb_looked_for_1 : List MS := [.app 4 (.tup [(.bin .add (.loc 6) (.tup [(.loc 8)])), (.call "led" m_led [(.loc 7), (.sub (.sub (.loc 2) (.int 1)) (.loc 8))])])]
noncomputable def w_looked_for_1 : MS := .forI 8 .range1 [(.blt .len [(.sub (.loc 2) (.int 1))])] wb_looked_for_1
noncomputable def wb_looked_for_2 : List MS := [.unp [6, 7] (.sub (.loc 4) (.loc 5)), .set 5 (.bin .add (.loc 5) (.int 1)), .ife (.cmp .ne (.sub (.call "dot" m_dot [(.loc 7), (.sub (.loc 2) (.int 2))]) (.int 0)) (.int 0)) [.retT (.loc 6) (.lst [])] [], .ifPut 3 g_put (.loc 7) [w_looked_for_1] []]
noncomputable def wc_looked_for_2 : ME := (.cmp .lt (.loc 5) (.blt .len [(.loc 4)]))
noncomputable def w_looked_for_2 : MS := .whil wc_looked_for_2 wb_looked_for_2
noncomputable def b_looked_for : List MS := [.exp (.call "see_signs" m_see_signs [(.loc 0), (.loc 1)]), .set 2 (.call "apart" m_apart [(.loc 0), (.loc 1)]), .mk 3, .own 4 (.lst [(.tup [(.tup []), (.blt .list [(.sub (.loc 2) (.int 0))])])]), .set 5 (.int 0), w_looked_for_2, .retO .non 3]
noncomputable def m_looked_for : Fn := mirror 9 fuel b_looked_for
noncomputable def b_parting : List MS := [.ret (.sub (.call "looked_for" m_looked_for [(.loc 0), (.loc 1)]) (.int 0))]
noncomputable def m_parting : Fn := mirror 2 fuel b_parting
noncomputable def b_alike : List MS := [.ret (.isN false (.call "parting" m_parting [(.loc 0), (.loc 1)]))]
noncomputable def m_alike : Fn := mirror 2 fuel b_alike
noncomputable def b_rows_for : List MS := [.unpF 2 3 (.call "looked_for" m_looked_for [(.loc 0), (.loc 1)]), .ife (.isN true (.loc 2)) [.ret .non] [], .retL 3]
noncomputable def m_rows_for : Fn := mirror 4 fuel b_rows_for
noncomputable def wb_shows_1 : List MS := [.put 4 g_put (.loc 5)]
noncomputable def w_shows_1 : MS := .forI 5 .val [(.loc 2)] wb_shows_1
noncomputable def wb_shows_2 : List MS := [.ife (.not (.mcall 4 "holds" m_Span_holds (.call "led" m_led [(.loc 5), (.loc 6)]))) [.ret (.bl false)] []]
noncomputable def w_shows_2 : MS := .forI 6 .val [(.sub (.loc 3) (.int 1))] wb_shows_2
noncomputable def wb_shows_3 : List MS := [.ife (.cmp .ne (.sub (.call "dot" m_dot [(.loc 5), (.sub (.loc 3) (.int 2))]) (.int 0)) (.int 0)) [.ret (.bl false)] [], w_shows_2]
noncomputable def w_shows_3 : MS := .forI 5 .val [(.loc 2)] wb_shows_3
noncomputable def b_shows : List MS := [.exp (.call "see_signs" m_see_signs [(.loc 0), (.loc 1)]), .set 3 (.call "apart" m_apart [(.loc 0), (.loc 1)]), .mk 4, w_shows_1, .frz 4, .ife (.not (.mcall 4 "holds" m_Span_holds (.sub (.loc 3) (.int 0)))) [.ret (.bl false)] [], w_shows_3, .ret (.bl true)]
noncomputable def m_shows : Fn := mirror 7 fuel b_shows
theorem blt_len_l (xs : List MP.D) : evBlt .len [.lst xs] = .ok (.int xs.length, .sh) := rfl
end MP
namespace WM
namespace Mac
/-- how much two machines differ -/
def apart (p q : Mac) : Mac := p.sum { q with L := fun i => - q.L i }
theorem neg_wt (q : Mac) (w : List Nat) : ({ q with L := fun i => - q.L i } : Mac).wt w = - q.wt w := by
  show sm q.n (fun i => q.row w i * - q.L i) = - sm q.n (fun i => q.row w i * q.L i)
  rw [← sm_neg]
  exact sm_congr fun i _ => by grind
theorem apart_wt (p q : Mac) (w : List Nat) : (p.apart q).wt w = p.wt w - q.wt w := by
  show (p.sum _).wt w = _
  rw [sum_wt, neg_wt]; grind
end Mac
end WM
namespace MP
open PySem PySem.Spec PyProof.Rows L2 WM
/-- a machine whose steps are a list -/
def stepsL (m : Mac) : D := .lst ((List.range m.k).map fun s => sT m.n m.n (m.T s))
def macL (m : Mac) : D := .tup [rT m.n m.F, stepsL m, rT m.n m.L]
theorem macL_0 (m : Mac) : evSub (macL m) (.int 0) = .ok (rT m.n m.F, .sh) := by simp [macL, evSub]
theorem macL_1 (m : Mac) : evSub (macL m) (.int 1) = .ok (stepsL m, .sh) := by simp [macL, evSub]
theorem macL_2 (m : Mac) : evSub (macL m) (.int 2) = .ok (rT m.n m.L, .sh) := by simp [macL, evSub]
theorem macL_s {m : Mac} {s : Nat} (h : s < m.k) : evSub (stepsL m) (.int s) = .ok (sT m.n m.n (m.T s), .sh) := Sq.sub (xs := (List.range m.k).map fun s => sT m.n m.n (m.T s)) (.inr rfl) (by simp [h])
theorem stepsL_len (m : Mac) : evBlt .len [stepsL m] = .ok (.int m.k, .sh) := by
  rw [stepsL, blt_len_l, List.length_map, List.length_range]
theorem apart_ok {p q : Mac} {A B : Nat} (hk : p.k = q.k) (hn : p.n ≤ 1000) (hm : q.n ≤ 1000) (hpk : p.k ≤ 100) (hL : ∀ i, i < q.n → Fit A B (q.L i)) (hA : A < 2 ^ 9000) (hB : B < 2 ^ 180000) : m_apart [macD p, macD q] = .ok (macL (p.apart q), false) := by
  have e5 : evE c_apart_1 [.sh (macD p), .sh (macD q), .no, .no, .no] = .ok (stepsL (p.apart q), .fr) := by
    rw [c_apart_1, ev_comp (n := p.k) (rs := [(.int p.k, .sh)]) (fun j : Nat => MP.D.int j) (fun s => sT (p.n + q.n) (p.n + q.n) ((p.apart q).T s)) (by simp [evEs, evE, args1, mac_1, steps_len]) (by simp [hasBo]) (by simp only [args1, List.map]; exact items_rng p.k (by omega)) (by omega) (fun s hs => ⟨.sh, by decide, by
      have e := side_ok (n := p.n) (m := q.n) (p.T s) (q.T s) (by omega) (by omega)
      have hs' : s < q.k := by omega
      simp [ce_apart_1, evE, evEs, args1, hasBo, mac_1, mac_s hs, mac_s hs', e]
      rfl⟩)]
    rfl
  have e6 : evE c_apart_2 [.sh (macD p), .sh (macD q), .sh (stepsL (p.apart q)), .no, .no] = .ok (rL q.n fun i => - q.L i, .fr) := by
    rw [c_apart_2, ev_comp (n := q.n) (rs := [(rT q.n q.L, .sh)]) (fun i => fr (q.L i)) (fun i => fr (- q.L i)) (by simp [evEs, evE, mac_2]) (by simp [hasBo]) (by simp [args1, rT, tabs, items]) (by omega) (fun i hi => ⟨.sh, by decide, by
      have f := hL i hi
      have t := minus_ok 0 (q.L i) ⟨by decide, by decide⟩ (Sz.fit f hA (pow_up hB (by decide))) (by
        rw [show (0 : Rat).den = 1 from rfl, Nat.one_mul]; exact Nat.lt_of_le_of_lt f.den_le hA)
      rw [show (0 : Rat) - q.L i = - q.L i by grind, fr_zero] at t
      simp [ce_apart_2, evE, evEs, args1, hasBo, t]⟩)]
    rfl
  refine mir_ret ?_
  unfold b_apart
  show exSs fuel _ [.sh (macD p), .sh (macD q), .no, .no, .no] = _
  rw [ss_go (S1 := [.sh (macD p), .sh (macD q), .sh (stepsL (p.apart q)), .no, .no]) (by rw [exS, e5]; rfl)]
  have ea : evBin .add (rT p.n p.F) (rT q.n q.F) = _ := ev_addR (n := p.n) (m := q.n) p.F q.F (by omega)
  have eb : evBin .add (rT p.n p.L) (rT q.n fun i => - q.L i) = _ := ev_addR (n := p.n) (m := q.n) p.L (fun i => - q.L i) (by omega)
  simp [exSs, exS, evE, evEs, args1, hasBo, mac_0, mac_2, e6, ev_tupleL, ea, eb]
  rfl
/-- the line of words with their rows -/
def itemD (m : Mac) (w : List Nat) : D := .tup [wD w, rL m.n (m.row w)]
def lineD (m : Mac) (ws : List (List Nat)) : List D := ws.map (itemD m)
/-- sizes at which the line is worked through; Q: what is known of words that are kept -/
structure LCap (m : Mac) (Z : Nat) (Q : List Nat → Prop) (C : List Nat → Nat) (S V : Nat → Nat) (B K : Nat) : Prop where
  hn : m.n ≤ 1000
  hZ : Z ≤ 1000
  rk : ∀ (ws : List (List Nat)) (n : Nat) (s : Spn) (kw : Nat → List Nat), LInv { m with L := Mac.zero } ws n s kw → s.r ≤ Z
  hk : m.k ≤ 100
  k0 : 0 < m.k
  fit : ∀ w, Word m.k w → w.length ≤ Z → ∀ i, i < m.n → Fit (C w) (V w.length) (m.row w i)
  fitK : ∀ w, Q w → Word m.k w → w.length ≤ Z → ∀ i, i < m.n → Fit (C w) (S w.length) (m.row w i)
  C0 : ∀ w, 0 < C w
  S0 : ∀ l, l ≤ Z → 0 < S l
  V0 : ∀ l, l ≤ Z → 0 < V l
  mono : ∀ l l', l ≤ l' → l' ≤ Z → S l ≤ S l'
  monoV : ∀ l l', l ≤ l' → l' ≤ Z → V l ≤ V l'
  CK : ∀ w, w.length ≤ Z → C w ≤ K
  B1 : ∀ i, i ≤ Z → (2 * i + 3) ^ i * (prodN i S * V i) ≤ B
  B2 : ∀ i, i ≤ Z → (2 * i + 3) ^ i * (prodN i S * S i) ≤ B
  x : (1001 * (B * K)) * ((1001 * (B * K)) * (1001 * (B * K))) < 2 ^ 9000
  led : ∀ w, Q w → Word m.k w → w.length ≤ Z → ∀ t, t < m.k → ∀ x, Sq x (tabs m.n (m.row w)) → m_led [x, sT m.n m.n (m.T t)] = .ok (rL m.n (m.row (w ++ [t])), true)
  kept : ∀ (ws : List (List Nat)) (n : Nat) (s : Spn) (kw : Nat → List Nat) (u : List Nat) (q : Nat), LInv { m with L := Mac.zero } ws n s kw → (∀ i, i < s.r → Q (kw i)) → ws[n]? = some u → q < m.n → s.rest (m.row u) s.r q ≠ 0 → Q u
section
variable {m : Mac} {Z : Nat} {Q : List Nat → Prop} {C : List Nat → Nat} {S V : Nat → Nat} {B K : Nat} {ws : List (List Nat)} {n : Nat} {s : Spn} {kw : Nat → List Nat}
theorem LInv.rcap (c : LCap m Z Q C S V B K) (I : LInv m ws n s kw) {u : List Nat} (hu : u ∈ ws) : RCap m.n s (fun j => C (kw j)) (fun j => S (kw j).length) (C u) (V u.length) B K := by
  have hr := c.rk _ _ _ _ I.drop
  have hul := I.wl u hu
  have hud := I.dig u hu
  have kl : ∀ j, j < s.r → (kw j).length ≤ j := I.kl
  have kd : ∀ j, j < s.r → Word m.k (kw j) := fun j hj => by
    obtain ⟨i, _, h⟩ := I.kat j hj
    exact I.dig _ (List.mem_of_getElem? h)
  have pm : ∀ i, i ≤ s.r → prodN i (fun j => S (kw j).length) ≤ prodN i S := fun i hi => prodN_le fun j hj => c.mono _ _ (kl j (by omega)) (by omega)
  have pmono : ∀ i, i ≤ s.r → prodN i S ≤ prodN s.r S := fun i hi => by
    have key : ∀ d, i + d ≤ s.r → prodN i S ≤ prodN (i + d) S := by
      intro d
      induction d with
      | zero => intro _; exact Nat.le_refl _
      | succ d ih =>
        intro h
        refine Nat.le_trans (ih (by omega)) ?_
        show prodN (i + d) S ≤ prodN (i + d) S * S (i + d)
        exact Nat.le_mul_of_pos_right _ (c.S0 _ (by omega))
    have := key (s.r - i) (by omega)
    rwa [show i + (s.r - i) = s.r by omega] at this
  exact {
      hn := c.hn
      S0 := fun j hj => c.S0 _ (by have := kl j hj; omega)
      Sv0 := c.V0 _ (by omega)
      Cv0 := c.C0 _
      C1 := fun j hj => c.CK _ (by have := kl j hj; omega)
      Cv1 := c.CK _ (by omega)
      B1 := fun i hi => by
        refine Nat.le_trans ?_ (c.B1 s.r hr)
        refine Nat.mul_le_mul ?_ (Nat.mul_le_mul (Nat.le_trans (pm i hi) (pmono i hi)) (c.monoV _ _ hul hr))
        exact Nat.le_trans (Nat.pow_le_pow_left (by omega) i) (Nat.pow_le_pow_right (by omega) hi)
      B2 := fun i hi => Nat.le_trans (Nat.mul_le_mul_left _ (Nat.mul_le_mul (pm i (by omega)) (c.mono _ _ (kl i hi) (by omega)))) (c.B2 i (by omega))
      x := c.x }
theorem LInv.fits (c : LCap m Z Q C S V B K) (I : LInv m ws n s kw) (hQ : ∀ i, i < s.r → Q (kw i)) : s.Fits m.n (fun j => C (kw j)) fun j => S (kw j).length := fun j k hj hk => by
  have hr := c.rk _ _ _ _ I.drop
  rw [I.R j hj]
  exact c.fitK (kw j) (hQ j hj) (by
    obtain ⟨i, _, h⟩ := I.kat j hj
    exact I.dig _ (List.mem_of_getElem? h)) (by have := I.kl j hj; omega) k hk
theorem LInv.rowfit (c : LCap m Z Q C S V B K) (I : LInv m ws n s kw) {u : List Nat} (hu : u ∈ ws) : ∀ k, k < m.n → Fit (C u) (V u.length) (m.row u k) := fun k hk =>
  c.fit u (I.dig u hu) (Nat.le_trans (I.wl u hu) (c.rk _ _ _ _ I.drop)) k hk
theorem LInv.scap (c : LCap m Z Q C S V B K) (I : LInv m ws n s kw) (hQ : ∀ i, i < s.r → Q (kw i)) {u : List Nat} (hu : u ∈ ws) : SCap m.n s (m.row u) (1001 * (B * K)) :=
  (LInv.rcap c I hu).scap I.ok (LInv.fits c I hQ) (LInv.rowfit c I hu)
/-- the parts of a row have one bottom -/
theorem LInv.pfit (c : LCap m Z Q C S V B K) (I : LInv m ws n s kw) (hQ : ∀ i, i < s.r → Q (kw i)) {u : List Nat} (hu : u ∈ ws) : ∃ D0 N0, D0 ≤ B * K ∧ N0 ≤ B * K ∧ ∀ j, j < s.r → Fit D0 N0 (s.parts (m.row u) s.r j) := by
  have rc := LInv.rcap c I hu
  obtain ⟨t, t0, t1, t2, _⟩ := Spn.cut_fit (c := s.parts (m.row u) s.r) I.ok (LInv.fits c I hQ) rc.S0 (Nat.le_refl _) rc.Cv0 (LInv.rowfit c I hu) rc.Sv0 (fun l hl => by
    have a := Spn.rest_parts I.ok (m.row u) s.r (Nat.le_refl _) (s.p l) (I.ok.pn l hl)
    rw [Spn.rest_piv I.ok (m.row u) s.r (Nat.le_refl _) l hl] at a
    grind)
  have hB := rc.B1 s.r (Nat.le_refl _)
  by_cases hr : s.r = 0
  · exact ⟨t * C u, B * K, Nat.mul_le_mul (Nat.le_trans (Nat.le_mul_of_pos_right _ rc.Sv0) (Nat.le_trans t1 hB)) rc.Cv1, Nat.le_refl _, fun j hj => by omega⟩
  · refine ⟨t * C u, B * K, Nat.mul_le_mul (Nat.le_trans (Nat.le_mul_of_pos_right _ rc.Sv0) (Nat.le_trans t1 hB)) rc.Cv1, Nat.le_refl _, fun j hj => ?_⟩
    exact (t2 j hj).mono (Nat.mul_le_mul hB (rc.C1 j hj))
theorem line_get {m : Mac} {ws : List (List Nat)} {n : Nat} {u : List Nat} (hu : ws[n]? = some u) : evSub (.lst (lineD m ws)) (.int n) = .ok (itemD m u, .sh) := Sq.sub (xs := lineD m ws) (.inr rfl) (by simp [lineD, hu])
theorem line_len (m : Mac) (ws : List (List Nat)) : (lineD m ws).length = ws.length := by simp [lineD]
theorem wD_snoc (u : List Nat) (t : Nat) (h : u.length ≤ 2000) : evBin .add (wD u) (.tup [.int t]) = .ok (wD (u ++ [t]), .sh) := by
  have : u.length + 1 ≤ 16777216 := by omega
  simp [evBin, wD, this]
end
end MP
set_option Elab.async false
set_option linter.all false
set_option maxRecDepth 100000
set_option maxHeartbeats 4000000
namespace MP
open PySem PySem.Spec PyProof.Rows L2 WM
theorem list_sq {x : D} {xs : List D} (h : Sq x xs) : evBlt .list [x] = .ok (.lst xs, .fr) := by
  rcases h with rfl | rfl <;> rfl
theorem tg_item (m : Mac) (u : List Nat) (a b : Nat) (S : List SV) : tgU [a, b] S (itemD m u) = some ((S.set a (.sh (wD u))).set b (.sh (rL m.n (m.row u)))) := rfl
section
variable {m : Mac} {Z : Nat} {Q : List Nat → Prop} {C : List Nat → Nat} {S V : Nat → Nat} {B K A Bl : Nat} {ws : List (List Nat)} {s : Spn} {kw : Nat → List Nat}
theorem LInv.ws_len (c : LCap m Z Q C S V B K) {n : Nat} (I : LInv m ws n s kw) : ws.length ≤ 1 + m.k * m.n := by
  rw [I.len]
  have := Nat.mul_le_mul_left m.k (Spn.r_le I.ok)
  omega
theorem LInv.ws_lt (c : LCap m Z Q C S V B K) {n : Nat} (I : LInv m ws n s kw) : ws.length ≤ 100001 := by
  have h1 := LInv.ws_len c I
  have h2 : m.k * m.n ≤ 100 * 1000 := Nat.mul_le_mul c.hk c.hn
  omega
theorem looked_kids (c : LCap m Z Q C S V B K) {u : List Nat} (hq : Q u) (hu : Word m.k u) (hl : u.length ≤ Z) (hw : ws.length ≤ 1000000) (x0 x1 x3 x5 x8 : SV) :
    ∃ s8, exS fuel w_looked_for_1 [x0, x1, .sh (macL m), x3, .ow (lineD m ws), x5, .sh (wD u), .sh (rL m.n (m.row u)), x8] = .nx [x0, x1, .sh (macL m), x3, .ow (lineD m (ws ++ (List.range m.k).map fun t => u ++ [t])), x5, .sh (wD u), .sh (rL m.n (m.row u)), s8] := by
  have hk := c.hk
  have hn := c.hn
  have hZ := c.hZ
  obtain ⟨S', l1, s8, l2⟩ := for_rng (f := exSs fuel wb_looked_for_1) (tg := fun S d => some (S.set 8 (.sh d))) (fun j S => ∃ s8, S = [x0, x1, .sh (macL m), x3, .ow (lineD m (ws ++ (List.range j).map fun t => u ++ [t])), x5, .sh (wD u), .sh (rL m.n (m.row u)), s8]) (n := m.k) (S := [x0, x1, .sh (macL m), x3, .ow (lineD m ws), x5, .sh (wD u), .sh (rL m.n (m.row u)), x8]) ⟨x8, by simp⟩ (by
    rintro t S ht ⟨s8, rfl⟩
    refine ⟨_, [x0, x1, .sh (macL m), x3, .ow (lineD m (ws ++ (List.range (t + 1)).map fun t => u ++ [t])), x5, .sh (wD u), .sh (rL m.n (m.row u)), .sh (.int t)], rfl, ?_, _, rfl⟩
    have e1 := wD_snoc u t (by omega)
    have e2 := c.led u hq hu hl t ht _ (rL_sq m.n (m.row u))
    have hlt : (lineD m (ws ++ (List.range t).map fun t => u ++ [t])).length < 16777216 := by
      rw [line_len, List.length_append, List.length_map, List.length_range]; omega
    have e3 : lineD m (ws ++ (List.range (t + 1)).map fun t => u ++ [t]) = lineD m (ws ++ (List.range t).map fun t => u ++ [t]) ++ [itemD m (u ++ [t])] := by
      simp [lineD, List.range_succ]
    rw [e3]
    simp [wb_looked_for_1, exSs, exS, evE, evEs, args1, hasBo, e1, macL_1, macL_s ht, e2, hlt, itemD])
  subst l2
  refine ⟨s8, ?_⟩
  have hi := items_rng m.k (by omega)
  rw [w_looked_for_1, exS]
  simp [evI, evEs, evE, args1, hasBo, macL_1, stepsL_len, hi]
  exact l1
theorem looked_loop (c : LCap m Z Q C S V B K) (hdot : ∀ w, Word m.k w → w.length ≤ Z → m_dot [rL m.n (m.row w), rT m.n m.L] = .ok (fr (m.wt w), false)) (x0 x1 : SV) : ∀ (g : Nat) (ws : List (List Nat)) (n : Nat) (s : Spn) (kw : Nat → List Nat) (s6 s7 s8 : SV), LInv m ws n s kw → (∀ i, i < s.r → Q (kw i)) → 1 + m.k * m.n < n + g →
    (∃ ws' n' s' kw' u, LInv m ws' n' s' kw' ∧ ws'[n']? = some u ∧ m.wt u ≠ 0 ∧ whileL (evE wc_looked_for_2) (exSs fuel wb_looked_for_2) g [x0, x1, .sh (macL m), .ob (rowsD m.n s) (clD m.n s), .ow (lineD m ws), .sh (.int n), s6, s7, s8] = .ret (.tup [wD u, .lst []]) true) ∨
    ∃ ws' s' kw' s6' s7' s8', LInv m ws' ws'.length s' kw' ∧ whileL (evE wc_looked_for_2) (exSs fuel wb_looked_for_2) g [x0, x1, .sh (macL m), .ob (rowsD m.n s) (clD m.n s), .ow (lineD m ws), .sh (.int n), s6, s7, s8] = .nx [x0, x1, .sh (macL m), .ob (rowsD m.n s') (clD m.n s'), .ow (lineD m ws'), .sh (.int ws'.length), s6', s7', s8']
  | 0, ws, n, s, kw, s6, s7, s8, I, hQ, hg => by
    have := I.nl
    have := LInv.ws_len c I
    omega
  | g + 1, ws, n, s, kw, s6, s7, s8, I, hQ, hg => by
    have hnl := I.nl
    by_cases hend : n = ws.length
    · subst hend
      refine .inr ⟨ws, s, kw, s6, s7, s8, I, ?_⟩
      rw [while_end (k := .sh) (by simp [wc_looked_for_2, evE, evEs, args1, evBlt, line_len, evCmp])]
    · have hlt : n < ws.length := by omega
      obtain ⟨u, hu⟩ : ∃ u, ws[n]? = some u := ⟨ws[n], List.getElem?_eq_getElem hlt⟩
      have hm := List.mem_of_getElem? hu
      have hud := I.dig u hm
      have hr := Spn.r_le I.ok
      have hul : u.length ≤ Z := Nat.le_trans (I.wl u hm) (c.rk _ _ _ _ I.drop)
      have hc : evE wc_looked_for_2 [x0, x1, .sh (macL m), .ob (rowsD m.n s) (clD m.n s), .ow (lineD m ws), .sh (.int n), s6, s7, s8] = .ok (.bl true, .sh) := by
        simp [wc_looked_for_2, evE, evEs, args1, evBlt, line_len, evCmp]; omega
      have hdot0 := hdot
      have hdot := hdot u hud hul
      have e1 : exS fuel (.unp [6, 7] (.sub (.loc 4) (.loc 5))) [x0, x1, .sh (macL m), .ob (rowsD m.n s) (clD m.n s), .ow (lineD m ws), .sh (.int n), s6, s7, s8] = .nx [x0, x1, .sh (macL m), .ob (rowsD m.n s) (clD m.n s), .ow (lineD m ws), .sh (.int n), .sh (wD u), .sh (rL m.n (m.row u)), s8] := by
        simp [exS, evE, line_get hu, tg_item]
      have e2 : exS fuel (.set 5 (.bin .add (.loc 5) (.int 1))) [x0, x1, .sh (macL m), .ob (rowsD m.n s) (clD m.n s), .ow (lineD m ws), .sh (.int n), .sh (wD u), .sh (rL m.n (m.row u)), s8] = .nx [x0, x1, .sh (macL m), .ob (rowsD m.n s) (clD m.n s), .ow (lineD m ws), .sh (.int (n + 1 : Nat)), .sh (wD u), .sh (rL m.n (m.row u)), s8] := by
        simp [exS, evE]
      by_cases hz : m.wt u = 0
      · have e3 : exS fuel (.ife (.cmp .ne (.sub (.call "dot" m_dot [(.loc 7), (.sub (.loc 2) (.int 2))]) (.int 0)) (.int 0)) [.retT (.loc 6) (.lst [])] []) [x0, x1, .sh (macL m), .ob (rowsD m.n s) (clD m.n s), .ow (lineD m ws), .sh (.int (n + 1 : Nat)), .sh (wD u), .sh (rL m.n (m.row u)), s8] = .nx [x0, x1, .sh (macL m), .ob (rowsD m.n s) (clD m.n s), .ow (lineD m ws), .sh (.int (n + 1 : Nat)), .sh (wD u), .sh (rL m.n (m.row u)), s8] := by
          rw [hz] at hdot
          simp [exS, evE, evEs, args1, hasBo, macL_2, hdot, fr_num, exSs]
        have sc := LInv.scap c I hQ (List.mem_of_getElem? hu)
        rcases first_place m.n (s.rest (m.row u) s.r) with h0 | ⟨q, hq, h0, h3⟩
        · have p := put_no I.ok sc (rL_sq m.n (m.row u)) h0
          have e4 : exSs fuel wb_looked_for_2 [x0, x1, .sh (macL m), .ob (rowsD m.n s) (clD m.n s), .ow (lineD m ws), .sh (.int n), s6, s7, s8] = .nx [x0, x1, .sh (macL m), .ob (rowsD m.n s) (clD m.n s), .ow (lineD m ws), .sh (.int (n + 1 : Nat)), .sh (wD u), .sh (rL m.n (m.row u)), s8] := by
            rw [wb_looked_for_2, ss_go e1, ss_go e2, ss_go e3]
            simp [exSs, exS, evE, p]
          rw [while_go hc e4]
          exact looked_loop c hdot0 x0 x1 g ws (n + 1) s kw _ _ _ (I.step_no hu hz h0) hQ (by omega)
        · have p := put_yes I.ok sc (rL_sq m.n (m.row u)) hq h0 h3
          have hwl := LInv.ws_lt c I
          have hqu : Q u := c.kept ws n s kw u q I.drop hQ hu hq h0
          obtain ⟨t8, e5⟩ := looked_kids c hqu hud hul (ws := ws) (by omega) x0 x1 (.ob (rowsD m.n (s.put (m.row u) q)) (clD m.n (s.put (m.row u) q))) (.sh (.int (n + 1 : Nat))) s8
          have e4 : exSs fuel wb_looked_for_2 [x0, x1, .sh (macL m), .ob (rowsD m.n s) (clD m.n s), .ow (lineD m ws), .sh (.int n), s6, s7, s8] = .nx [x0, x1, .sh (macL m), .ob (rowsD m.n (s.put (m.row u) q)) (clD m.n (s.put (m.row u) q)), .ow (lineD m (ws ++ (List.range m.k).map fun t => u ++ [t])), .sh (.int (n + 1 : Nat)), .sh (wD u), .sh (rL m.n (m.row u)), t8] := by
            rw [wb_looked_for_2, ss_go e1, ss_go e2, ss_go e3]
            have e6 : exS fuel (.ifPut 3 g_put (.loc 7) [w_looked_for_1] []) [x0, x1, .sh (macL m), .ob (rowsD m.n s) (clD m.n s), .ow (lineD m ws), .sh (.int (n + 1 : Nat)), .sh (wD u), .sh (rL m.n (m.row u)), s8] = .nx [x0, x1, .sh (macL m), .ob (rowsD m.n (s.put (m.row u) q)) (clD m.n (s.put (m.row u) q)), .ow (lineD m (ws ++ (List.range m.k).map fun t => u ++ [t])), .sh (.int (n + 1 : Nat)), .sh (wD u), .sh (rL m.n (m.row u)), t8] := by
              rw [exS]
              simp only [List.getElem?_cons_zero, List.getElem?_cons_succ, evE, bindS_ok, p]
              show exSs fuel [w_looked_for_1] [x0, x1, .sh (macL m), .ob (rowsD m.n (s.put (m.row u) q)) (clD m.n (s.put (m.row u) q)), .ow (lineD m ws), .sh (.int (n + 1 : Nat)), .sh (wD u), .sh (rL m.n (m.row u)), s8] = _
              rw [ss_go e5, exSs]
            rw [ss_go e6, exSs]
          rw [while_go hc e4]
          exact looked_loop c hdot0 x0 x1 g _ (n + 1) _ _ _ _ _ (I.step_yes hu hz hq h0) (fun i hi => by
            by_cases e : i = s.r
            · subst e; rw [consW_hi]; exact hqu
            · have hi' : i < s.r + 1 := hi
              rw [consW_lo (by omega)]; exact hQ i (by omega)) (by omega)
      · refine .inl ⟨ws, n, s, kw, u, I, hu, hz, ?_⟩
        have hzn : (m.wt u).num ≠ 0 := fun e => hz (num0.mp e)
        have e3 : exS fuel (.ife (.cmp .ne (.sub (.call "dot" m_dot [(.loc 7), (.sub (.loc 2) (.int 2))]) (.int 0)) (.int 0)) [.retT (.loc 6) (.lst [])] []) [x0, x1, .sh (macL m), .ob (rowsD m.n s) (clD m.n s), .ow (lineD m ws), .sh (.int (n + 1 : Nat)), .sh (wD u), .sh (rL m.n (m.row u)), s8] = .ret (.tup [wD u, .lst []]) true := by
          simp [exS, evE, evEs, args1, hasBo, macL_2, hdot, fr_num, exSs, hzn, bindS, isLst, wD]
        rw [whileL, hc]
        show (match exSs fuel wb_looked_for_2 _ with | .nx S2 => _ | r => r) = _
        rw [wb_looked_for_2, ss_go e1, ss_go e2, ss_ret e3]
end
theorem apart_L {p q : Mac} {A Bl : Nat} (hL : ∀ i, i < (p.apart q).n → Fit A Bl ((p.apart q).L i)) : ∀ i, i < q.n → Fit A Bl (q.L i) := fun i hi => by
  have h := hL (p.n + i) (by show p.n + i < p.n + q.n; omega)
  have e : (p.apart q).L (p.n + i) = - q.L i := Mac.cat_hi _ _ _ _
  rw [e] at h
  have := h.neg
  rwa [show - - q.L i = q.L i by grind] at this
/-- what the search gives -/
theorem looked_for_ok {p q : Mac} {Z : Nat} {Q : List Nat → Prop} {C : List Nat → Nat} {S V : Nat → Nat} {B K A Bl : Nat} (hk : p.k = q.k) (c : LCap (p.apart q) Z Q C S V B K) (hdot : ∀ w, Word (p.apart q).k w → w.length ≤ Z → m_dot [rL (p.apart q).n ((p.apart q).row w), rT (p.apart q).n (p.apart q).L] = .ok (fr ((p.apart q).wt w), false)) (hLq : ∀ i, i < q.n → Fit A Bl (q.L i)) (hA : A < 2 ^ 9000) (hB : Bl < 2 ^ 180000) :
    (∃ u, Word p.k u ∧ u.length + 1 ≤ p.n + q.n ∧ p.wt u ≠ q.wt u ∧ (∀ w, Word p.k w → idx p.k w < idx p.k u → p.wt w = q.wt w) ∧ m_looked_for [macD p, macD q] = .ok (.tup [wD u, .lst []], true)) ∨
    ((∀ w, Word p.k w → p.wt w = q.wt w) ∧ ∃ ws s kw, LInv (p.apart q) ws ws.length s kw ∧ m_looked_for [macD p, macD q] = .ok (.tup [.non, .lst (rowsD (p.n + q.n) s)], true)) := by
  have e1 := see_signs_ok hk
  have hn : p.n + q.n ≤ 1000 := c.hn
  have hpk : p.k ≤ 100 := c.hk
  have e2 := apart_ok hk (by omega) (by omega) hpk hLq hA hB
  have hf : 1 + (p.apart q).k * (p.apart q).n < 0 + fuel := by
    have h2 : (p.apart q).k * (p.apart q).n ≤ 100 * 1000 := Nat.mul_le_mul c.hk c.hn
    have := lt_fuel (n := 200000) (lt9 (by decide))
    omega
  have start : ∀ r, exSs fuel [w_looked_for_2, .retO .non 3] [.sh (macD p), .sh (macD q), .sh (macL (p.apart q)), .ob (rowsD (p.apart q).n Spn.empty) (clD (p.apart q).n Spn.empty), .ow (lineD (p.apart q) [[]]), .sh (.int (0 : Nat)), .no, .no, .no] = .ret r true → m_looked_for [macD p, macD q] = .ok (r, true) := fun r h => by
    refine mir_ret ?_
    unfold b_looked_for
    show exSs fuel _ [.sh (macD p), .sh (macD q), .no, .no, .no, .no, .no, .no, .no] = _
    have hl : evBlt .list [rT (p.apart q).n (p.apart q).F] = .ok (rL (p.apart q).n (p.apart q).F, .fr) := rfl
    rw [ss_go (S1 := [.sh (macD p), .sh (macD q), .no, .no, .no, .no, .no, .no, .no]) (by simp [exS, evE, evEs, args1, hasBo, e1]),
      ss_go (S1 := [.sh (macD p), .sh (macD q), .sh (macL (p.apart q)), .no, .no, .no, .no, .no, .no]) (by simp [exS, evE, evEs, args1, hasBo, e2]),
      ss_go (S1 := [.sh (macD p), .sh (macD q), .sh (macL (p.apart q)), .ob [] [], .no, .no, .no, .no, .no]) (by simp [exS, isObS]),
      ss_go (S1 := [.sh (macD p), .sh (macD q), .sh (macL (p.apart q)), .ob [] [], .ow (lineD (p.apart q) [[]]), .no, .no, .no, .no]) (by
        simp [exS, evE, evEs, args1, hasBo, macL_0, hl]
        rfl),
      ss_go (S1 := [.sh (macD p), .sh (macD q), .sh (macL (p.apart q)), .ob [] [], .ow (lineD (p.apart q) [[]]), .sh (.int (0 : Nat)), .no, .no, .no]) (by simp [exS, evE])]
    exact h
  rcases looked_loop c hdot (.sh (macD p)) (.sh (macD q)) fuel [[]] 0 Spn.empty (fun _ => []) .no .no .no (LInv.init _) (fun i hi => absurd hi (Nat.not_lt_zero i)) hf with ⟨ws', n', s', kw', u, I, hu, hz, h⟩ | ⟨ws', s', kw', s6', s7', s8', I, h⟩
  · have ⟨h1, h2⟩ := I.found c.k0 hu hz
    refine .inl ⟨u, I.dig u (List.mem_of_getElem? hu), h1, fun e => hz (by rw [Mac.apart_wt, e]; grind), fun w hw hlt => ?_, start _ ?_⟩
    · have := h2 w hw hlt
      rw [Mac.apart_wt] at this
      grind
    · exact ss_ret (by rw [w_looked_for_2, exS]; exact h)
  · refine .inr ⟨fun w hw => ?_, ws', s', kw', I, start _ ?_⟩
    · have := I.all c.k0 w hw
      rw [Mac.apart_wt] at this
      grind
    · rw [ss_go (by rw [w_looked_for_2, exS]; exact h)]
      simp [exSs, exS, evE, evEs, args1, hasBo, bindS, isLst]
      rfl
theorem looked_no {p q : Mac} (hk : p.k ≠ q.k) : m_looked_for [macD p, macD q] = .exc "Unlike" := by
  have e1 := see_signs_no hk
  refine mir_exc (S1 := [.sh (macD p), .sh (macD q), .no, .no, .no, .no, .no, .no, .no]) ?_
  unfold b_looked_for
  exact ss_exc (by
    show exS fuel _ [.sh (macD p), .sh (macD q), .no, .no, .no, .no, .no, .no, .no] = _
    simp [exS, evE, evEs, args1, e1, bindS])
end MP
set_option Elab.async false
set_option linter.all false
set_option maxRecDepth 100000
set_option maxHeartbeats 4000000
namespace WM
/-- c times place i put to place j -/
def mixrow (f : Nat → Rat) (i j : Nat) (c : Rat) : Nat → Rat := fun b => f b + if b = j then c * f i else 0
theorem mix_dot {n i j : Nat} (hi : i < n) (hj : j < n) (hij : i ≠ j) (v X : Nat → Rat) (c : Rat) : sm n (fun a => mixrow v i j c a * mixrow X j i (-c) a) = sm n fun a => v a * X a := by
  have e : (fun a => mixrow v i j c a * mixrow X j i (-c) a) = fun a => (v a * X a + (if a = j then c * v i * X a else 0)) - (if a = i then v a * (c * X j) else 0) := funext fun a => by
    unfold mixrow
    by_cases h1 : a = j
    · have h2 : ¬ a = i := fun e => hij (e.symm.trans h1)
      rw [if_pos h1, if_neg h2, if_pos h1, if_neg h2]; grind
    · by_cases h2 : a = i
      · rw [if_neg h1, if_pos h2, if_neg h1, if_pos h2]; grind
      · rw [if_neg h1, if_neg h2, if_neg h1, if_neg h2]; grind
  rw [e, sm_sub, sm_add, sm_one (f := fun a => if a = j then c * v i * X a else 0) hj (fun a _ h => if_neg h), sm_one (f := fun a => if a = i then v a * (c * X j) else 0) hi (fun a _ h => if_neg h), if_pos rfl, if_pos rfl]
  grind
namespace Mac
def mix (m : Mac) (i j : Nat) (c : Rat) : Mac := { m with
  F := mixrow m.F i j c
  T := fun s a b => mixrow (fun a => mixrow (m.T s a) i j c b) j i (-c) a
  L := mixrow m.L j i (-c) }
theorem mix_step (m : Mac) {i j : Nat} (hi : i < m.n) (hj : j < m.n) (hij : i ≠ j) (c : Rat) (v : Nat → Rat) (s : Nat) : (m.mix i j c).step (mixrow v i j c) s = mixrow (m.step v s) i j c := by
  funext b
  show sm m.n (fun a => mixrow v i j c a * mixrow (fun a => mixrow (m.T s a) i j c b) j i (-c) a) = _
  rw [mix_dot hi hj hij]
  show sm m.n (fun a => v a * (m.T s a b + if b = j then c * m.T s a i else 0)) = sm m.n (fun a => v a * m.T s a b) + if b = j then c * sm m.n (fun a => v a * m.T s a i) else 0
  split
  · rw [← sm_mul, ← sm_add]
    exact sm_congr fun a _ => by grind
  · rw [show (sm m.n (fun a => v a * m.T s a b) + 0 : Rat) = sm m.n (fun a => v a * m.T s a b) by grind]
    exact sm_congr fun a _ => by grind
theorem mix_run (m : Mac) {i j : Nat} (hi : i < m.n) (hj : j < m.n) (hij : i ≠ j) (c : Rat) : ∀ (w : List Nat) (v : Nat → Rat), (m.mix i j c).run (mixrow v i j c) w = mixrow (m.run v w) i j c
  | [], _ => rfl
  | s :: w, v => by rw [run_cons, mix_step m hi hj hij, mix_run m hi hj hij c w]; rfl
theorem mix_wt (m : Mac) {i j : Nat} (hi : i < m.n) (hj : j < m.n) (hij : i ≠ j) (c : Rat) (w : List Nat) : (m.mix i j c).wt w = m.wt w := by
  show sm m.n (fun a => (m.mix i j c).run (mixrow m.F i j c) w a * mixrow m.L j i (-c) a) = sm m.n fun a => m.run m.F w a * m.L a
  rw [mix_run m hi hj hij, mix_dot hi hj hij]
/-- idle rooms -/
theorem wt_F0 (m : Mac) (h : m.F = zero) (w : List Nat) : m.wt w = 0 := by
  have key : ∀ (w : List Nat), m.run zero w = zero := by
    intro w
    induction w with
    | nil => rfl
    | cons s w ih =>
      rw [run_cons]
      have : m.step zero s = zero := funext fun b => sm_zero fun a _ => by unfold zero; grind
      rw [this, ih]
  show sm m.n (fun a => m.run m.F w a * m.L a) = 0
  rw [h, key]
  exact sm_zero fun a _ => by unfold zero; grind
theorem wt_L0 (m : Mac) (h : m.L = zero) (w : List Nat) : m.wt w = 0 := sm_zero fun a _ => by rw [h]; unfold zero; grind
/-- a machine built to be alike -/
def idle (c : Int) (n k : Nat) : Mac := if c.fmod 2 = 0 then { MP.drawn c n k with F := zero } else { MP.drawn c n k with L := zero }
theorem idle_wt (c : Int) (n k : Nat) (w : List Nat) : (idle c n k).wt w = 0 := by
  unfold idle
  split
  · exact wt_F0 _ rfl w
  · exact wt_L0 _ rfl w
end Mac
end WM
namespace MP
open PySem PySem.Spec PyProof.Rows L2 WM
noncomputable def ce_law_beside_1 : ME := (.tup [(.int 0), (.int 1)])
noncomputable def c_law_beside_1 : ME := .comp ce_law_beside_1 5 .val [(.sub (.loc 0) (.int 0))]
noncomputable def ce_law_beside_2 : ME := (.tup [(.int 0), (.int 1)])
noncomputable def c_law_beside_2 : ME := .comp ce_law_beside_2 5 .val [(.sub (.loc 1) (.int 0))]
noncomputable def ce_law_beside_3 : ME := (.bin .add (.loc 7) (.loc 3))
noncomputable def c_law_beside_3 : ME := .comp ce_law_beside_3 7 .val [(.sub (.sub (.loc 0) (.int 1)) (.loc 5))]
noncomputable def ce_law_beside_4 : ME := (.bin .add (.loc 2) (.loc 7))
noncomputable def c_law_beside_4 : ME := .comp ce_law_beside_4 7 .val [(.sub (.sub (.loc 1) (.int 1)) (.loc 5))]
noncomputable def wb_law_beside_1 : List MS := [.set 6 c_law_beside_3, .app 4 (.blt .tuple [(.bin .add (.loc 6) c_law_beside_4)])]
noncomputable def w_law_beside_1 : MS := .forI 5 .range1 [(.blt .len [(.sub (.loc 0) (.int 1))])] wb_law_beside_1
noncomputable def b_law_beside : List MS := [.set 2 (.blt .tuple [c_law_beside_1]), .set 3 (.blt .tuple [c_law_beside_2]), .own 4 (.lst []), w_law_beside_1, .ret (.tup [(.bin .add (.sub (.loc 0) (.int 0)) (.sub (.loc 1) (.int 0))), (.blt .tuple [(.loc 4)]), (.bin .add (.sub (.loc 0) (.int 2)) (.sub (.loc 1) (.int 2)))])]
noncomputable def m_law_beside : Fn := mirror 8 fuel b_law_beside
noncomputable def b_law_turned_row : List MS := [.own 4 (.blt .list [(.loc 0)]), .sto 4 (.loc 2) (.call "_law_plus" m_law_plus [(.sub (.loc 4) (.loc 2)), (.call "_law_times" m_law_times [(.loc 3), (.sub (.loc 4) (.loc 1))])]), .retL 4]
noncomputable def m_law_turned_row : Fn := mirror 5 fuel b_law_turned_row
noncomputable def ce_law_mixed_1 : ME := (.call "_law_turned_row" m_law_turned_row [(.loc 10), (.loc 1), (.loc 2), (.loc 3)])
noncomputable def c_law_mixed_1 : ME := .comp ce_law_mixed_1 10 .val [(.loc 8)]
noncomputable def ce_law_mixed_2 : ME := (.call "_law_plus" m_law_plus [(.sub (.sub (.loc 9) (.loc 1)) (.loc 11)), (.call "_law_times" m_law_times [(.loc 4), (.sub (.sub (.loc 9) (.loc 2)) (.loc 11))])])
noncomputable def c_law_mixed_2 : ME := .comp ce_law_mixed_2 11 .range1 [(.blt .len [(.loc 9)])]
noncomputable def ce_law_mixed_3 : ME := (.blt .tuple [(.loc 10)])
noncomputable def c_law_mixed_3 : ME := .comp ce_law_mixed_3 10 .val [(.loc 9)]
noncomputable def wb_law_mixed_1 : List MS := [.own 9 c_law_mixed_1, .sto 9 (.loc 1) c_law_mixed_2, .frz 9, .app 7 (.blt .tuple [c_law_mixed_3])]
noncomputable def w_law_mixed_1 : MS := .forI 8 .val [(.sub (.loc 0) (.int 1))] wb_law_mixed_1
noncomputable def b_law_mixed : List MS := [.set 4 (.tup [(.bin .sub (.int 0) (.sub (.loc 3) (.int 0))), (.sub (.loc 3) (.int 1))]), .set 5 (.call "_law_turned_row" m_law_turned_row [(.sub (.loc 0) (.int 0)), (.loc 1), (.loc 2), (.loc 3)]), .set 6 (.call "_law_turned_row" m_law_turned_row [(.sub (.loc 0) (.int 2)), (.loc 2), (.loc 1), (.loc 4)]), .own 7 (.lst []), w_law_mixed_1, .ret (.tup [(.blt .tuple [(.loc 5)]), (.blt .tuple [(.loc 7)]), (.blt .tuple [(.loc 6)])])]
noncomputable def m_law_mixed : Fn := mirror 12 fuel b_law_mixed
noncomputable def ce_law_kin_1 : ME := (.tup [(.int 0), (.int 1)])
noncomputable def c_law_kin_1 : ME := .comp ce_law_kin_1 7 .range1 [(.loc 2)]
noncomputable def wb_law_kin_1 : List MS := [.set 1 (.bin .mod (.bin .add (.bin .mul (.loc 1) (.int 48271)) (.int 31)) (.int 2147483647)), .set 8 (.bin .mod (.bin .fdiv (.loc 1) (.int 5)) (.blt .max [(.int 1), (.loc 3)])), .set 9 (.bin .mod (.bin .fdiv (.loc 1) (.int 35)) (.blt .max [(.int 1), (.loc 3)])), .ife (.cmp .ne (.loc 8) (.loc 9)) [.set 0 (.call "_law_mixed" m_law_mixed [(.loc 0), (.loc 8), (.loc 9), (.call "_law_fraction" m_law_fraction [(.bin .fdiv (.loc 1) (.int 300))])])] []]
noncomputable def w_law_kin_1 : MS := .forI 7 .range1 [(.int 3)] wb_law_kin_1
noncomputable def b_law_kin : List MS := [.set 3 (.blt .len [(.sub (.loc 0) (.int 0))]), .set 4 (.blt .len [(.sub (.loc 0) (.int 1))]), .ife (.cmp .gt (.loc 2) (.int 0)) [.set 5 (.call "_law_machine" m_law_machine [(.loc 1), (.loc 2), (.loc 4)]), .set 6 (.blt .tuple [c_law_kin_1]), .ife (.cmp .eq (.bin .mod (.loc 1) (.int 2)) (.int 0)) [.set 0 (.call "_law_beside" m_law_beside [(.loc 0), (.tup [(.loc 6), (.sub (.loc 5) (.int 1)), (.sub (.loc 5) (.int 2))])])] [.set 0 (.call "_law_beside" m_law_beside [(.loc 0), (.tup [(.sub (.loc 5) (.int 0)), (.sub (.loc 5) (.int 1)), (.loc 6)])])]] [], .set 3 (.bin .add (.loc 3) (.loc 2)), w_law_kin_1, .ret (.loc 0)]
noncomputable def m_law_kin : Fn := mirror 10 fuel b_law_kin
/-! numbers of a few figures -/
theorem plus_sm {p q : Rat} (h : Sml (10 ^ 200) p) (k : Sml (10 ^ 200) q) : m_law_plus [fr p, fr q] = .ok (fr (p + q), false) :=
  law_plus_ok p q (h.sz (Nat.lt_of_lt_of_le (m := 2 ^ 9000) (by decide +kernel) (Nat.pow_le_pow_right (by decide) (by decide)))) (k.sz (Nat.lt_of_lt_of_le (m := 2 ^ 9000) (by decide +kernel) (Nat.pow_le_pow_right (by decide) (by decide)))) (Nat.lt_of_le_of_lt (Nat.mul_le_mul h.1 k.1) (by decide +kernel))
theorem times_sm {p q : Rat} (h : Sml (10 ^ 200) p) (k : Sml (10 ^ 200) q) : m_law_times [fr p, fr q] = .ok (fr (p * q), false) :=
  law_times_ok p q (h.sz (Nat.lt_of_lt_of_le (m := 2 ^ 9000) (by decide +kernel) (Nat.pow_le_pow_right (by decide) (by decide)))) (k.sz (Nat.lt_of_lt_of_le (m := 2 ^ 9000) (by decide +kernel) (Nat.pow_le_pow_right (by decide) (by decide)))) (Nat.lt_of_le_of_lt (Nat.mul_le_mul h.1 k.1) (by decide +kernel))
theorem Sml.up {X Y : Nat} {q : Rat} (h : Sml X q) (l : X ≤ Y) : Sml Y q := ⟨Nat.le_trans h.1 l, Nat.le_trans h.2 l⟩
theorem mul_sm {p q : Rat} (h : Sml (10 ^ 50) p) (k : Sml (10 ^ 50) q) : Sml (10 ^ 200) (p * q) := (h.mul k).up (by decide +kernel)
theorem up_sm {p : Rat} (h : Sml (10 ^ 50) p) : Sml (10 ^ 200) p := h.up (by decide +kernel)
/-- one row mixed -/
theorem turned_row_ok {n i j : Nat} {x : D} {f : Nat → Rat} {c : Rat} (hx : Sq x (tabs n f)) (hi : i < n) (hj : j < n) (h1 : Sml (10 ^ 50) (f i)) (h2 : Sml (10 ^ 50) (f j)) (h3 : Sml (10 ^ 50) c) : m_law_turned_row [x, .int i, .int j, fr c] = .ok (rL n (mixrow f i j c), true) := by
  have e0 : evBlt .list [x] = .ok (.lst (tabs n f), .fr) := by rcases hx with rfl | rfl <;> rfl
  have e1 := times_sm (up_sm h3) (up_sm h1)
  have e2 := plus_sm (up_sm h2) (mul_sm h3 h1)
  have e3 : evSub (.lst (tabs n f)) (.int i) = .ok (fr (f i), .sh) := Sq.sub (.inr rfl) (tabs_get hi)
  have e4 : evSub (.lst (tabs n f)) (.int j) = .ok (fr (f j), .sh) := Sq.sub (.inr rfl) (tabs_get hj)
  have e5 := tabs_set n f j (f j + c * f i) (mixrow f i j c) (fun k _ hk => by unfold mixrow; rw [if_neg hk]; grind) (by unfold mixrow; rw [if_pos rfl])
  have e6 := ixN_nat hj
  refine mir_ret ?_
  unfold b_law_turned_row
  show exSs fuel _ [.sh x, .sh (.int i), .sh (.int j), .sh (fr c), .no] = _
  rw [ss_go (S1 := [.sh x, .sh (.int i), .sh (.int j), .sh (fr c), .ow (tabs n f)]) (by simp [exS, evE, evEs, args1, e0]),
    ss_go (S1 := [.sh x, .sh (.int i), .sh (.int j), .sh (fr c), .ow (tabs n (mixrow f i j c))]) (by simp [exS, evE, evEs, args1, hasBo, e1, e2, e3, e4, e5, e6, tabs_len])]
  simp [exSs, exS, rL]
theorem beside_ok {p q : Mac} (hk : p.k = q.k) (hn : p.n ≤ 1000) (hm : q.n ≤ 1000) (hpk : p.k ≤ 100) : m_law_beside [macD p, macD q] = .ok (macD (p.sum q), false) := by
  have e1 : evE c_law_beside_1 [.sh (macD p), .sh (macD q), .no, .no, .no, .no, .no, .no] = .ok (rL p.n Mac.zero, .fr) := by
    rw [c_law_beside_1, ev_comp (n := p.n) (rs := [(rT p.n p.F, .sh)]) (fun i => fr (p.F i)) (fun _ => fr 0) (by simp [evEs, evE, mac_0]) (by simp [hasBo]) (by simp [args1, rT, tabs, items]) (by omega) (fun i hi => ⟨.sh, by decide, by simp [ce_law_beside_1, evE, evEs, args1, hasBo, fr_zero]⟩)]
    rfl
  have e2 : evE c_law_beside_2 [.sh (macD p), .sh (macD q), .sh (rT p.n Mac.zero), .no, .no, .no, .no, .no] = .ok (rL q.n Mac.zero, .fr) := by
    rw [c_law_beside_2, ev_comp (n := q.n) (rs := [(rT q.n q.F, .sh)]) (fun i => fr (q.F i)) (fun _ => fr 0) (by simp [evEs, evE, mac_0]) (by simp [hasBo]) (by simp [args1, rT, tabs, items]) (by omega) (fun i hi => ⟨.sh, by decide, by simp [ce_law_beside_2, evE, evEs, args1, hasBo, fr_zero]⟩)]
    rfl
  obtain ⟨S', l1, s5, s6, l2⟩ := for_rng (f := exSs fuel wb_law_beside_1) (tg := fun S d => some (S.set 5 (.sh d))) (fun j S => ∃ s5 s6, S = [.sh (macD p), .sh (macD q), .sh (rT p.n Mac.zero), .sh (rT q.n Mac.zero), .ow ((List.range j).map fun s => sT (p.n + q.n) (p.n + q.n) ((p.sum q).T s)), s5, s6, .no]) (n := p.k) (S := [.sh (macD p), .sh (macD q), .sh (rT p.n Mac.zero), .sh (rT q.n Mac.zero), .ow [], .no, .no, .no]) ⟨.no, .no, rfl⟩ (by
    rintro s S hs ⟨s5, s6, rfl⟩
    have hs' : s < q.k := by omega
    refine ⟨_, [.sh (macD p), .sh (macD q), .sh (rT p.n Mac.zero), .sh (rT q.n Mac.zero), .ow ((List.range (s + 1)).map fun s => sT (p.n + q.n) (p.n + q.n) ((p.sum q).T s)), .sh (.int s), .sh (.lst ((List.range p.n).map fun a => rT (p.n + q.n) (Mac.cat p.n (p.T s a) Mac.zero))), .no], rfl, ?_, _, _, rfl⟩
    have e3 : evE c_law_beside_3 [.sh (macD p), .sh (macD q), .sh (rT p.n Mac.zero), .sh (rT q.n Mac.zero), .ow ((List.range s).map fun s => sT (p.n + q.n) (p.n + q.n) ((p.sum q).T s)), .sh (.int s), s6, .no] = .ok (.lst ((List.range p.n).map fun a => rT (p.n + q.n) (Mac.cat p.n (p.T s a) Mac.zero)), .fr) := by
      rw [c_law_beside_3, ev_comp (n := p.n) (rs := [(sT p.n p.n (p.T s), .sh)]) (fun a => rT p.n (p.T s a)) (fun a => rT (p.n + q.n) (Mac.cat p.n (p.T s a) Mac.zero)) (by simp [evEs, evE, mac_1, mac_s hs]) (by simp [hasBo]) (by simp [args1, sT, items]) (by omega) (fun a ha => ⟨.sh, by decide, by simp [ce_law_beside_3, evE, ev_addR (n := p.n) (m := q.n) (p.T s a) Mac.zero (by omega)]⟩)]
    have e4 : evE c_law_beside_4 [.sh (macD p), .sh (macD q), .sh (rT p.n Mac.zero), .sh (rT q.n Mac.zero), .ow ((List.range s).map fun s => sT (p.n + q.n) (p.n + q.n) ((p.sum q).T s)), .sh (.int s), .sh (.lst ((List.range p.n).map fun a => rT (p.n + q.n) (Mac.cat p.n (p.T s a) Mac.zero))), .no] = .ok (.lst ((List.range q.n).map fun a => rT (p.n + q.n) (Mac.cat p.n Mac.zero (q.T s a))), .fr) := by
      rw [c_law_beside_4, ev_comp (n := q.n) (rs := [(sT q.n q.n (q.T s), .sh)]) (fun a => rT q.n (q.T s a)) (fun a => rT (p.n + q.n) (Mac.cat p.n Mac.zero (q.T s a))) (by simp [evEs, evE, mac_1, mac_s hs']) (by simp [hasBo]) (by simp [args1, sT, items]) (by omega) (fun a ha => ⟨.sh, by decide, by simp [ce_law_beside_4, evE, ev_addR (n := p.n) (m := q.n) Mac.zero (q.T s a) (by omega)]⟩)]
    have e5 : evBin .add (.lst ((List.range p.n).map fun a => rT (p.n + q.n) (Mac.cat p.n (p.T s a) Mac.zero))) (.lst ((List.range q.n).map fun a => rT (p.n + q.n) (Mac.cat p.n Mac.zero (q.T s a)))) = .ok (.lst ((List.range (p.n + q.n)).map fun a => rT (p.n + q.n) ((p.sum q).T s a)), .fr) := by
      have hl : ((List.range p.n).map fun a => rT (p.n + q.n) (Mac.cat p.n (p.T s a) Mac.zero)).length + ((List.range q.n).map fun a => rT (p.n + q.n) (Mac.cat p.n Mac.zero (q.T s a))).length ≤ 16777216 := by simp; omega
      simp only [evBin, hl, if_true, side_rows]
      rfl
    have hlt : s < 16777216 := by omega
    have e6 : evE (.blt .tuple [(.bin .add (.loc 6) c_law_beside_4)]) [.sh (macD p), .sh (macD q), .sh (rT p.n Mac.zero), .sh (rT q.n Mac.zero), .ow ((List.range s).map fun s => sT (p.n + q.n) (p.n + q.n) ((p.sum q).T s)), .sh (.int s), .sh (.lst ((List.range p.n).map fun a => rT (p.n + q.n) (Mac.cat p.n (p.T s a) Mac.zero))), .no] = .ok (sT (p.n + q.n) (p.n + q.n) ((p.sum q).T s), .sh) := by
      simp only [evE, evEs, e4, List.getElem?_cons_zero, List.getElem?_cons_succ, Res.bind, e5, args1, List.map, blt_tl]
      rfl
    rw [wb_law_beside_1, ss_go (S1 := [.sh (macD p), .sh (macD q), .sh (rT p.n Mac.zero), .sh (rT q.n Mac.zero), .ow ((List.range s).map fun s => sT (p.n + q.n) (p.n + q.n) ((p.sum q).T s)), .sh (.int s), .sh (.lst ((List.range p.n).map fun a => rT (p.n + q.n) (Mac.cat p.n (p.T s a) Mac.zero))), .no]) (by
        rw [exS]
        show bindS _ (evE c_law_beside_3 [.sh (macD p), .sh (macD q), .sh (rT p.n Mac.zero), .sh (rT q.n Mac.zero), .ow ((List.range s).map fun s => sT (p.n + q.n) (p.n + q.n) ((p.sum q).T s)), .sh (.int s), s6, .no]) _ = _
        rw [e3]; rfl)]
    rw [ss_go (S1 := [.sh (macD p), .sh (macD q), .sh (rT p.n Mac.zero), .sh (rT q.n Mac.zero), .ow ((List.range (s + 1)).map fun s => sT (p.n + q.n) (p.n + q.n) ((p.sum q).T s)), .sh (.int s), .sh (.lst ((List.range p.n).map fun a => rT (p.n + q.n) (Mac.cat p.n (p.T s a) Mac.zero))), .no]) (by
        simp [exS, e6, hlt, List.range_succ]), exSs])
  subst l2
  refine mir_ret ?_
  unfold b_law_beside
  show exSs fuel _ [.sh (macD p), .sh (macD q), .no, .no, .no, .no, .no, .no] = _
  have hi := items_rng p.k (by omega)
  rw [ss_go (S1 := [.sh (macD p), .sh (macD q), .sh (rT p.n Mac.zero), .no, .no, .no, .no, .no]) (by simp [exS, evE, evEs, e1, args1, ev_tupleL]),
    ss_go (S1 := [.sh (macD p), .sh (macD q), .sh (rT p.n Mac.zero), .sh (rT q.n Mac.zero), .no, .no, .no, .no]) (by simp [exS, evE, evEs, e2, args1, ev_tupleL]),
    ss_go (S1 := [.sh (macD p), .sh (macD q), .sh (rT p.n Mac.zero), .sh (rT q.n Mac.zero), .ow [], .no, .no, .no]) (by simp [exS, evE, evEs, hasBo, args1]),
    ss_go (S1 := [.sh (macD p), .sh (macD q), .sh (rT p.n Mac.zero), .sh (rT q.n Mac.zero), .ow ((List.range p.k).map fun s => sT (p.n + q.n) (p.n + q.n) ((p.sum q).T s)), s5, s6, .no]) (by
      rw [w_law_beside_1, exS]
      simp [evI, evEs, evE, args1, hasBo, mac_1, steps_len, hi]
      exact l1)]
  simp [exSs, exS, evE, evEs, args1, hasBo, mac_0, mac_2, blt_tl, ev_addR (n := p.n) (m := q.n) p.F q.F (by omega), ev_addR (n := p.n) (m := q.n) p.L q.L (by omega)]
  rfl
/-- a machine whose numbers have a few figures -/
structure Few (m : Mac) : Prop where
  F : ∀ i, i < m.n → Sml (10 ^ 20) (m.F i)
  T : ∀ s a b, s < m.k → a < m.n → b < m.n → Sml (10 ^ 20) (m.T s a b)
  L : ∀ i, i < m.n → Sml (10 ^ 20) (m.L i)
theorem Sml.add {X Y : Nat} {p q : Rat} (h : Sml X p) (k : Sml Y q) : Sml (X * Y * 2) (p + q) := by
  have hp := (Fit.self p).scale q.den q.den_pos
  have hq := (Fit.self q).scale p.den p.den_pos
  rw [Nat.mul_comm q.den p.den] at hq
  have h2 := hp.add hq
  refine Sml.of h2 (Nat.le_trans (Nat.mul_le_mul h.1 k.1) (by omega)) ?_
  have a := Nat.mul_le_mul h.2 k.1
  have b := Nat.mul_le_mul k.2 h.1
  rw [Nat.mul_comm Y X] at b
  omega
theorem mixrow_sm {n i j : Nat} {f : Nat → Rat} {c : Rat} (hi : i < n) (hf : ∀ b, b < n → Sml (10 ^ 20) (f b)) (hc : Sml (10 ^ 20) c) : ∀ b, b < n → Sml (10 ^ 65) (mixrow f i j c b) := fun b hb => by
  unfold mixrow
  split
  · exact ((hf b hb).add (hc.mul (hf i hi))).up (by decide +kernel)
  · rw [show f b + 0 = f b by grind]; exact (hf b hb).up (by decide +kernel)
end MP
set_option Elab.async false
set_option linter.all false
set_option maxRecDepth 100000
set_option maxHeartbeats 4000000
namespace MP
open PySem PySem.Spec PyProof.Rows L2 WM
theorem fr_neg (c : Rat) : D.tup [.int (0 - c.num), .int (c.den : Int)] = fr (-c) := by
  unfold fr
  rw [Rat.neg_num, Rat.neg_den]
  congr 3
  omega
/-- the rows of one sign, mixed: the first half -/
theorem mixed_ok {m : Mac} {i j : Nat} {c : Rat} (hi : i < m.n) (hj : j < m.n) (hn : m.n ≤ 1000) (hk : m.k ≤ 1000) (hf : Few m) (hc : Sml (10 ^ 20) c) : m_law_mixed [macD m, .int i, .int j, fr c] = .ok (macD (m.mix i j c), false) := by
  have up5 : ∀ {q : Rat}, Sml (10 ^ 20) q → Sml (10 ^ 50) q := fun h => h.up (by decide +kernel)
  have hc' : Sml (10 ^ 20) (-c) := hc.neg
  have e1 := turned_row_ok (x := rT m.n m.F) (rT_sq m.n m.F) hi hj (up5 (hf.F i hi)) (up5 (hf.F j hj)) (up5 hc)
  have e2 := turned_row_ok (x := rT m.n m.L) (rT_sq m.n m.L) hj hi (up5 (hf.L j hj)) (up5 (hf.L i hi)) (up5 hc')
  obtain ⟨S', l1, s8, s9, l2⟩ := for_tab (f := exSs fuel wb_law_mixed_1) (tg := fun S d => some (S.set 8 (.sh d))) (fun s S => ∃ s8 s9, S = [.sh (macD m), .sh (.int i), .sh (.int j), .sh (fr c), .sh (fr (-c)), .sh (rL m.n (mixrow m.F i j c)), .sh (rL m.n (mixrow m.L j i (-c))), .ow ((List.range s).map fun s => sT m.n m.n ((m.mix i j c).T s)), s8, s9, .no, .no]) (fun s => sT m.n m.n (m.T s)) (n := m.k)
    (S := [.sh (macD m), .sh (.int i), .sh (.int j), .sh (fr c), .sh (fr (-c)), .sh (rL m.n (mixrow m.F i j c)), .sh (rL m.n (mixrow m.L j i (-c))), .ow [], .no, .no, .no, .no]) ⟨.no, .no, rfl⟩ (by
    rintro s S hs ⟨s8, s9, rfl⟩
    obtain ⟨ow, how⟩ : ∃ ow, ((List.range s).map fun s => sT m.n m.n ((m.mix i j c).T s)) = ow := ⟨_, rfl⟩
    have hol : ow.length = s := by rw [← how]; simp
    rw [how]
    let R : Nat → Nat → Rat := fun a => mixrow (m.T s a) i j c
    let T2 : Nat → Nat → Rat := fun a b => mixrow (fun a => R a b) j i (-c) a
    have hR : ∀ a b, a < m.n → b < m.n → Sml (10 ^ 65) (R a b) := fun a b ha hb => mixrow_sm hi (fun b hb => hf.T s a b hs ha hb) hc b hb
    refine ⟨_, [.sh (macD m), .sh (.int i), .sh (.int j), .sh (fr c), .sh (fr (-c)), .sh (rL m.n (mixrow m.F i j c)), .sh (rL m.n (mixrow m.L j i (-c))), .ow ((List.range (s + 1)).map fun s => sT m.n m.n ((m.mix i j c).T s)), .sh (sT m.n m.n (m.T s)), .sh (.lst ((List.range m.n).map fun a => rL m.n (T2 a))), .no, .no], rfl, ?_, _, _, rfl⟩
    have e3 : evE c_law_mixed_1 [.sh (macD m), .sh (.int i), .sh (.int j), .sh (fr c), .sh (fr (-c)), .sh (rL m.n (mixrow m.F i j c)), .sh (rL m.n (mixrow m.L j i (-c))), .ow ow, .sh (sT m.n m.n (m.T s)), s9, .no, .no] = .ok (.lst ((List.range m.n).map fun a => rL m.n (R a)), .fr) := by
      rw [c_law_mixed_1, ev_comp (n := m.n) (rs := [(sT m.n m.n (m.T s), .sh)]) (fun a => rT m.n (m.T s a)) (fun a => rL m.n (R a)) (by simp [evEs, evE]) (by simp [hasBo]) (by simp [args1, sT, items]) (by omega) (fun a ha => ⟨.fr, by decide, by
        have t := turned_row_ok (x := rT m.n (m.T s a)) (rT_sq m.n (m.T s a)) hi hj (up5 (hf.T s a i hs ha hi)) (up5 (hf.T s a j hs ha hj)) (up5 hc)
        simp [ce_law_mixed_1, evE, evEs, args1, hasBo, t]
        rfl⟩)]
    have g1 : ∀ a, a < m.n → evSub (.lst ((List.range m.n).map fun a => rL m.n (R a))) (.int a) = .ok (rL m.n (R a), .sh) := fun a ha => Sq.sub (xs := (List.range m.n).map fun a => rL m.n (R a)) (.inr rfl) (by simp [ha])
    have e4 : evE c_law_mixed_2 [.sh (macD m), .sh (.int i), .sh (.int j), .sh (fr c), .sh (fr (-c)), .sh (rL m.n (mixrow m.F i j c)), .sh (rL m.n (mixrow m.L j i (-c))), .ow ow, .sh (sT m.n m.n (m.T s)), .ow ((List.range m.n).map fun a => rL m.n (R a)), .no, .no] = .ok (rL m.n (T2 i), .fr) := by
      rw [c_law_mixed_2, ev_comp (n := m.n) (rs := [(.int m.n, .sh)]) (fun b : Nat => MP.D.int b) (fun b => fr (T2 i b)) (by simp [evEs, evE, args1, evBlt]) (by simp [hasBo]) (by simp only [args1, List.map]; exact items_rng m.n (by omega)) (by omega) (fun b hb => ⟨.sh, by decide, by
        have t1 : evSub (rL m.n (R i)) (.int b) = .ok (fr (R i b), .sh) := Sq.sub (.inr rfl) (tabs_get hb)
        have t2 : evSub (rL m.n (R j)) (.int b) = .ok (fr (R j b), .sh) := Sq.sub (.inr rfl) (tabs_get hb)
        have m1 : Sml (10 ^ 200) (-c * R j b) := (hc'.mul (hR j b hj hb)).up (by decide +kernel)
        have t3 := times_sm (hc'.up (by decide +kernel)) ((hR j b hj hb).up (by decide +kernel))
        have t4 := plus_sm ((hR i b hi hb).up (by decide +kernel)) m1
        have t5 : R i b + -c * R j b = T2 i b := by
          show _ = R i b + if i = i then -c * R j b else 0
          rw [if_pos rfl]
        rw [t5] at t4
        simp [ce_law_mixed_2, evE, evEs, args1, hasBo, g1 i hi, g1 j hj, t1, t2, t3, t4]⟩)]
      rfl
    have e5 : ((List.range m.n).map fun a => rL m.n (R a)).set i (rL m.n (T2 i)) = (List.range m.n).map fun a => rL m.n (T2 a) := by
      apply List.ext_getElem?
      intro k
      rw [List.getElem?_set]
      by_cases e : i = k
      · subst e
        simp [hi]
      · rw [if_neg e, List.getElem?_map, List.getElem?_map]
        cases hk : (List.range m.n)[k]? with
        | none => rfl
        | some a =>
          have : a = k := by
            by_cases hkn : k < m.n
            · rw [List.getElem?_range hkn] at hk; cases hk; rfl
            · rw [List.getElem?_eq_none (by simpa using hkn)] at hk; cases hk
          subst this
          show some (rL m.n (R a)) = some (rL m.n (T2 a))
          have : T2 a = R a := funext fun b => by
            show R a b + (if a = i then -c * R j b else 0) = R a b
            rw [if_neg (fun z => e z.symm)]; grind
          rw [this]
    have e6 := ixN_nat hi
    have e7 : evE c_law_mixed_3 [.sh (macD m), .sh (.int i), .sh (.int j), .sh (fr c), .sh (fr (-c)), .sh (rL m.n (mixrow m.F i j c)), .sh (rL m.n (mixrow m.L j i (-c))), .ow ow, .sh (sT m.n m.n (m.T s)), .sh (.lst ((List.range m.n).map fun a => rL m.n (T2 a))), .no, .no] = .ok (.lst ((List.range m.n).map fun a => rT m.n (T2 a)), .fr) := by
      rw [c_law_mixed_3, ev_comp (n := m.n) (rs := [(.lst ((List.range m.n).map fun a => rL m.n (T2 a)), .sh)]) (fun a => rL m.n (T2 a)) (fun a => rT m.n (T2 a)) (by simp [evEs, evE]) (by simp [hasBo]) (by simp [args1, items]) (by omega) (fun a ha => ⟨.sh, by decide, by simp [ce_law_mixed_3, evE, evEs, args1]; rfl⟩)]
    have e8 : (List.range (s + 1)).map (fun s => sT m.n m.n ((m.mix i j c).T s)) = ow ++ [sT m.n m.n T2] := by
      rw [List.range_succ, List.map_append, how]; rfl
    rw [e8, wb_law_mixed_1]
    show exSs fuel _ [.sh (macD m), .sh (.int i), .sh (.int j), .sh (fr c), .sh (fr (-c)), .sh (rL m.n (mixrow m.F i j c)), .sh (rL m.n (mixrow m.L j i (-c))), .ow ow, .sh (sT m.n m.n (m.T s)), s9, .no, .no] = _
    rw [ss_go (S1 := [.sh (macD m), .sh (.int i), .sh (.int j), .sh (fr c), .sh (fr (-c)), .sh (rL m.n (mixrow m.F i j c)), .sh (rL m.n (mixrow m.L j i (-c))), .ow ow, .sh (sT m.n m.n (m.T s)), .ow ((List.range m.n).map fun a => rL m.n (R a)), .no, .no]) (by rw [exS, e3]; rfl),
      ss_go (S1 := [.sh (macD m), .sh (.int i), .sh (.int j), .sh (fr c), .sh (fr (-c)), .sh (rL m.n (mixrow m.F i j c)), .sh (rL m.n (mixrow m.L j i (-c))), .ow ow, .sh (sT m.n m.n (m.T s)), .ow ((List.range m.n).map fun a => rL m.n (T2 a)), .no, .no]) (by
        rw [exS, e4]
        simp [evE, e6, e5]),
      ss_go (S1 := [.sh (macD m), .sh (.int i), .sh (.int j), .sh (fr c), .sh (fr (-c)), .sh (rL m.n (mixrow m.F i j c)), .sh (rL m.n (mixrow m.L j i (-c))), .ow ow, .sh (sT m.n m.n (m.T s)), .sh (.lst ((List.range m.n).map fun a => rL m.n (T2 a))), .no, .no]) (by simp [exS])]
    have hlt : ow.length < 16777216 := by omega
    have e9 : evE (.blt .tuple [c_law_mixed_3]) [.sh (macD m), .sh (.int i), .sh (.int j), .sh (fr c), .sh (fr (-c)), .sh (rL m.n (mixrow m.F i j c)), .sh (rL m.n (mixrow m.L j i (-c))), .ow ow, .sh (sT m.n m.n (m.T s)), .sh (.lst ((List.range m.n).map fun a => rL m.n (T2 a))), .no, .no] = .ok (sT m.n m.n T2, .sh) := by
      rw [evE, evEs, e7]; rfl
    simp [exSs, exS, e9, hlt])
  subst l2
  refine mir_ret ?_
  unfold b_law_mixed
  show exSs fuel _ [.sh (macD m), .sh (.int i), .sh (.int j), .sh (fr c), .no, .no, .no, .no, .no, .no, .no, .no] = _
  rw [ss_go (S1 := [.sh (macD m), .sh (.int i), .sh (.int j), .sh (fr c), .sh (fr (-c)), .no, .no, .no, .no, .no, .no, .no]) (by simp [exS, evE, evEs, args1, hasBo, fr_num, fr_den, ← fr_neg]),
    ss_go (S1 := [.sh (macD m), .sh (.int i), .sh (.int j), .sh (fr c), .sh (fr (-c)), .sh (rL m.n (mixrow m.F i j c)), .no, .no, .no, .no, .no, .no]) (by simp [exS, evE, evEs, args1, hasBo, mac_0, e1]),
    ss_go (S1 := [.sh (macD m), .sh (.int i), .sh (.int j), .sh (fr c), .sh (fr (-c)), .sh (rL m.n (mixrow m.F i j c)), .sh (rL m.n (mixrow m.L j i (-c))), .no, .no, .no, .no, .no]) (by simp [exS, evE, evEs, args1, hasBo, mac_2, e2]),
    ss_go (S1 := [.sh (macD m), .sh (.int i), .sh (.int j), .sh (fr c), .sh (fr (-c)), .sh (rL m.n (mixrow m.F i j c)), .sh (rL m.n (mixrow m.L j i (-c))), .ow [], .no, .no, .no, .no]) (by simp [exS, evE, evEs, args1, hasBo]),
    ss_go (S1 := [.sh (macD m), .sh (.int i), .sh (.int j), .sh (fr c), .sh (fr (-c)), .sh (rL m.n (mixrow m.F i j c)), .sh (rL m.n (mixrow m.L j i (-c))), .ow ((List.range m.k).map fun s => sT m.n m.n ((m.mix i j c).T s)), s8, s9, .no, .no]) (by
      rw [w_law_mixed_1, exS]
      simp [evI, evEs, evE, args1, hasBo, mac_1, items]
      exact l1)]
  simp [exSs, exS, evE, evEs, args1, hasBo, ev_tupleL, blt_tl]
  rfl
/-! sizes of machines that were mixed t times -/
def KFit (t : Nat) (m : Mac) : Prop := MFit m (6 * 6 ^ t) (24 * 30 ^ t) (6 * 36 ^ t) (24 * 900 ^ t) (6 * 6 ^ t) (24 * 30 ^ t)
theorem KFit.few {t : Nat} {m : Mac} (h : KFit t m) (ht : t ≤ 3) : Few m := by
  have a : ∀ b : Nat, 0 < b → b ^ t ≤ b ^ 3 := fun b hb => Nat.pow_le_pow_right hb ht
  have a1 := a 6 (by decide)
  have a2 := a 30 (by decide)
  have a3 := a 36 (by decide)
  have a4 := a 900 (by decide)
  have a1 : 6 ^ t ≤ 216 := a1
  have a2 : 30 ^ t ≤ 27000 := a2
  have a3 : 36 ^ t ≤ 46656 := a3
  have a4 : 900 ^ t ≤ 729000000 := a4
  have b : 10 ^ 20 = 100000000000000000000 := by decide +kernel
  refine ⟨fun i hi => Sml.of (h.F i hi) ?_ ?_, fun s a b hs ha hb => Sml.of (h.T s a b hs ha hb) ?_ ?_, fun i hi => Sml.of (h.L i hi) ?_ ?_⟩ <;> omega
theorem mixrow_fit {n D N i j : Nat} {f : Nat → Rat} {c : Rat} (hi : i < n) (hf : ∀ b, b < n → Fit D N (f b)) (hc : Fit 6 24 c) : ∀ b, b < n → Fit (D * 6) (N * 30) (mixrow f i j c b) := fun b hb => by
  unfold mixrow
  have h1 := (hf b hb).scale 6 (by decide)
  split
  · have h2 := hc.mul (hf i hi)
    rw [Nat.mul_comm 6 D] at h2
    exact (h1.add h2).mono (by omega)
  · rw [show f b + 0 = f b by grind]
    exact h1.mono (by omega)
theorem KFit.mix {t : Nat} {m : Mac} (h : KFit t m) {i j : Nat} (hi : i < m.n) (hj : j < m.n) {c : Rat} (hc : Fit 6 24 c) : KFit (t + 1) (m.mix i j c) := by
  have hc' := hc.neg
  have e1 : 6 * 6 ^ (t + 1) = 6 * 6 ^ t * 6 := by rw [Nat.pow_succ, Nat.mul_assoc]
  have e2 : 24 * 30 ^ (t + 1) = 24 * 30 ^ t * 30 := by rw [Nat.pow_succ, Nat.mul_assoc]
  have e3 : 6 * 36 ^ (t + 1) = 6 * 36 ^ t * 6 * 6 := by rw [Nat.pow_succ]; omega
  have e4 : 24 * 900 ^ (t + 1) = 24 * 900 ^ t * 30 * 30 := by rw [Nat.pow_succ]; omega
  show MFit _ _ _ _ _ _ _
  rw [e1, e2, e3, e4]
  exact ⟨fun b hb => mixrow_fit hi h.F hc b hb, fun s a b hs ha hb => mixrow_fit (f := fun a => mixrow (m.T s a) i j c b) hj (fun a ha => mixrow_fit hi (fun b hb => h.T s a b hs ha hb) hc b hb) hc' a ha, fun b hb => mixrow_fit hj h.L hc' b hb⟩
theorem KFit.up {t : Nat} {m : Mac} (h : KFit t m) : KFit (t + 1) m := by
  have e1 : 6 * 6 ^ (t + 1) = 6 * 6 ^ t * 6 := by rw [Nat.pow_succ, Nat.mul_assoc]
  have e2 : 24 * 30 ^ (t + 1) = 24 * 30 ^ t * 30 := by rw [Nat.pow_succ, Nat.mul_assoc]
  have e3 : 6 * 36 ^ (t + 1) = 6 * 36 ^ t * 36 := by rw [Nat.pow_succ, Nat.mul_assoc]
  have e4 : 24 * 900 ^ (t + 1) = 24 * 900 ^ t * 900 := by rw [Nat.pow_succ, Nat.mul_assoc]
  show MFit _ _ _ _ _ _ _
  rw [e1, e2, e3, e4]
  exact ⟨fun b hb => ((h.F b hb).scale 6 (by decide)).mono (Nat.mul_le_mul_left _ (by decide)), fun s a b hs ha hb => ((h.T s a b hs ha hb).scale 36 (by decide)).mono (Nat.mul_le_mul_left _ (by decide)), fun b hb => ((h.L b hb).scale 6 (by decide)).mono (Nat.mul_le_mul_left _ (by decide))⟩
theorem idle_fit (c : Int) (n k : Nat) : MFit (Mac.idle c n k) 6 24 6 24 6 24 := by
  have h := MFit.drawn c n k
  unfold Mac.idle
  split
  · exact ⟨fun _ _ => Fit.zero (by decide), h.T, h.L⟩
  · exact ⟨h.F, h.T, fun _ _ => Fit.zero (by decide)⟩
theorem idle_n (c : Int) (n k : Nat) : (Mac.idle c n k).n = n ∧ (Mac.idle c n k).k = k := by
  unfold Mac.idle
  split <;> exact ⟨rfl, rfl⟩
/-- rows of o hang on the numbers of U, of which m has the first -/
def Hang (m o : Mac) (d : Nat) : Prop := ∃ U : List Nat → Nat → Rat, (∀ w k, k < m.n → m.row w k = U w k) ∧ ∀ k, k < o.n → ∃ g : Nat → Rat, ∀ w, o.row w k = sm d fun l => g l * U w l
theorem unit_sum {d l : Nat} (hl : l < d) (U : Nat → Rat) : U l = sm d fun j => (if j = l then 1 else 0) * U j := by
  rw [sm_one (k := l) hl (fun j _ hj => by rw [if_neg hj]; grind), if_pos rfl]; grind
theorem row_F0 (m : Mac) (h : m.F = Mac.zero) (w : List Nat) : m.row w = Mac.zero := by
  have key : ∀ (w : List Nat), m.run Mac.zero w = Mac.zero := by
    intro w
    induction w with
    | nil => rfl
    | cons s w ih =>
      rw [Mac.run_cons]
      have : m.step Mac.zero s = Mac.zero := funext fun b => sm_zero fun a _ => by unfold Mac.zero; grind
      rw [this, ih]
  show m.run m.F w = _
  rw [h, key]
/-- rows of o hang on m's numbers -/
def HangM (m o : Mac) : Prop := ∀ k, k < o.n → ∃ g : Nat → Rat, ∀ w, o.row w k = sm m.n fun l => g l * m.row w l
theorem sm_more {a b : Nat} {f : Nat → Rat} (h : ∀ i, a ≤ i → i < a + b → f i = 0) : sm (a + b) f = sm a f := by
  induction b with
  | zero => rfl
  | succ b ih =>
    show sm (a + b) f + f (a + b) = _
    rw [ih (fun i h1 h2 => h i h1 (by omega)), h (a + b) (by omega) (by omega)]
    grind
theorem kin_more {m : Mac} {c : Int} {more : Nat} (hf : MFit m 6 24 6 24 6 24) (hn : m.n + more ≤ 100) (hk : m.k < 10) :
    ∃ o : Mac, o.n = m.n + more ∧ o.k = m.k ∧ KFit 3 o ∧ (∀ w, o.wt w = m.wt w) ∧ Hang m o (m.n + more) ∧ (c.fmod 2 = 0 → HangM m o) ∧ m_law_kin [macD m, .int c, .int more] = .ok (macD o, false) := by
  -- idle rooms
  have first : ∃ (m1 : Mac) (s5 s6 : SV), m1.n = m.n + more ∧ m1.k = m.k ∧ MFit m1 6 24 6 24 6 24 ∧ (∀ w, m1.wt w = m.wt w) ∧ (∀ w k, k < m.n → m.row w k = m1.row w k) ∧ (c.fmod 2 = 0 → ∀ w k, m.n ≤ k → k < m1.n → m1.row w k = 0) ∧ exSs fuel (b_law_kin.take 3) [.sh (macD m), .sh (.int c), .sh (.int more), .no, .no, .no, .no, .no, .no, .no] = .nx [.sh (macD m1), .sh (.int c), .sh (.int more), .sh (.int m.n), .sh (.int m.k), s5, s6, .no, .no, .no] := by
    rw [b_law_kin, List.take_succ_cons, List.take_succ_cons, List.take_succ_cons, List.take_zero]
    have g1 : exS fuel (.set 3 (.blt .len [(.sub (.loc 0) (.int 0))])) [.sh (macD m), .sh (.int c), .sh (.int more), .no, .no, .no, .no, .no, .no, .no] = .nx [.sh (macD m), .sh (.int c), .sh (.int more), .sh (.int m.n), .no, .no, .no, .no, .no, .no] := by simp [exS, evE, evEs, mac_0, args1, rT_len]
    have g2 : exS fuel (.set 4 (.blt .len [(.sub (.loc 0) (.int 1))])) [.sh (macD m), .sh (.int c), .sh (.int more), .sh (.int m.n), .no, .no, .no, .no, .no, .no] = .nx [.sh (macD m), .sh (.int c), .sh (.int more), .sh (.int m.n), .sh (.int m.k), .no, .no, .no, .no, .no] := by simp [exS, evE, evEs, mac_1, args1, steps_len]
    rw [ss_go g1, ss_go g2]
    by_cases h0 : more = 0
    · subst h0
      exact ⟨m, .no, .no, rfl, rfl, hf, fun _ => rfl, fun _ _ _ => rfl, fun _ w k h1 h2 => absurd h1 (by omega), by simp [exSs, exS, evE, evCmp]⟩
    · have hp : (0 : Int) < (more : Int) := by omega
      have e1 := law_machine_ok c more m.k (by omega) hk
      have e2 : ∀ s5, evE c_law_kin_1 [.sh (macD m), .sh (.int c), .sh (.int more), .sh (.int m.n), .sh (.int m.k), s5, .no, .no, .no, .no] = .ok (rL more Mac.zero, .fr) := fun s5 => by
        rw [c_law_kin_1, ev_comp (n := more) (rs := [(.int more, .sh)]) (fun b : Nat => MP.D.int b) (fun b => fr 0) (by simp [evEs, evE]) (by simp [hasBo]) (by simp only [args1, List.map]; exact items_rng more (by omega)) (by omega) (fun b hb => ⟨.sh, by decide, by simp [ce_law_kin_1, evE, evEs, args1, hasBo, fr_zero]⟩)]
        rfl
      have e3 : evBin .mod (.int c) (.int 2) = .ok (.int (c.fmod 2), .sh) := ev_mod (by decide)
      have hi := idle_n c more m.k
      have e4 : m_law_beside [macD m, macD (Mac.idle c more m.k)] = .ok (macD (m.sum (Mac.idle c more m.k)), false) := beside_ok hi.2.symm (by omega) (by rw [hi.1]; omega) (by omega)
      refine ⟨m.sum (Mac.idle c more m.k), .sh (macD (drawn c more m.k)), .sh (rT more Mac.zero), by show m.n + (Mac.idle c more m.k).n = _; rw [hi.1], rfl, hf.sum (by decide) (by decide) (by decide) (idle_fit c more m.k) hi.2.symm, fun w => by rw [Mac.sum_wt, Mac.idle_wt]; grind, fun w k hk => by rw [Mac.sum_row, Mac.cat_lo hk], fun hz w k h1 h2 => by
        obtain ⟨j, rfl⟩ : ∃ j, k = m.n + j := ⟨k - m.n, by omega⟩
        rw [Mac.sum_row, Mac.cat_hi, row_F0 _ (by unfold Mac.idle; rw [if_pos hz])]
        rfl, ?_⟩
      have cg : evE (.cmp .gt (.loc 2) (.int 0)) [.sh (macD m), .sh (.int c), .sh (.int more), .sh (.int m.n), .sh (.int m.k), .no, .no, .no, .no, .no] = .ok (.bl true, .sh) := by
        simp [evE, evCmp, hp]
        omega
      have g3 : exSs fuel [.set 5 (.call "_law_machine" m_law_machine [(.loc 1), (.loc 2), (.loc 4)]), .set 6 (.blt .tuple [c_law_kin_1]), .ife (.cmp .eq (.bin .mod (.loc 1) (.int 2)) (.int 0)) [.set 0 (.call "_law_beside" m_law_beside [(.loc 0), (.tup [(.loc 6), (.sub (.loc 5) (.int 1)), (.sub (.loc 5) (.int 2))])])] [.set 0 (.call "_law_beside" m_law_beside [(.loc 0), (.tup [(.sub (.loc 5) (.int 0)), (.sub (.loc 5) (.int 1)), (.loc 6)])])]] [.sh (macD m), .sh (.int c), .sh (.int more), .sh (.int m.n), .sh (.int m.k), .no, .no, .no, .no, .no] = .nx [.sh (macD (m.sum (Mac.idle c more m.k))), .sh (.int c), .sh (.int more), .sh (.int m.n), .sh (.int m.k), .sh (macD (drawn c more m.k)), .sh (rT more Mac.zero), .no, .no, .no] := by
        rw [ss_go (S1 := [.sh (macD m), .sh (.int c), .sh (.int more), .sh (.int m.n), .sh (.int m.k), .sh (macD (drawn c more m.k)), .no, .no, .no, .no]) (by simp [exS, evE, evEs, args1, hasBo, e1]),
          ss_go (S1 := [.sh (macD m), .sh (.int c), .sh (.int more), .sh (.int m.n), .sh (.int m.k), .sh (macD (drawn c more m.k)), .sh (rT more Mac.zero), .no, .no, .no]) (by simp [exS, evE, evEs, e2, args1, ev_tupleL])]
        by_cases hz : c.fmod 2 = 0
        · have e5 : MP.D.tup [rT more Mac.zero, MP.D.tup ((List.range (drawn c more m.k).k).map fun s => sT (drawn c more m.k).n (drawn c more m.k).n ((drawn c more m.k).T s)), rT (drawn c more m.k).n (drawn c more m.k).L] = macD (Mac.idle c more m.k) := by
            unfold Mac.idle
            rw [if_pos hz]; rfl
          have h1 := mac_1 (drawn c more m.k)
          have h2 := mac_2 (drawn c more m.k)
          simp [exSs, exS, evE, evEs, args1, hasBo, e3, hz, h1, h2, e5, e4]
        · have e5 : MP.D.tup [rT (drawn c more m.k).n (drawn c more m.k).F, MP.D.tup ((List.range (drawn c more m.k).k).map fun s => sT (drawn c more m.k).n (drawn c more m.k).n ((drawn c more m.k).T s)), rT more Mac.zero] = macD (Mac.idle c more m.k) := by
            unfold Mac.idle
            rw [if_neg hz]; rfl
          have h1 := mac_1 (drawn c more m.k)
          have h2 := mac_0 (drawn c more m.k)
          simp [exSs, exS, evE, evEs, args1, hasBo, e3, hz, h1, h2, e5, e4]
      rw [ss_go (S1 := [.sh (macD (m.sum (Mac.idle c more m.k))), .sh (.int c), .sh (.int more), .sh (.int m.n), .sh (.int m.k), .sh (macD (drawn c more m.k)), .sh (rT more Mac.zero), .no, .no, .no]) (by rw [exS, cg]; exact g3), exSs]
  obtain ⟨m1, s5, s6, n1, k1, f1, w1, u1, z1, hx⟩ := first
  have hpos : ∀ c : Int, 0 ≤ c.fmod (if (m1.n : Int) > 1 then (m1.n : Int) else 1) ∧ c.fmod (if (m1.n : Int) > 1 then (m1.n : Int) else 1) < (if (m1.n : Int) > 1 then (m1.n : Int) else 1) := fun c => fmod_lt' (by split <;> omega)
  obtain ⟨S', l1, m2, c2, s7, s8, s9, n2, k2, f2, w2, g2, l2⟩ := for_rng (f := exSs fuel wb_law_kin_1) (tg := fun S d => some (S.set 7 (.sh d))) (fun t S => ∃ (m2 : Mac) (c2 : Int) (s7 s8 s9 : SV), m2.n = m1.n ∧ m2.k = m1.k ∧ KFit t m2 ∧ (∀ w, m2.wt w = m.wt w) ∧ (∀ k, k < m2.n → ∃ g : Nat → Rat, ∀ w, m2.row w k = sm m1.n fun l => g l * m1.row w l) ∧ S = [.sh (macD m2), .sh (.int c2), .sh (.int more), .sh (.int m1.n), .sh (.int m.k), s5, s6, s7, s8, s9]) (n := 3)
    (S := [.sh (macD m1), .sh (.int c), .sh (.int more), .sh (.int m1.n), .sh (.int m.k), s5, s6, .no, .no, .no]) ⟨m1, c, .no, .no, .no, rfl, rfl, f1, w1, fun k hk => ⟨fun j => if j = k then 1 else 0, fun w => unit_sum hk _⟩, rfl⟩ (by
    rintro t S ht ⟨m2, c2, s7, s8, s9, n2, k2, f2, w2, g2, rfl⟩
    obtain ⟨o1, o2⟩ := nxt_ok 31 c2
    obtain ⟨y, hy⟩ : ∃ y, nxt 31 c2 = y := ⟨_, rfl⟩
    rw [hy] at o2
    have q1 : evBin .fdiv (.int y) (.int 5) = .ok (.int (y.fdiv 5), .sh) := ev_fdiv (by decide) (by decide +kernel)
    have q2 : evBin .fdiv (.int y) (.int 35) = .ok (.int (y.fdiv 35), .sh) := ev_fdiv (by decide) (by decide +kernel)
    have q3 : evBin .fdiv (.int y) (.int 300) = .ok (.int (y.fdiv 300), .sh) := ev_fdiv (by decide) (by decide +kernel)
    have mx : evBlt .max [.int 1, .int m1.n] = .ok (.int (if (m1.n : Int) > 1 then (m1.n : Int) else 1), .sh) := rfl
    have pi := hpos (y.fdiv 5)
    have pj := hpos (y.fdiv 35)
    have hx0 : (if (m1.n : Int) > 1 then (m1.n : Int) else 1) ≠ 0 := by split <;> omega
    have hxle : (if (m1.n : Int) > 1 then (m1.n : Int) else 1) ≤ if m1.n = 0 then 1 else (m1.n : Int) := by split <;> split <;> omega
    generalize (if (m1.n : Int) > 1 then (m1.n : Int) else 1) = x at *
    have q4 : evBin .mod (.int (y.fdiv 5)) (.int x) = .ok (.int ((y.fdiv 5).fmod x), .sh) := ev_mod hx0
    have q5 : evBin .mod (.int (y.fdiv 35)) (.int x) = .ok (.int ((y.fdiv 35).fmod x), .sh) := ev_mod hx0
    obtain ⟨i, hi⟩ : ∃ i : Nat, (y.fdiv 5).fmod x = i := ⟨((y.fdiv 5).fmod x).toNat, by omega⟩
    obtain ⟨j, hj⟩ : ∃ j : Nat, (y.fdiv 35).fmod x = j := ⟨((y.fdiv 35).fmod x).toNat, by omega⟩
    rw [hi] at pi q4
    rw [hj] at pj q5
    have e1 := law_fraction_ok (y.fdiv 300)
    by_cases hij : i = j
    · refine ⟨_, [.sh (macD m2), .sh (.int y), .sh (.int more), .sh (.int m1.n), .sh (.int m.k), s5, s6, .sh (.int t), .sh (.int i), .sh (.int j)], rfl, ?_, m2, y, _, _, _, n2, k2, f2.up, w2, g2, rfl⟩
      subst hij
      simp [wb_law_kin_1, exSs, exS, evE, evEs, args1, hasBo, o1, o2, q1, q2, q4, q5, mx]
    · have hin : i < m2.n := by
        rw [n2]
        split at hxle <;> omega
      have hjn : j < m2.n := by
        rw [n2]
        split at hxle <;> omega
      have hfr := frac_fit (y.fdiv 300)
      have e2 := mixed_ok (m := m2) (c := fracQ (y.fdiv 300)) hin hjn (by omega) (by omega) (f2.few (by omega)) (Sml.of hfr (by decide +kernel) (by decide +kernel))
      have hij' : ¬ ((i : Int) = (j : Int)) := by omega
      refine ⟨_, [.sh (macD (m2.mix i j (fracQ (y.fdiv 300)))), .sh (.int y), .sh (.int more), .sh (.int m1.n), .sh (.int m.k), s5, s6, .sh (.int t), .sh (.int i), .sh (.int j)], rfl, ?_, m2.mix i j (fracQ (y.fdiv 300)), y, _, _, _, n2, k2, f2.mix hin hjn hfr, fun w => by rw [Mac.mix_wt m2 hin hjn hij]; exact w2 w, fun k hk => by
        have e : ∀ w, (m2.mix i j (fracQ (y.fdiv 300))).row w k = m2.row w k + if k = j then fracQ (y.fdiv 300) * m2.row w i else 0 := fun w => by
          show (m2.mix i j (fracQ (y.fdiv 300))).run (mixrow m2.F i j (fracQ (y.fdiv 300))) w k = _
          rw [Mac.mix_run m2 hin hjn hij]; rfl
        obtain ⟨g, hg⟩ := g2 k hk
        obtain ⟨g', hg'⟩ := g2 i hin
        refine ⟨fun l => g l + if k = j then fracQ (y.fdiv 300) * g' l else 0, fun w => ?_⟩
        rw [e w, hg w, hg' w]
        split
        · rw [← sm_mul, ← sm_add]
          exact sm_congr fun l _ => by grind
        · rw [show ∀ x : Rat, x + 0 = x from fun x => by grind]
          exact sm_congr fun l _ => by grind, rfl⟩
      simp [wb_law_kin_1, exSs, exS, evE, evEs, args1, hasBo, o1, o2, q1, q2, q3, q4, q5, mx, e1, e2]
      rw [show decide ((i : Int) = (j : Int)) = false from decide_eq_false hij']
      rfl)
  subst l2
  refine ⟨m2, by omega, by omega, f2, w2, ⟨fun w => m1.row w, u1, fun k hk => by rw [← n1]; exact g2 k hk⟩, fun hz k hk => by
    obtain ⟨g, hg⟩ := g2 k hk
    refine ⟨g, fun w => ?_⟩
    rw [hg w, n1, sm_more fun i a b => by rw [z1 hz w i a (by omega)]; grind]
    exact sm_congr fun l hl => by rw [u1 w l hl], ?_⟩
  refine mir_ret ?_
  show exSs fuel b_law_kin [.sh (macD m), .sh (.int c), .sh (.int more), .no, .no, .no, .no, .no, .no, .no] = _
  rw [← List.take_append_drop 3 b_law_kin, exSs_app, hx]
  show exSs fuel (b_law_kin.drop 3) [.sh (macD m1), .sh (.int c), .sh (.int more), .sh (.int m.n), .sh (.int m.k), s5, s6, .no, .no, .no] = _
  rw [b_law_kin, List.drop_succ_cons, List.drop_succ_cons, List.drop_succ_cons, List.drop_zero]
  have hi3 : items .range1 [.int 3] = .ok ((List.range 3).map fun i : Nat => MP.D.int i) := items_rng 3 (by decide)
  have en : (m1.n : Int) = m.n + more := by omega
  rw [ss_go (S1 := [.sh (macD m1), .sh (.int c), .sh (.int more), .sh (.int m1.n), .sh (.int m.k), s5, s6, .no, .no, .no]) (by simp [exS, evE, en]),
    ss_go (S1 := [.sh (macD m2), .sh (.int c2), .sh (.int more), .sh (.int m1.n), .sh (.int m.k), s5, s6, s7, s8, s9]) (by
      rw [w_law_kin_1, exS]
      simp only [evI, evEs, evE, Res.bind, args1, List.map, hasBo, List.any, hi3]
      simp only [Bool.or_false, decide_eq_true_eq, bindS_ok]
      exact l1)]
  simp [exSs, exS, evE]
theorem kin_full {m : Mac} {c : Int} {more : Nat} (hf : MFit m 6 24 6 24 6 24) (hn : m.n + more ≤ 100) (hk : m.k < 10) :
    ∃ o : Mac, o.n = m.n + more ∧ o.k = m.k ∧ KFit 3 o ∧ (∀ w, o.wt w = m.wt w) ∧ Hang m o (m.n + more) ∧ m_law_kin [macD m, .int c, .int more] = .ok (macD o, false) := by
  obtain ⟨o, h1, h2, h3, h4, h5, _, h6⟩ := kin_more (c := c) hf hn hk
  exact ⟨o, h1, h2, h3, h4, h5, h6⟩
theorem kin_ok {m : Mac} {c : Int} {more : Nat} (hf : MFit m 6 24 6 24 6 24) (hn : m.n + more ≤ 100) (hk : m.k < 10) :
    ∃ o : Mac, o.n = m.n + more ∧ o.k = m.k ∧ KFit 3 o ∧ (∀ w, o.wt w = m.wt w) ∧ m_law_kin [macD m, .int c, .int more] = .ok (macD o, false) := by
  obtain ⟨o, h1, h2, h3, h4, _, h5⟩ := kin_full (c := c) hf hn hk
  exact ⟨o, h1, h2, h3, h4, h5⟩
end MP
set_option Elab.async false
set_option linter.all false
set_option maxRecDepth 100000
set_option maxHeartbeats 4000000
namespace MP
open PySem PySem.Spec PyProof.Rows L2 WM
/-! sizes of two machines beside each other -/
def capS (Z N M l : Nat) : Nat := N * (Z * M) ^ l
def capB (Z N M : Nat) : Nat := (2 * Z + 3) ^ Z * prodN (Z + 1) (capS Z N M)
theorem capS_pos {Z N M : Nat} (hN : 0 < N) (hM : 0 < Z * M) (l : Nat) : 0 < capS Z N M l := Nat.mul_pos hN (Nat.pow_pos hM)
theorem capS_mono {Z N M : Nat} (hM : 0 < Z * M) {l l' : Nat} (h : l ≤ l') : capS Z N M l ≤ capS Z N M l' := Nat.mul_le_mul_left _ (Nat.pow_le_pow_right hM h)
theorem prodN_mono {f : Nat → Nat} (hf : ∀ i, 0 < f i) {i j : Nat} (h : i ≤ j) : prodN i f ≤ prodN j f := by
  obtain ⟨d, rfl⟩ : ∃ d, j = i + d := ⟨j - i, by omega⟩
  induction d with
  | zero => exact Nat.le_refl _
  | succ d ih => exact Nat.le_trans (ih (by omega)) (Nat.le_mul_of_pos_right _ (hf _))
theorem LCap.of {m : Mac} {Z D N E M A B : Nat} (hZ : m.n ≤ Z) (hZ1 : Z ≤ 1000) (hk : m.k ≤ 100) (k0 : 0 < m.k) (f : MFit m D N E M A B) (hD : 0 < D) (hN : 0 < N) (hE : 0 < E) (hM : 0 < Z * M)
    (hx : (1001 * (capB Z N M * (D * E ^ Z))) * ((1001 * (capB Z N M * (D * E ^ Z))) * (1001 * (capB Z N M * (D * E ^ Z)))) < 2 ^ 9000) (hc : D * E ^ Z * E * (D * E ^ Z * E) < 2 ^ 9000) (hs : capS Z N M Z < 2 ^ 180000) (hM2 : M < 2 ^ 180000) :
    LCap m Z (fun _ => True) (fun w => D * E ^ w.length) (capS Z N M) (capS Z N M) (capB Z N M) (D * E ^ Z) where
  hn := by omega
  hZ := hZ1
  rk := fun ws n s kw I => Nat.le_trans (Spn.r_le I.ok) hZ
  hk := hk
  k0 := k0
  fit := fun w hw hl i hi => (Mac.run_fit m f.T hE w hw m.F D N hD f.F i hi).mono (Nat.mul_le_mul_left _ (Nat.pow_le_pow_left (Nat.mul_le_mul_right _ hZ) _))
  fitK := fun w _ hw hl i hi => (Mac.run_fit m f.T hE w hw m.F D N hD f.F i hi).mono (Nat.mul_le_mul_left _ (Nat.pow_le_pow_left (Nat.mul_le_mul_right _ hZ) _))
  C0 := fun w => Nat.mul_pos hD (Nat.pow_pos hE)
  S0 := fun l _ => capS_pos hN hM l
  V0 := fun l _ => capS_pos hN hM l
  mono := fun l l' h _ => capS_mono hM h
  monoV := fun l l' h _ => capS_mono hM h
  CK := fun w hl => Nat.mul_le_mul_left _ (Nat.pow_le_pow_right hE (by omega))
  B1 := fun i hi => by
    show (2 * i + 3) ^ i * prodN (i + 1) (capS Z N M) ≤ _
    refine Nat.mul_le_mul ?_ (prodN_mono (capS_pos hN hM) (by omega))
    exact Nat.le_trans (Nat.pow_le_pow_left (by omega) i) (Nat.pow_le_pow_right (by omega) (by omega))
  B2 := fun i hi => by
    show (2 * i + 3) ^ i * prodN (i + 1) (capS Z N M) ≤ _
    refine Nat.mul_le_mul ?_ (prodN_mono (capS_pos hN hM) (by omega))
    exact Nat.le_trans (Nat.pow_le_pow_left (by omega) i) (Nat.pow_le_pow_right (by omega) (by omega))
  x := hx
  kept := fun _ _ _ _ _ _ _ _ _ _ _ => trivial
  led := fun w _ hw hl t ht x hx' => by
    have h1 : D * E ^ w.length ≤ D * E ^ Z := Nat.mul_le_mul_left _ (Nat.pow_le_pow_right hE (by omega))
    have c : Cap m.n (D * E ^ w.length) (capS Z N M w.length) E M := ⟨Nat.lt_of_le_of_lt (Nat.mul_le_mul (Nat.mul_le_mul_right _ h1) (Nat.mul_le_mul_right _ h1)) hc, Nat.lt_of_le_of_lt (capS_mono hM (by omega)) hs, hM2, Nat.lt_of_le_of_lt (show m.n ≤ 1000 by omega) (Nat.lt_of_lt_of_le (m := 2 ^ 10) (by decide) (Nat.pow_le_pow_right (by decide) (by decide)))⟩
    have e := led_ok (T := m.T t) hx' c (by omega) (fun i hi => (Mac.run_fit m f.T hE w hw m.F D N hD f.F i hi).mono (Nat.mul_le_mul_left _ (Nat.pow_le_pow_left (Nat.mul_le_mul_right _ hZ) _))) (fun i j hi hj => f.T t i j ht hi hj)
    rw [Mac.row_snoc]
    exact e
theorem LCap.dotc {m : Mac} {Z D N E M A B : Nat} (hZ : m.n ≤ Z) (hZ1 : Z ≤ 1000) (hE : 0 < E) (hM : 0 < Z * M) (hc : D * E ^ Z * A * (D * E ^ Z * A) < 2 ^ 9000) (hs : capS Z N M Z < 2 ^ 180000) (hB : B < 2 ^ 180000) :
    ∀ w : List Nat, Word m.k w → w.length ≤ Z → Cap m.n (D * E ^ w.length) (capS Z N M w.length) A B := fun w _ hl => by
  have h1 : D * E ^ w.length ≤ D * E ^ Z := Nat.mul_le_mul_left _ (Nat.pow_le_pow_right hE (by omega))
  exact ⟨Nat.lt_of_le_of_lt (Nat.mul_le_mul (Nat.mul_le_mul_right _ h1) (Nat.mul_le_mul_right _ h1)) hc, Nat.lt_of_le_of_lt (capS_mono hM (by omega)) hs, hB, Nat.lt_of_le_of_lt (show m.n ≤ 1000 by omega) (Nat.lt_of_lt_of_le (m := 2 ^ 10) (by decide) (Nat.pow_le_pow_right (by decide) (by decide)))⟩
theorem MFit.apart {p q : Mac} {D N E M A B : Nat} (hD : 0 < D) (hE : 0 < E) (hA : 0 < A) (hp : MFit p D N E M A B) (hq : MFit q D N E M A B) (hk : p.k = q.k) : MFit (p.apart q) D N E M A B :=
  hp.sum hD hE hA ⟨hq.F, hq.T, fun i hi => (hq.L i hi).neg⟩ hk
/-- what the search gives for two machines -/
def Look (p q : Mac) : Prop :=
  (∃ u, Word p.k u ∧ u.length + 1 ≤ p.n + q.n ∧ p.wt u ≠ q.wt u ∧ (∀ w, Word p.k w → idx p.k w < idx p.k u → p.wt w = q.wt w) ∧ m_looked_for [macD p, macD q] = .ok (.tup [wD u, .lst []], true)) ∨
    ((∀ w, Word p.k w → p.wt w = q.wt w) ∧ ∃ ws s kw, LInv (p.apart q) ws ws.length s kw ∧ m_looked_for [macD p, macD q] = .ok (.tup [.non, .lst (rowsD (p.n + q.n) s)], true))
theorem parting_of {p q : Mac} {a b : D} {f : Bool} (h : m_looked_for [macD p, macD q] = .ok (.tup [a, b], f)) : m_parting [macD p, macD q] = .ok (a, false) := by
  refine mir_ret ?_
  unfold b_parting
  show exSs fuel _ [.sh (macD p), .sh (macD q)] = _
  simp [exSs, exS, evE, evEs, args1, hasBo, h, evSub]
def isNon : D → Bool
  | .non => true
  | _ => false
theorem alike_of {p q : Mac} {a b : D} {f : Bool} (h : m_looked_for [macD p, macD q] = .ok (.tup [a, b], f)) : m_alike [macD p, macD q] = .ok (.bl (isNon a), false) := by
  have e := parting_of h
  refine mir_ret ?_
  unfold b_alike
  show exSs fuel _ [.sh (macD p), .sh (macD q)] = _
  cases a <;> simp [exSs, exS, evE, evEs, args1, hasBo, e, isNon]
theorem rows_for_non {p q : Mac} {b : List D} (h : m_looked_for [macD p, macD q] = .ok (.tup [.non, .lst b], true)) : m_rows_for [macD p, macD q] = .ok (.lst b, true) := by
  refine mir_ret ?_
  unfold b_rows_for
  show exSs fuel _ [.sh (macD p), .sh (macD q), .no, .no] = _
  simp [exSs, exS, evE, evEs, args1, hasBo, h, isLst, bindS]
theorem rows_for_word {p q : Mac} {u : List Nat} {b : List D} (h : m_looked_for [macD p, macD q] = .ok (.tup [wD u, .lst b], true)) : m_rows_for [macD p, macD q] = .ok (.non, false) := by
  refine mir_ret ?_
  unfold b_rows_for
  show exSs fuel _ [.sh (macD p), .sh (macD q), .no, .no] = _
  simp [exSs, exS, evE, evEs, args1, hasBo, h, isLst, bindS, wD]
theorem parting_no {p q : Mac} (hk : p.k ≠ q.k) : m_parting [macD p, macD q] = .exc "Unlike" := by
  have h := looked_no hk
  refine mir_exc (S1 := [.sh (macD p), .sh (macD q)]) ?_
  unfold b_parting
  exact ss_exc (by
    show exS fuel _ [.sh (macD p), .sh (macD q)] = _
    simp [exS, evE, evEs, args1, h, bindS])
theorem alike_no {p q : Mac} (hk : p.k ≠ q.k) : m_alike [macD p, macD q] = .exc "Unlike" := by
  have h := parting_no hk
  refine mir_exc (S1 := [.sh (macD p), .sh (macD q)]) ?_
  unfold b_alike
  exact ss_exc (by
    show exS fuel _ [.sh (macD p), .sh (macD q)] = _
    simp [exS, evE, evEs, args1, h, bindS])
theorem rows_for_no {p q : Mac} (hk : p.k ≠ q.k) : m_rows_for [macD p, macD q] = .exc "Unlike" := by
  have h := looked_no hk
  refine mir_exc (S1 := [.sh (macD p), .sh (macD q), .no, .no]) ?_
  unfold b_rows_for
  exact ss_exc (by
    show exS fuel _ [.sh (macD p), .sh (macD q), .no, .no] = _
    simp [exS, evE, evEs, args1, h, bindS])
theorem shows_no {p q : Mac} (d : D) (hk : p.k ≠ q.k) : m_shows [macD p, macD q, d] = .exc "Unlike" := by
  have h := see_signs_no hk
  refine mir_exc (S1 := [.sh (macD p), .sh (macD q), .sh d, .no, .no, .no, .no]) ?_
  unfold b_shows
  exact ss_exc (by
    show exS fuel _ [.sh (macD p), .sh (macD q), .sh d, .no, .no, .no, .no] = _
    simp [exS, evE, evEs, args1, h, bindS])
/-! sizes of machines built by the laws -/
def kD : Nat := 6 * 6 ^ 3
def kN : Nat := 24 * 30 ^ 3
def kE : Nat := 6 * 36 ^ 3
def kM : Nat := 24 * 900 ^ 3
theorem KFit.drawn (c : Int) (n k : Nat) : KFit 3 (drawn c n k) := KFit.up (KFit.up (KFit.up (MFit.drawn c n k)))
theorem look_kin {p q : Mac} (hk : p.k = q.k) (k0 : 0 < p.k) (hk1 : p.k ≤ 100) (hn : p.n + q.n ≤ 10) (hp : KFit 3 p) (hq : KFit 3 q) : Look p q := by
  have f : MFit (p.apart q) kD kN kE kM kD kN := MFit.apart (by decide) (by decide) (by decide) hp hq hk
  have c := LCap.of (Z := 10) (show (p.apart q).n ≤ 10 from hn) (by decide) hk1 k0 f (by decide) (by decide) (by decide) (by decide) (by decide +kernel) (by decide +kernel) (Nat.lt_of_lt_of_le (m := 2 ^ 9000) (by decide +kernel) (Nat.pow_le_pow_right (by decide) (by decide))) (Nat.lt_of_lt_of_le (m := 2 ^ 9000) (by decide +kernel) (Nat.pow_le_pow_right (by decide) (by decide)))
  have d := LCap.dotc (m := p.apart q) (Z := 10) (D := kD) (N := kN) (E := kE) (M := kM) (A := kD) (B := kN) (show (p.apart q).n ≤ 10 from hn) (by decide) (by decide) (by decide) (by decide +kernel) (Nat.lt_of_lt_of_le (m := 2 ^ 9000) (by decide +kernel) (Nat.pow_le_pow_right (by decide) (by decide))) (Nat.lt_of_lt_of_le (m := 2 ^ 9000) (by decide +kernel) (Nat.pow_le_pow_right (by decide) (by decide)))
  exact looked_for_ok hk c (fun w hw hl => dot_ok (xs := []) (rL_sq _ _) (rT_sq _ _) (fun i hi => tabs_get hi) (d w hw hl) (by have : (p.apart q).n ≤ 10 := hn; omega) (c.fit w hw hl) f.L) (apart_L f.L) (by decide +kernel) (Nat.lt_of_lt_of_le (m := 2 ^ 9000) (by decide +kernel) (Nat.pow_le_pow_right (by decide) (by decide)))
theorem weigh_kin {m : Mac} {w : List Nat} (hn : m.n ≤ 10) (hl : w.length ≤ 10) (sg : Word m.k w) (h : KFit 3 m) : Weigh m w (kD * kE ^ 10) (kN * ((10 * kM + 1) * kE) ^ 10) kE kM kD kN :=
  weigh_of (nb := 10) (len := 10) hn hl sg (by decide) h.F h.T h.L
    ⟨by decide +kernel, Nat.lt_of_lt_of_le (m := 2 ^ 9000) (by decide +kernel) (Nat.pow_le_pow_right (by decide) (by decide)), Nat.lt_of_lt_of_le (m := 2 ^ 9000) (by decide +kernel) (Nat.pow_le_pow_right (by decide) (by decide)), Nat.lt_of_lt_of_le (m := 2 ^ 10) (by decide) (Nat.pow_le_pow_right (by decide) (by decide))⟩
    ⟨by decide +kernel, Nat.lt_of_lt_of_le (m := 2 ^ 9000) (by decide +kernel) (Nat.pow_le_pow_right (by decide) (by decide)), Nat.lt_of_lt_of_le (m := 2 ^ 9000) (by decide +kernel) (Nat.pow_le_pow_right (by decide) (by decide)), Nat.lt_of_lt_of_le (m := 2 ^ 10) (by decide) (Nat.pow_le_pow_right (by decide) (by decide))⟩ (by decide)
end MP
set_option Elab.async false
set_option linter.all false
/-! independent rows; the machine on the rows that are come to; minimality -/
namespace WM
theorem prodN_dvd2 (f : Nat → Nat → Nat) {r n l j : Nat} (hl : l < r) (hj : j < n) : f l j ∣ prodN r fun l => prodN n (f l) :=
  Nat.dvd_trans (prodN_dvd (f := f l) hj) (prodN_dvd (f := fun l => prodN n (f l)) hl)
theorem bnd_ex (A : Nat → Nat → Int) (r j : Nat) : ∃ b : Nat, 0 < b ∧ ∀ l, l < r → (A l j).natAbs ≤ b := by
  induction r with
  | zero => exact ⟨1, by omega, fun l h => by omega⟩
  | succ r ih =>
    obtain ⟨b, h0, h⟩ := ih
    refine ⟨b + (A r j).natAbs, by omega, fun l hl => ?_⟩
    by_cases e : l = r
    · subst e; omega
    · have := h l (by omega); omega
/-- one more unknown than equations: a solution -/
theorem kernel (r : Nat) (A : Nat → Nat → Rat) : ∃ z : Nat → Rat, (∃ j, j ≤ r ∧ z j ≠ 0) ∧ ∀ l, l < r → sm (r + 1) (fun j => A l j * z j) = 0 := by
  let D : Nat := prodN r fun l => prodN (r + 1) fun j => (A l j).den
  have hD : 0 < D := prodN_pos fun l _ => prodN_pos fun j _ => (A l j).den_pos
  have hDR : (D : Rat) ≠ 0 := fun e => by
    have e : (D : Rat) = ((0 : Nat) : Rat) := e
    have := Rat.natCast_inj.mp e
    omega
  let A' : Nat → Nat → Int := fun l j => (A l j).num * ((D / (A l j).den : Nat) : Int)
  have hA : ∀ l j, l < r → j < r + 1 → ((A' l j : Int) : Rat) = A l j * (D : Rat) := fun l j hl hj => by
    have hd : (A l j).den ∣ D := prodN_dvd2 (fun l j => (A l j).den) hl hj
    obtain ⟨q, hq⟩ := hd
    have e : D / (A l j).den = q := by rw [hq, Nat.mul_div_cancel_left _ (A l j).den_pos]
    show (((A l j).num * ((D / (A l j).den : Nat) : Int) : Int) : Rat) = _
    rw [e, Rat.intCast_mul, Rat.intCast_natCast, ← ratnum, hq, Rat.natCast_mul]
    grind
  have hb := fun j => bnd_ex A' r j
  obtain ⟨z, ⟨j0, h0, h1⟩, _, hz⟩ := siegel r A' (fun j => Classical.choose (hb j)) (fun j _ => (Classical.choose_spec (hb j)).1) (fun l j hl _ => (Classical.choose_spec (hb j)).2 l hl)
  refine ⟨fun j => (z j : Rat), ⟨j0, h0, fun e => h1 (cast_inj' (show (z j0 : Rat) = ((0 : Int) : Rat) from e))⟩, fun l hl => ?_⟩
  have e := congrArg (fun x : Int => (x : Rat)) (hz l hl)
  have e : ((smI (r + 1) (fun j => A' l j * z j) : Int) : Rat) = ((0 : Int) : Rat) := e
  rw [smI_cast] at e
  have e2 : sm (r + 1) (fun j => ((A' l j * z j : Int) : Rat)) = sm (r + 1) (fun j => A l j * (z j : Rat)) * (D : Rat) := by
    rw [← sm_mulr]
    exact sm_congr fun j hj => by rw [Rat.intCast_mul, hA l j hl hj]; grind
  rw [e2] at e
  rcases Rat.mul_eq_zero.mp e with h | h
  · exact h
  · exact absurd h hDR
/-- independent rows -/
def Ind (n r : Nat) (U : Nat → Nat → Rat) : Prop := ∀ c : Nat → Rat, (∀ k, k < n → sm r (fun j => c j * U j k) = 0) → ∀ j, j < r → c j = 0
theorem sm_drop {n m : Nat} {f : Nat → Rat} (h : n ≤ m) (z : ∀ i, n ≤ i → i < m → f i = 0) : sm m f = sm n f := by
  obtain ⟨d, rfl⟩ : ∃ d, m = n + d := ⟨m - n, by omega⟩
  rw [sm_app, sm_zero (n := d) fun i hi => z (n + i) (by omega) (by omega)]; grind
theorem Ind.le {n a b : Nat} {U W : Nat → Nat → Rat} (h : Ind n a U) (hs : ∀ i, i < a → ∃ c : Nat → Rat, ∀ k, k < n → U i k = sm b fun j => c j * W j k) : a ≤ b := by
  apply Classical.byContradiction
  intro hn
  have hs' : ∀ i, ∃ c : Nat → Rat, i < a → ∀ k, k < n → U i k = sm b fun j => c j * W j k := fun i => by
    by_cases hi : i < a
    · obtain ⟨c, hc⟩ := hs i hi; exact ⟨c, fun _ => hc⟩
    · exact ⟨fun _ => 0, fun h => absurd h hi⟩
  obtain ⟨z, ⟨j0, h0, h1⟩, hz⟩ := kernel b (fun j i => Classical.choose (hs' i) j)
  have hc := fun i hi => Classical.choose_spec (hs' i) hi
  generalize hC : (fun i => Classical.choose (hs' i)) = C at *
  have hCi : ∀ i, Classical.choose (hs' i) = C i := fun i => by rw [← hC]
  simp only [hCi] at hz hc
  have := h (fun j => if j ≤ b then z j else 0) (fun k hk => by
    rw [sm_drop (n := b + 1) (by omega) (fun i h1 h2 => by
      show (if i ≤ b then z i else 0) * _ = 0
      rw [if_neg (by omega)]; grind)]
    have e1 : sm (b + 1) (fun j => (if j ≤ b then z j else 0) * U j k) = sm (b + 1) (fun i => sm b (fun j => z i * (C i j * W j k))) := sm_congr fun i hi => by
      rw [if_pos (by omega), hc i (by omega) k hk, sm_mul]
    rw [e1, sm_swap (fun i j => z i * (C i j * W j k))]
    exact sm_zero fun j hj => by
      have e2 : (fun i => z i * (C i j * W j k)) = fun i => C i j * z i * W j k := funext fun i => by grind
      rw [e2, sm_mulr, hz j hj]; grind) j0 (by omega)
  have e : (if j0 ≤ b then z j0 else 0) = 0 := this
  rw [if_pos h0] at e
  exact h1 e
theorem Spn.Ok.ind {n : Nat} {s : Spn} (h : s.Ok n) : Ind n s.r s.R := fun c hc => Spn.uniq h s.r (Nat.le_refl _) c fun l hl => hc (s.p l) (h.pn l hl)
/-- coordinates -/
theorem Spn.coord {n : Nat} {s : Spn} (h : s.Ok n) {v : Nat → Rat} (hv : ∃ c : Nat → Rat, ∀ k, k < n → v k = s.sum s.r c k) : ∀ k, k < n → v k = s.sum s.r (s.parts v s.r) k := fun k hk => by
  obtain ⟨c, hc⟩ := hv
  exact Spn.sum_of_rest h hk (Spn.rest_of_sum h hc k hk)
namespace Mac
/-- the machine on the rows of a span -/
def less (m : Mac) (s : Spn) : Mac := ⟨s.r, m.k, s.parts m.F s.r, fun t a => s.parts (m.step (s.R a) t) s.r, fun a => m.dotL (s.R a)⟩
end Mac
/-- a span that holds the first row and with each row all that it leads to -/
structure Closed (m : Mac) (s : Spn) : Prop where
  ok : s.Ok m.n
  F : ∃ c, ∀ b, b < m.n → m.F b = s.sum s.r c b
  T : ∀ i t, i < s.r → t < m.k → ∃ c, ∀ b, b < m.n → m.step (s.R i) t b = s.sum s.r c b
theorem LInv.closed {m : Mac} {ws : List (List Nat)} {s : Spn} {kw : Nat → List Nat} (I : LInv m ws ws.length s kw) : Closed m s := ⟨I.ok, I.shows.2.1, I.shows.2.2⟩
section
variable {m : Mac} {s : Spn}
theorem Closed.row (h : Closed m s) : ∀ (n : Nat) (w : List Nat), w.length = n → Word m.k w → ∀ b, b < m.n → m.row w b = s.sum s.r ((m.less s).row w) b := by
  intro n
  induction n with
  | zero =>
    intro w hw _ b hb
    have : w = [] := List.eq_nil_of_length_eq_zero hw
    subst this
    exact Spn.coord h.ok h.F b hb
  | succ n ih =>
    intro w hw hd b hb
    obtain ⟨u, t, rfl⟩ : ∃ u t, w = u ++ [t] := by
      rcases List.eq_nil_or_concat w with e | ⟨u, t, e⟩
      · subst e; cases hw
      · exact ⟨u, t, by rw [e, List.concat_eq_append]⟩
    have hu : u.length = n := by simpa using hw
    have ht : t < m.k := hd t (List.mem_append_right _ List.mem_cons_self)
    have ih := ih u hu fun y hy => hd y (List.mem_append_left _ hy)
    rw [Mac.row_snoc, Mac.row_snoc]
    show sm m.n (fun a => m.row u a * m.T t a b) = sm s.r (fun j => sm s.r (fun i => (m.less s).row u i * s.parts (m.step (s.R i) t) s.r j) * s.R j b)
    have e1 : sm m.n (fun a => m.row u a * m.T t a b) = sm m.n (fun a => sm s.r (fun i => (m.less s).row u i * (s.R i a * m.T t a b))) := sm_congr fun a ha => by
      rw [ih a ha]
      show sm s.r _ * _ = _
      rw [← sm_mulr]
      exact sm_congr fun i _ => by grind
    have e2 : sm s.r (fun j => sm s.r (fun i => (m.less s).row u i * s.parts (m.step (s.R i) t) s.r j) * s.R j b) = sm s.r (fun j => sm s.r (fun i => (m.less s).row u i * (s.parts (m.step (s.R i) t) s.r j * s.R j b))) := sm_congr fun j _ => by
      rw [← sm_mulr]
      exact sm_congr fun i _ => by grind
    rw [e1, e2, sm_swap (fun a i => (m.less s).row u i * (s.R i a * m.T t a b)), sm_swap (fun j i => (m.less s).row u i * (s.parts (m.step (s.R i) t) s.r j * s.R j b))]
    exact sm_congr fun i hi => by
      rw [sm_mul, sm_mul]
      congr 1
      exact Spn.coord h.ok (h.T i t hi ht) b hb
theorem Closed.wt (h : Closed m s) (w : List Nat) (hw : Word m.k w) : (m.less s).wt w = m.wt w := by
  show sm s.r (fun a => (m.less s).row w a * sm m.n fun b => s.R a b * m.L b) = sm m.n fun b => m.row w b * m.L b
  have e1 : sm m.n (fun b => m.row w b * m.L b) = sm m.n (fun b => sm s.r fun a => (m.less s).row w a * (s.R a b * m.L b)) := sm_congr fun b hb => by
    rw [h.row w.length w rfl hw b hb]
    show sm s.r _ * _ = _
    rw [← sm_mulr]
    exact sm_congr fun a _ => by grind
  rw [e1, sm_swap (fun b a => (m.less s).row w a * (s.R a b * m.L b))]
  exact sm_congr fun a _ => (sm_mul _ _ _).symm
/-- the words that were kept lead to the unit rows -/
theorem Closed.unit (h : Closed m s) {u : List Nat} {i : Nat} (hi : i < s.r) (hu : Word m.k u) (hR : s.R i = m.row u) : ∀ j, j < s.r → (m.less s).row u j = if j = i then 1 else 0 := by
  refine Spn.uniq2 h.ok (Nat.le_refl _) fun l hl => ?_
  have hp := h.ok.pn l hl
  rw [← h.row u.length u rfl hu _ hp, ← hR]
  show _ = sm s.r fun j => (if j = i then (1 : Rat) else 0) * s.R j (s.p l)
  rw [sm_one hi (fun j _ hj => by rw [if_neg hj]; grind), if_pos rfl]; grind
/-- a column of it: weights behind the kept words -/
theorem Closed.col (h : Closed m s) {u : List Nat} {i : Nat} (hi : i < s.r) (hu : Word m.k u) (hR : s.R i = m.row u) (w : List Nat) (hw : Word m.k w) : (m.less s).col w i = m.wt (u ++ w) := by
  rw [← h.wt (u ++ w) fun t ht => (List.mem_append.mp ht).elim (hu t) (hw t), Mac.wt_app]
  have e : sm (m.less s).n (fun a => (m.less s).row u a * (m.less s).col w a) = sm s.r fun a => (if a = i then 1 else 0) * (m.less s).col w a := sm_congr fun a ha => by rw [h.unit hi hu hR a ha]
  rw [e, sm_one hi (fun j _ hj => by rw [if_neg hj]; grind), if_pos rfl]; grind
theorem word_rev {k : Nat} {w : List Nat} (h : Word k w) : Word k w.reverse := fun t ht => h t (List.mem_reverse.mp ht)
/-- rows of the turned one -/
theorem Closed.trow (h : Closed m s) {u : List Nat} {i : Nat} (hi : i < s.r) (hu : Word m.k u) (hR : s.R i = m.row u) (w : List Nat) (hw : Word m.k w) : (m.less s).turn.row w i = m.wt (u ++ w.reverse) := by
  rw [Mac.turn_row]
  exact h.col hi hu hR _ (word_rev hw)
/-- the smallest machine -/
def Mac.small (m : Mac) (s s2 : Spn) : Mac := ((m.less s).turn.less s2).turn
theorem small_wt {s2 : Spn} (h : Closed m s) (h2 : Closed (m.less s).turn s2) (w : List Nat) (hw : Word m.k w) : (m.small s s2).wt w = m.wt w := by
  show ((m.less s).turn.less s2).turn.wt w = _
  rw [Mac.turn_wt, h2.wt _ (word_rev hw), Mac.turn_wt, List.reverse_reverse, h.wt w hw]
/-- no machine of the same weights has fewer rooms -/
theorem small_least {s2 : Spn} {kw kw2 : Nat → List Nat} (h : Closed m s) (h2 : Closed (m.less s).turn s2) (hk : ∀ i, i < s.r → Word m.k (kw i) ∧ s.R i = m.row (kw i)) (hk2 : ∀ i, i < s2.r → Word m.k (kw2 i) ∧ s2.R i = (m.less s).turn.row (kw2 i))
    (M : Mac) (hM : ∀ w, Word m.k w → M.wt w = m.wt w) : s2.r ≤ M.n := by
  refine Ind.le (W := fun c a => M.row (kw a) c) h2.ok.ind fun j hj => ⟨M.col (kw2 j).reverse, fun a ha => ?_⟩
  obtain ⟨w2, e2⟩ := hk2 j hj
  obtain ⟨w1, e1⟩ := hk a ha
  rw [e2, h.trow ha w1 e1 _ w2, ← hM _ (fun t ht => (List.mem_append.mp ht).elim (w1 t) (word_rev w2 t)), Mac.wt_app]
  exact sm_congr fun c _ => by grind
end
end WM
set_option Elab.async false
set_option linter.all false
set_option maxRecDepth 100000
set_option maxHeartbeats 4000000
namespace MP
open PySem PySem.Spec PyProof.Rows L2 WM
noncomputable def wb_forwards_1 : List MS := [.app 3 (.tup [(.bin .add (.loc 5) (.tup [(.loc 7)])), (.call "led" m_led [(.loc 6), (.sub (.sub (.loc 0) (.int 1)) (.loc 7))])])]
noncomputable def w_forwards_1 : MS := .forI 7 .range1 [(.blt .len [(.sub (.loc 0) (.int 1))])] wb_forwards_1
noncomputable def wb_forwards_2 : List MS := [.unp [5, 6] (.sub (.loc 3) (.loc 4)), .set 4 (.bin .add (.loc 4) (.int 1)), .ifPut 1 g_put (.loc 6) [.app 2 (.loc 5), w_forwards_1] []]
noncomputable def wc_forwards_2 : ME := (.cmp .lt (.loc 4) (.blt .len [(.loc 3)]))
noncomputable def w_forwards_2 : MS := .whil wc_forwards_2 wb_forwards_2
noncomputable def ce_forwards_1 : ME := (.blt .tuple [(.sub (.mcall 1 "split" m_Span_split (.call "led" m_led [(.loc 6), (.loc 10)])) (.int 1))])
noncomputable def c_forwards_1 : ME := .comp ce_forwards_1 6 .val [(.attr 1 false)]
noncomputable def wb_forwards_3 : List MS := [.app 9 (.blt .tuple [c_forwards_1])]
noncomputable def w_forwards_3 : MS := .forI 10 .val [(.sub (.loc 0) (.int 1))] wb_forwards_3
noncomputable def ce_forwards_2 : ME := (.call "dot" m_dot [(.loc 6), (.sub (.loc 0) (.int 2))])
noncomputable def c_forwards_2 : ME := .comp ce_forwards_2 6 .val [(.attr 1 false)]
noncomputable def b_forwards : List MS := [.mk 1, .own 2 (.lst []), .own 3 (.lst [(.tup [(.tup []), (.blt .list [(.sub (.loc 0) (.int 0))])])]), .set 4 (.int 0), w_forwards_2, .frz 1, .set 8 (.blt .tuple [(.sub (.mcall 1 "split" m_Span_split (.sub (.loc 0) (.int 0))) (.int 1))]), .own 9 (.lst []), w_forwards_3, .set 11 (.blt .tuple [c_forwards_2]), .frz 2, .ret (.tup [(.tup [(.loc 8), (.blt .tuple [(.loc 9)]), (.loc 11)]), (.loc 2)])]
noncomputable def m_forwards : Fn := mirror 12 fuel b_forwards
noncomputable def b_smallest : List MS := [.set 1 (.sub (.call "forwards" m_forwards [(.loc 0)]) (.int 0)), .ret (.call "turned" m_turned [(.sub (.call "forwards" m_forwards [(.call "turned" m_turned [(.loc 1)])]) (.int 0))])]
noncomputable def m_smallest : Fn := mirror 2 fuel b_smallest
noncomputable def b_rank : List MS := [.ret (.blt .len [(.sub (.call "smallest" m_smallest [(.loc 0)]) (.int 0))])]
noncomputable def m_rank : Fn := mirror 1 fuel b_rank
section
variable {m : Mac} {Z : Nat} {Q : List Nat → Prop} {C : List Nat → Nat} {S V : Nat → Nat} {B K : Nat} {ws : List (List Nat)} {s : Spn} {kw : Nat → List Nat}
/-- scap with the last numbers left out -/
theorem LInv.scap0 {n : Nat} (c : LCap m Z Q C S V B K) (I : LInv { m with L := Mac.zero } ws n s kw) (hQ : ∀ i, i < s.r → Q (kw i)) {u : List Nat} (hu : u ∈ ws) : SCap m.n s (m.row u) (1001 * (B * K)) :=
  LInv.scap (m := { m with L := Mac.zero }) (Z := Z) (Q := Q) (C := C) (S := S) (V := V) (B := B) (K := K) { c with } I hQ hu
/-- what the first pass asks of a machine, the sizes as facts -/
structure LG (m : Mac) (Z : Nat) (Q : List Nat → Prop) : Prop where
  hn : m.n ≤ 1000
  hZ : Z ≤ 1000
  rk : ∀ (ws : List (List Nat)) (n : Nat) (s : Spn) (kw : Nat → List Nat), LInv { m with L := Mac.zero } ws n s kw → s.r ≤ Z
  hk : m.k ≤ 100
  k0 : 0 < m.k
  sc : ∀ (ws : List (List Nat)) (n : Nat) (s : Spn) (kw : Nat → List Nat), LInv { m with L := Mac.zero } ws n s kw → (∀ i, i < s.r → Q (kw i)) → ∀ u ∈ ws, ∃ X, SCap m.n s (m.row u) X
  led : ∀ w, Q w → Word m.k w → w.length ≤ Z → ∀ t, t < m.k → ∀ x, Sq x (tabs m.n (m.row w)) → m_led [x, sT m.n m.n (m.T t)] = .ok (rL m.n (m.row (w ++ [t])), true)
  kept : ∀ (ws : List (List Nat)) (n : Nat) (s : Spn) (kw : Nat → List Nat) (u : List Nat) (q : Nat), LInv { m with L := Mac.zero } ws n s kw → (∀ i, i < s.r → Q (kw i)) → ws[n]? = some u → q < m.n → s.rest (m.row u) s.r q ≠ 0 → Q u
theorem LCap.lg (c : LCap m Z Q C S V B K) : LG m Z Q := ⟨c.hn, c.hZ, c.rk, c.hk, c.k0, fun _ _ _ _ I hQ _ hu => ⟨_, LInv.scap0 c I hQ hu⟩, c.led, c.kept⟩
def kwsD (r : Nat) (kw : Nat → List Nat) : List D := (List.range r).map fun i => wD (kw i)
theorem kws_snoc (r : Nat) (kw : Nat → List Nat) (u : List Nat) : kwsD (r + 1) (consW r kw u) = kwsD r kw ++ [wD u] := by
  unfold kwsD
  rw [List.range_succ, List.map_append, List.map_cons, List.map_nil, consW_hi]
  congr 1
  exact List.map_congr_left fun i hi => by rw [consW_lo (List.mem_range.mp hi)]
theorem fwd_kids (c : LG m Z Q) {u : List Nat} (hq : Q u) (hu : Word m.k u) (hl : u.length ≤ Z) (hw : ws.length ≤ 1000000) (x1 x2 x4 x7 x8 x9 x10 x11 : SV) :
    ∃ s7, exS fuel w_forwards_1 [.sh (macD m), x1, x2, .ow (lineD m ws), x4, .sh (wD u), .sh (rL m.n (m.row u)), x7, x8, x9, x10, x11] = .nx [.sh (macD m), x1, x2, .ow (lineD m (ws ++ (List.range m.k).map fun t => u ++ [t])), x4, .sh (wD u), .sh (rL m.n (m.row u)), s7, x8, x9, x10, x11] := by
  have hk := c.hk
  have hn := c.hn
  have hZ := c.hZ
  obtain ⟨S', l1, s7, l2⟩ := for_rng (f := exSs fuel wb_forwards_1) (tg := fun S d => some (S.set 7 (.sh d))) (fun j S => ∃ s7, S = [.sh (macD m), x1, x2, .ow (lineD m (ws ++ (List.range j).map fun t => u ++ [t])), x4, .sh (wD u), .sh (rL m.n (m.row u)), s7, x8, x9, x10, x11]) (n := m.k) (S := [.sh (macD m), x1, x2, .ow (lineD m ws), x4, .sh (wD u), .sh (rL m.n (m.row u)), x7, x8, x9, x10, x11]) ⟨x7, by simp⟩ (by
    rintro t S ht ⟨s7, rfl⟩
    refine ⟨_, [.sh (macD m), x1, x2, .ow (lineD m (ws ++ (List.range (t + 1)).map fun t => u ++ [t])), x4, .sh (wD u), .sh (rL m.n (m.row u)), .sh (.int t), x8, x9, x10, x11], rfl, ?_, _, rfl⟩
    have e1 := wD_snoc u t (by omega)
    have e2 := c.led u hq hu hl t ht _ (rL_sq m.n (m.row u))
    have hlt : (lineD m (ws ++ (List.range t).map fun t => u ++ [t])).length < 16777216 := by
      rw [line_len, List.length_append, List.length_map, List.length_range]; omega
    have e3 : lineD m (ws ++ (List.range (t + 1)).map fun t => u ++ [t]) = lineD m (ws ++ (List.range t).map fun t => u ++ [t]) ++ [itemD m (u ++ [t])] := by
      simp [lineD, List.range_succ]
    rw [e3]
    simp [wb_forwards_1, exSs, exS, evE, evEs, args1, hasBo, e1, mac_1, mac_s ht, e2, hlt, itemD])
  subst l2
  refine ⟨s7, ?_⟩
  have hi := items_rng m.k (by omega)
  rw [w_forwards_1, exS]
  simp [evI, evEs, evE, args1, hasBo, mac_1, steps_len, hi]
  exact l1
theorem fwd_loop (c : LG m Z Q) : ∀ (g : Nat) (ws : List (List Nat)) (n : Nat) (s : Spn) (kw : Nat → List Nat) (s5 s6 s7 : SV), LInv { m with L := Mac.zero } ws n s kw → (∀ i, i < s.r → Q (kw i)) → 1 + m.k * m.n < n + g →
    ∃ ws' s' kw' s5' s6' s7', LInv { m with L := Mac.zero } ws' ws'.length s' kw' ∧ (∀ i, i < s'.r → Q (kw' i)) ∧ whileL (evE wc_forwards_2) (exSs fuel wb_forwards_2) g [.sh (macD m), .ob (rowsD m.n s) (clD m.n s), .ow (kwsD s.r kw), .ow (lineD m ws), .sh (.int n), s5, s6, s7, .no, .no, .no, .no] = .nx [.sh (macD m), .ob (rowsD m.n s') (clD m.n s'), .ow (kwsD s'.r kw'), .ow (lineD m ws'), .sh (.int ws'.length), s5', s6', s7', .no, .no, .no, .no]
  | 0, ws, n, s, kw, s5, s6, s7, I, hQ, hg => by
    have := I.nl
    have h1 := I.len
    have h2 := Nat.mul_le_mul_left m.k (Spn.r_le I.ok)
    have h1 : ws.length = 1 + m.k * s.r := h1
    have h2 : m.k * s.r ≤ m.k * m.n := h2
    omega
  | g + 1, ws, n, s, kw, s5, s6, s7, I, hQ, hg => by
    have hnl := I.nl
    by_cases hend : n = ws.length
    · subst hend
      refine ⟨ws, s, kw, s5, s6, s7, I, hQ, ?_⟩
      rw [while_end (k := .sh) (by simp [wc_forwards_2, evE, evEs, args1, evBlt, line_len, evCmp])]
    · have hlt : n < ws.length := by omega
      obtain ⟨u, hu⟩ : ∃ u, ws[n]? = some u := ⟨ws[n], List.getElem?_eq_getElem hlt⟩
      have hm := List.mem_of_getElem? hu
      have hud : Word m.k u := I.dig u hm
      have hr : s.r ≤ m.n := Spn.r_le I.ok
      have hul : u.length ≤ Z := Nat.le_trans (I.wl u hm) (c.rk _ _ _ _ I)
      have hwl : ws.length ≤ 1000000 := by
        have h1 : ws.length = 1 + m.k * s.r := I.len
        have h2 : m.k * s.r ≤ 100 * 1000 := Nat.mul_le_mul c.hk (Nat.le_trans hr c.hn)
        omega
      have hkl : (kwsD s.r kw).length < 16777216 := by
        have := c.hn
        simp [kwsD]; omega
      have hc : evE wc_forwards_2 [.sh (macD m), .ob (rowsD m.n s) (clD m.n s), .ow (kwsD s.r kw), .ow (lineD m ws), .sh (.int n), s5, s6, s7, .no, .no, .no, .no] = .ok (.bl true, .sh) := by
        simp [wc_forwards_2, evE, evEs, args1, evBlt, line_len, evCmp]; omega
      have e1 : exS fuel (.unp [5, 6] (.sub (.loc 3) (.loc 4))) [.sh (macD m), .ob (rowsD m.n s) (clD m.n s), .ow (kwsD s.r kw), .ow (lineD m ws), .sh (.int n), s5, s6, s7, .no, .no, .no, .no] = .nx [.sh (macD m), .ob (rowsD m.n s) (clD m.n s), .ow (kwsD s.r kw), .ow (lineD m ws), .sh (.int n), .sh (wD u), .sh (rL m.n (m.row u)), s7, .no, .no, .no, .no] := by
        simp [exS, evE, line_get hu, tg_item]
      have e2 : exS fuel (.set 4 (.bin .add (.loc 4) (.int 1))) [.sh (macD m), .ob (rowsD m.n s) (clD m.n s), .ow (kwsD s.r kw), .ow (lineD m ws), .sh (.int n), .sh (wD u), .sh (rL m.n (m.row u)), s7, .no, .no, .no, .no] = .nx [.sh (macD m), .ob (rowsD m.n s) (clD m.n s), .ow (kwsD s.r kw), .ow (lineD m ws), .sh (.int (n + 1 : Nat)), .sh (wD u), .sh (rL m.n (m.row u)), s7, .no, .no, .no, .no] := by
        simp [exS, evE]
      have hz : ({ m with L := Mac.zero } : Mac).wt u = 0 := Mac.wt_L0' m u
      obtain ⟨X, sc⟩ := c.sc _ _ _ _ I hQ _ hm
      rcases first_place m.n (s.rest (m.row u) s.r) with h0 | ⟨q, hq, h0, h3⟩
      · have p := put_no I.ok sc (rL_sq m.n (m.row u)) h0
        have e4 : exSs fuel wb_forwards_2 [.sh (macD m), .ob (rowsD m.n s) (clD m.n s), .ow (kwsD s.r kw), .ow (lineD m ws), .sh (.int n), s5, s6, s7, .no, .no, .no, .no] = .nx [.sh (macD m), .ob (rowsD m.n s) (clD m.n s), .ow (kwsD s.r kw), .ow (lineD m ws), .sh (.int (n + 1 : Nat)), .sh (wD u), .sh (rL m.n (m.row u)), s7, .no, .no, .no, .no] := by
          rw [wb_forwards_2, ss_go e1, ss_go e2]
          simp [exSs, exS, evE, p]
        rw [while_go hc e4]
        exact fwd_loop c g ws (n + 1) s kw _ _ _ (I.step_no hu hz h0) hQ (by omega)
      · have p := put_yes I.ok sc (rL_sq m.n (m.row u)) hq h0 h3
        have hqu : Q u := c.kept ws n s kw u q I hQ hu hq h0
        obtain ⟨t7, e5⟩ := fwd_kids c hqu hud hul (ws := ws) hwl (.ob (rowsD m.n (s.put (m.row u) q)) (clD m.n (s.put (m.row u) q))) (.ow (kwsD (s.r + 1) (consW s.r kw u))) (.sh (.int (n + 1 : Nat))) s7 .no .no .no .no
        have e4 : exSs fuel wb_forwards_2 [.sh (macD m), .ob (rowsD m.n s) (clD m.n s), .ow (kwsD s.r kw), .ow (lineD m ws), .sh (.int n), s5, s6, s7, .no, .no, .no, .no] = .nx [.sh (macD m), .ob (rowsD m.n (s.put (m.row u) q)) (clD m.n (s.put (m.row u) q)), .ow (kwsD (s.r + 1) (consW s.r kw u)), .ow (lineD m (ws ++ (List.range m.k).map fun t => u ++ [t])), .sh (.int (n + 1 : Nat)), .sh (wD u), .sh (rL m.n (m.row u)), t7, .no, .no, .no, .no] := by
          rw [wb_forwards_2, ss_go e1, ss_go e2]
          have e6 : exS fuel (.ifPut 1 g_put (.loc 6) [.app 2 (.loc 5), w_forwards_1] []) [.sh (macD m), .ob (rowsD m.n s) (clD m.n s), .ow (kwsD s.r kw), .ow (lineD m ws), .sh (.int (n + 1 : Nat)), .sh (wD u), .sh (rL m.n (m.row u)), s7, .no, .no, .no, .no] = .nx [.sh (macD m), .ob (rowsD m.n (s.put (m.row u) q)) (clD m.n (s.put (m.row u) q)), .ow (kwsD (s.r + 1) (consW s.r kw u)), .ow (lineD m (ws ++ (List.range m.k).map fun t => u ++ [t])), .sh (.int (n + 1 : Nat)), .sh (wD u), .sh (rL m.n (m.row u)), t7, .no, .no, .no, .no] := by
            rw [exS]
            simp only [List.getElem?_cons_zero, List.getElem?_cons_succ, evE, bindS_ok, p]
            show exSs fuel [.app 2 (.loc 5), w_forwards_1] [.sh (macD m), .ob (rowsD m.n (s.put (m.row u) q)) (clD m.n (s.put (m.row u) q)), .ow (kwsD s.r kw), .ow (lineD m ws), .sh (.int (n + 1 : Nat)), .sh (wD u), .sh (rL m.n (m.row u)), s7, .no, .no, .no, .no] = _
            rw [ss_go (S1 := [.sh (macD m), .ob (rowsD m.n (s.put (m.row u) q)) (clD m.n (s.put (m.row u) q)), .ow (kwsD (s.r + 1) (consW s.r kw u)), .ow (lineD m ws), .sh (.int (n + 1 : Nat)), .sh (wD u), .sh (rL m.n (m.row u)), s7, .no, .no, .no, .no]) (by
              rw [kws_snoc]
              simp [exS, evE, hkl]), ss_go e5, exSs]
          rw [ss_go e6, exSs]
        rw [while_go hc e4]
        exact fwd_loop c g _ (n + 1) _ _ _ _ _ (I.step_yes hu hz hq h0) (fun i hi => by
          by_cases e : i = s.r
          · subst e; rw [consW_hi]; exact hqu
          · have hi' : i < s.r + 1 := hi
            rw [consW_lo (by omega)]; exact hQ i (by omega)) (by omega)
/-- the machine on the rows that are come to, by forwards -/
theorem forwards_ok (c : LG m Z Q) (hdot : ∀ w, Q w → Word m.k w → w.length ≤ Z → m_dot [rL m.n (m.row w), rT m.n m.L] = .ok (fr (m.wt w), false)) :
    ∃ ws s kw, LInv { m with L := Mac.zero } ws ws.length s kw ∧ (∀ i, i < s.r → Q (kw i)) ∧ m_forwards [macD m] = .ok (.tup [macD (m.less s), .lst (kwsD s.r kw)], false) := by
  have hf : 1 + m.k * m.n < 0 + fuel := by
    have h2 : m.k * m.n ≤ 100 * 1000 := Nat.mul_le_mul c.hk c.hn
    have := lt_fuel (n := 200000) (lt9 (by decide))
    omega
  obtain ⟨ws, s, kw, s5, s6, s7, I, hQ, hl⟩ := fwd_loop c fuel [[]] 0 Spn.empty (fun _ => []) .no .no .no (LInv.init _) (fun i hi => absurd hi (Nat.not_lt_zero i)) hf
  refine ⟨ws, s, kw, I, hQ, ?_⟩
  have hr : s.r ≤ m.n := Spn.r_le I.ok
  have hn := c.hn
  have hk := c.hk
  have kl : ∀ j, j < s.r → (kw j).length ≤ Z := fun j hj => by have := I.kl j hj; have := c.rk _ _ _ _ I; omega
  have kd : ∀ j, j < s.r → Word m.k (kw j) := fun j hj => by
    obtain ⟨i, _, h⟩ := I.kat j hj
    exact I.dig _ (List.mem_of_getElem? h)
  have kR : ∀ j, j < s.r → s.R j = m.row (kw j) := I.R
  have sp0 := split_ok I.ok (Classical.choose_spec (c.sc _ _ _ _ I hQ _ I.w0)) (x := rT m.n m.F) (rT_sq m.n m.F)
  have sp0 : m_Span_split [obD m.n s, rT m.n m.F] = .ok (.tup [rL m.n (s.rest m.F s.r), rL s.r (s.parts m.F s.r)], true) := sp0
  obtain ⟨S', l1, s6', s10, l2⟩ := for_tab (f := exSs fuel wb_forwards_3) (tg := fun S d => some (S.set 10 (.sh d))) (fun t S => ∃ s6 s10, S = [.sh (macD m), .sh (obD m.n s), .ow (kwsD s.r kw), .ow (lineD m ws), .sh (.int ws.length), s5, s6, s7, .sh (rT s.r (s.parts m.F s.r)), .ow ((List.range t).map fun t => sT s.r s.r ((m.less s).T t)), s10, .no]) (fun t => sT m.n m.n (m.T t)) (n := m.k)
    (S := [.sh (macD m), .sh (obD m.n s), .ow (kwsD s.r kw), .ow (lineD m ws), .sh (.int ws.length), s5, s6, s7, .sh (rT s.r (s.parts m.F s.r)), .ow [], .no, .no]) ⟨s6, .no, rfl⟩ (by
    rintro t S ht ⟨s6, s10, rfl⟩
    refine ⟨_, [.sh (macD m), .sh (obD m.n s), .ow (kwsD s.r kw), .ow (lineD m ws), .sh (.int ws.length), s5, s6, s7, .sh (rT s.r (s.parts m.F s.r)), .ow ((List.range (t + 1)).map fun t => sT s.r s.r ((m.less s).T t)), .sh (sT m.n m.n (m.T t)), .no], rfl, ?_, _, _, rfl⟩
    obtain ⟨ow, how⟩ : ∃ ow, (List.range t).map (fun t => sT s.r s.r ((m.less s).T t)) = ow := ⟨_, rfl⟩
    have e1 : evE c_forwards_1 [.sh (macD m), .sh (obD m.n s), .ow (kwsD s.r kw), .ow (lineD m ws), .sh (.int ws.length), s5, s6, s7, .sh (rT s.r (s.parts m.F s.r)), .ow ow, .sh (sT m.n m.n (m.T t)), .no] = .ok (.lst ((List.range s.r).map fun a => rT s.r ((m.less s).T t a)), .fr) := by
      rw [c_forwards_1, ev_comp (n := s.r) (rs := [(.lst (rowsD m.n s), .sh)]) (fun a => rL m.n (s.R a)) (fun a => rT s.r ((m.less s).T t a)) (by simp [evEs, evE, obD, attrD]) (by simp [hasBo]) (by simp only [args1, List.map, rowsD]; rfl) (by omega) (fun a ha => ⟨.sh, by decide, by
        have e2 := c.led (kw a) (hQ a ha) (kd a ha) (kl a ha) t ht _ (rL_sq m.n (m.row (kw a)))
        rw [← kR a ha] at e2
        have hmem := I.kid a t ha ht
        have e3 := split_ok I.ok (Classical.choose_spec (c.sc _ _ _ _ I hQ _ hmem)) (x := rL m.n (m.row (kw a ++ [t]))) (rL_sq m.n _)
        have e4 : m.row (kw a ++ [t]) = m.step (s.R a) t := by rw [Mac.row_snoc, kR a ha]
        rw [e4] at e3 e2
        have ho : isOb (obD m.n s) = true := rfl
        have e3 : m_Span_split [obD m.n s, rL m.n (m.step (s.R a) t)] = .ok (.tup [rL m.n (s.rest (m.step (s.R a) t) s.r), rL s.r (s.parts (m.step (s.R a) t) s.r)], true) := e3
        simp [ce_forwards_1, evE, evEs, args1, hasBo, e2, ho, e3, retD, evSub]
        rfl⟩)]
    have hlt : ow.length < 16777216 := by rw [← how]; simp; omega
    have e8 : (List.range (t + 1)).map (fun t => sT s.r s.r ((m.less s).T t)) = ow ++ [sT s.r s.r ((m.less s).T t)] := by
      rw [List.range_succ, List.map_append, how]; rfl
    rw [e8, how, wb_forwards_3]
    have e9 : evE (.blt .tuple [c_forwards_1]) [.sh (macD m), .sh (obD m.n s), .ow (kwsD s.r kw), .ow (lineD m ws), .sh (.int ws.length), s5, s6, s7, .sh (rT s.r (s.parts m.F s.r)), .ow ow, .sh (sT m.n m.n (m.T t)), .no] = .ok (sT s.r s.r ((m.less s).T t), .sh) := by
      rw [evE, evEs, e1]; rfl
    simp [exSs, exS, e9, hlt])
  subst l2
  have e5 : evE c_forwards_2 [.sh (macD m), .sh (obD m.n s), .ow (kwsD s.r kw), .ow (lineD m ws), .sh (.int ws.length), s5, s6', s7, .sh (rT s.r (s.parts m.F s.r)), .ow ((List.range m.k).map fun t => sT s.r s.r ((m.less s).T t)), s10, .no] = .ok (rL s.r (m.less s).L, .fr) := by
    rw [c_forwards_2, ev_comp (n := s.r) (rs := [(.lst (rowsD m.n s), .sh)]) (fun a => rL m.n (s.R a)) (fun a => fr ((m.less s).L a)) (by simp [evEs, evE, obD, attrD]) (by simp [hasBo]) (by simp only [args1, List.map, rowsD]; rfl) (by omega) (fun a ha => ⟨.sh, by decide, by
      have e2 := hdot (kw a) (hQ a ha) (kd a ha) (kl a ha)
      have e3 : m.wt (kw a) = (m.less s).L a := by
        show m.dotL (m.row (kw a)) = m.dotL (s.R a)
        rw [kR a ha]
      rw [← kR a ha, e3] at e2
      simp [ce_forwards_2, evE, evEs, args1, hasBo, mac_2, e2]⟩)]
    rfl
  refine mir_ret ?_
  unfold b_forwards
  show exSs fuel _ [.sh (macD m), .no, .no, .no, .no, .no, .no, .no, .no, .no, .no, .no] = _
  have hl0 : evBlt .list [rT m.n m.F] = .ok (rL m.n m.F, .fr) := rfl
  have ho : isOb (obD m.n s) = true := rfl
  rw [ss_go (S1 := [.sh (macD m), .ob [] [], .no, .no, .no, .no, .no, .no, .no, .no, .no, .no]) (by simp [exS, isObS]),
    ss_go (S1 := [.sh (macD m), .ob [] [], .ow [], .no, .no, .no, .no, .no, .no, .no, .no, .no]) (by simp [exS, evE, evEs, args1, hasBo]),
    ss_go (S1 := [.sh (macD m), .ob [] [], .ow [], .ow (lineD m [[]]), .no, .no, .no, .no, .no, .no, .no, .no]) (by
      simp [exS, evE, evEs, args1, hasBo, mac_0, hl0]
      rfl),
    ss_go (S1 := [.sh (macD m), .ob [] [], .ow [], .ow (lineD m [[]]), .sh (.int (0 : Nat)), .no, .no, .no, .no, .no, .no, .no]) (by simp [exS, evE]),
    ss_go (S1 := [.sh (macD m), .ob (rowsD m.n s) (clD m.n s), .ow (kwsD s.r kw), .ow (lineD m ws), .sh (.int ws.length), s5, s6, s7, .no, .no, .no, .no]) (by rw [w_forwards_2, exS]; exact hl),
    ss_go (S1 := [.sh (macD m), .sh (obD m.n s), .ow (kwsD s.r kw), .ow (lineD m ws), .sh (.int ws.length), s5, s6, s7, .no, .no, .no, .no]) (by simp [exS]; rfl),
    ss_go (S1 := [.sh (macD m), .sh (obD m.n s), .ow (kwsD s.r kw), .ow (lineD m ws), .sh (.int ws.length), s5, s6, s7, .sh (rT s.r (s.parts m.F s.r)), .no, .no, .no]) (by
      have e9 : evE (.mcall 1 "split" m_Span_split (.sub (.loc 0) (.int 0))) [.sh (macD m), .sh (obD m.n s), .ow (kwsD s.r kw), .ow (lineD m ws), .sh (.int ws.length), s5, s6, s7, .no, .no, .no, .no] = .ok (.tup [rL m.n (s.rest m.F s.r), rL s.r (s.parts m.F s.r)], .fr) := by
        simp [evE, mac_0, ho, sp0, retD]
      have e10 : evE (.sub (.mcall 1 "split" m_Span_split (.sub (.loc 0) (.int 0))) (.int 1)) [.sh (macD m), .sh (obD m.n s), .ow (kwsD s.r kw), .ow (lineD m ws), .sh (.int ws.length), s5, s6, s7, .no, .no, .no, .no] = .ok (rL s.r (s.parts m.F s.r), .sh) := by
        rw [evE, e9]
        simp [evE, evSub]
      rw [exS, evE, evEs, e10]
      rfl),
    ss_go (S1 := [.sh (macD m), .sh (obD m.n s), .ow (kwsD s.r kw), .ow (lineD m ws), .sh (.int ws.length), s5, s6, s7, .sh (rT s.r (s.parts m.F s.r)), .ow [], .no, .no]) (by simp [exS, evE, evEs, args1, hasBo]),
    ss_go (S1 := [.sh (macD m), .sh (obD m.n s), .ow (kwsD s.r kw), .ow (lineD m ws), .sh (.int ws.length), s5, s6', s7, .sh (rT s.r (s.parts m.F s.r)), .ow ((List.range m.k).map fun t => sT s.r s.r ((m.less s).T t)), s10, .no]) (by
      rw [w_forwards_3, exS]
      simp [evI, evEs, evE, args1, hasBo, mac_1, items]
      exact l1),
    ss_go (S1 := [.sh (macD m), .sh (obD m.n s), .ow (kwsD s.r kw), .ow (lineD m ws), .sh (.int ws.length), s5, s6', s7, .sh (rT s.r (s.parts m.F s.r)), .ow ((List.range m.k).map fun t => sT s.r s.r ((m.less s).T t)), s10, .sh (rT s.r (m.less s).L)]) (by
      rw [exS, evE, evEs, e5]
      rfl),
    ss_go (S1 := [.sh (macD m), .sh (obD m.n s), .sh (.lst (kwsD s.r kw)), .ow (lineD m ws), .sh (.int ws.length), s5, s6', s7, .sh (rT s.r (s.parts m.F s.r)), .ow ((List.range m.k).map fun t => sT s.r s.r ((m.less s).T t)), s10, .sh (rT s.r (m.less s).L)]) (by simp [exS])]
  simp [exSs, exS, evE, evEs, args1, hasBo, blt_tl]
  rfl
end
end MP
set_option Elab.async false
set_option linter.all false
set_option maxRecDepth 100000
set_option maxHeartbeats 4000000
namespace MP
open PySem PySem.Spec PyProof.Rows L2 WM
/-- led where each column has its own sizes -/
theorem led_col {n : Nat} {a : D} {f : Nat → Rat} {T : Nat → Nat → Rat} (ha : Sq a (tabs n f)) (hn : n ≤ 16777216) (hb : ∀ b, b < n → ∃ D1 N1 D2 N2, Cap n D1 N1 D2 N2 ∧ (∀ i, i < n → Fit D1 N1 (f i)) ∧ ∀ i, i < n → Fit D2 N2 (T i b)) :
    m_led [a, sT n n T] = .ok (rL n fun b => sm n fun i => f i * T i b, true) := by
  refine mir_ret ?_
  have hl := ha.len
  rw [tabs_len] at hl
  have e : evE c_led_1 [.sh a, .sh (sT n n T), .no] = .ok (rL n fun b => sm n fun i => f i * T i b, .fr) := by
    rw [c_led_1, ev_comp (n := n) (rs := [(.int n, .sh)]) (fun j : Nat => MP.D.int j) (fun b => fr (sm n fun i => f i * T i b)) (by simp [evEs, evE, args1, hl]) (by simp [hasBo]) (by simp only [args1, List.map]; exact items_rng n (by omega)) hn (fun j hj => ⟨.sh, by decide, by
      obtain ⟨D1, N1, D2, N2, c, hf, hT⟩ := hb j hj
      have h2 := dot_ok (xs := []) ha (rL_sq n fun a => T a j) (fun i hi => tabs_get hi) c (by omega) hf hT
      simp [ce_led_1, evE, evEs, args1, hasBo, column_ok (T := T) hj hn, h2]⟩)]
    rfl
  unfold b_led
  rw [ss_ret (d := rL n fun b => sm n fun i => f i * T i b) (fr := true) (by simp [exS, List.replicate, e])]
theorem law_led_col {n : Nat} {a : D} {f : Nat → Rat} {T : Nat → Nat → Rat} (ha : Sq a (tabs n f)) (hn : n ≤ 16777215) (hb : ∀ b, b < n → ∃ D1 N1 D2 N2, Cap n D1 N1 D2 N2 ∧ (∀ i, i < n → Fit D1 N1 (f i)) ∧ ∀ i, i < n → Fit D2 N2 (T i b)) :
    m_law_led [a, sT n n T] = .ok (rL n fun b => sm n fun i => f i * T i b, true) := by
  have hl := ha.len
  rw [tabs_len] at hl
  refine mir_ret ?_
  unfold b_law_led
  obtain ⟨S', h1, s3, h2⟩ := for_rng (f := exSs fuel wb_law_led_1) (tg := fun S d => some (S.set 3 (.sh d))) (fun j S => ∃ s3, S = [.sh a, .sh (sT n n T), .ow (tabs j fun b => sm n fun i => f i * T i b), s3, .no]) (n := n) (S := [.sh a, .sh (sT n n T), .ow [], .no, .no]) ⟨.no, rfl⟩ (by
    rintro j S hj ⟨s3, rfl⟩
    obtain ⟨D1, N1, D2, N2, c, hf, hT⟩ := hb j hj
    have h3 := law_dot_ok (xs := []) ha (rL_sq n fun a => T a j) (fun i hi => tabs_get hi) c (by omega) hf hT
    have e : evE c_law_led_1 [.sh a, .sh (sT n n T), .ow (tabs j fun b => sm n fun i => f i * T i b), .sh (.int j), .no] = .ok (rL n fun a => T a j, .fr) := by
      rw [c_law_led_1, ev_comp (n := n) (rs := [(.int n, .sh)]) (fun j : Nat => MP.D.int j) (fun a => fr (T a j)) (by simp [evEs, evE, args1, hl]) (by simp [hasBo]) (by simp only [args1, List.map]; exact items_rng n (by omega)) (by omega) (fun i hi => ⟨.sh, by decide, by
        have e1 : evSub (sT n n T) (.int i) = .ok (rT n (T i), .sh) := Sq.sub (xs := (List.range n).map fun a => rT n (T a)) (.inl rfl) (by simp [hi])
        simp [ce_law_led_1, evE, e1, (rT_sq n (T i)).sub (tabs_get hj)]⟩)]
      rfl
    refine ⟨_, [.sh a, .sh (sT n n T), .ow (tabs (j + 1) fun b => sm n fun i => f i * T i b), .sh (.int j), .no], rfl, ?_, _, rfl⟩
    have hlt : j < 16777216 := by omega
    simp [wb_law_led_1, exSs, exS, evE, evEs, args1, hasBo, e, h3, tabs_len, hlt]
    simp [tabs, List.range_succ])
  rw [ss_go (S1 := [.sh a, .sh (sT n n T), .ow [], .no, .no]) (by simp [exS, evE, evEs, hasBo, args1]), ss_go (S1 := S') (by
    rw [w_law_led_1, exS]
    simp only [evI, evEs, evE, List.getElem?_cons_zero, Res.bind, args1, List.map, hl, hasBo, List.any, Bool.or_false, decide_false, Bool.false_eq_true, if_false, items_rng n (show n < 4611686018427387904 by omega), bindS_ok]
    exact h1)]
  subst h2
  simp [exSs, exS]
  rfl
/-! sizes of the two passes -/
def capS2 (Z N M B l : Nat) : Nat := Z * N * B * (Z * M) ^ (Z + l)
def capB2 (Z N M B : Nat) : Nat := (2 * Z + 3) ^ Z * prodN (Z + 1) (capS2 Z N M B)
def capK1 (Z D E : Nat) : Nat := D * E ^ Z
def capK2 (Z D E A : Nat) : Nat := D * E ^ (Z + Z) * A
structure Cap2 (Z D N E M A B : Nat) : Prop where
  Z1 : Z ≤ 1000
  D0 : 0 < D
  N0 : 0 < N
  E0 : 0 < E
  M0 : 0 < Z * M
  A0 : 0 < A
  B0 : 0 < Z * N * B
  EM : E ≤ Z * M
  x1 : (1001 * (capB Z N M * capK1 Z D E)) * ((1001 * (capB Z N M * capK1 Z D E)) * (1001 * (capB Z N M * capK1 Z D E))) < 2 ^ 9000
  c1 : capK1 Z D E * E * (capK1 Z D E * E) < 2 ^ 9000
  s1 : capS Z N M Z < 2 ^ 9000
  M1 : M < 2 ^ 9000
  d1 : capK1 Z D E * A * (capK1 Z D E * A) < 2 ^ 9000
  B1 : B < 2 ^ 9000
  x2 : (1001 * (capB2 Z N M B * capK2 Z D E A)) * ((1001 * (capB2 Z N M B * capK2 Z D E A)) * (1001 * (capB2 Z N M B * capK2 Z D E A))) < 2 ^ 9000
  c2 : capK2 Z D E A * (capB Z N M * capK1 Z D E) * (capK2 Z D E A * (capB Z N M * capK1 Z D E)) < 2 ^ 9000
  s2 : capS2 Z N M B Z < 2 ^ 9000
theorem up180 {n : Nat} (h : n < 2 ^ 9000) : n < 2 ^ 180000 := pow_up h (by decide)
theorem lt1000 {n : Nat} (h : n ≤ 1000) : n < 2 ^ 1000 := Nat.lt_of_le_of_lt h (Nat.lt_of_lt_of_le (m := 2 ^ 10) (by decide) (Nat.pow_le_pow_right (by decide) (by decide)))
/-- the weight of a word, its sizes -/
theorem wt_fit {m : Mac} {D N E M A B : Nat} (f : MFit m D N E M A B) (hD : 0 < D) (hE : 0 < E) (hA : 0 < A) (w : List Nat) (hw : Word m.k w) : Fit (D * E ^ w.length * A) (m.n * (N * (m.n * M) ^ w.length * B)) (m.wt w) :=
  sm_fit (Nat.mul_pos (Nat.mul_pos hD (Nat.pow_pos hE)) hA) fun i hi => (Mac.run_fit m f.T hE w hw m.F D N hD f.F i hi).mul (f.L i hi)
theorem wt_fit2 {m : Mac} {Z D N E M A B : Nat} (c : Cap2 Z D N E M A B) (f : MFit m D N E M A B) (hn : m.n ≤ Z) (w : List Nat) (hw : Word m.k w) {l : Nat} (hl : w.length ≤ l) : Fit (D * E ^ l * A) (Z * N * B * (Z * M) ^ l) (m.wt w) := by
  have h := wt_fit f c.D0 c.E0 c.A0 w hw
  obtain ⟨j, rfl⟩ : ∃ j, l = w.length + j := ⟨l - w.length, by omega⟩
  have h2 := h.scale (E ^ j) (Nat.pow_pos c.E0)
  have e : D * E ^ w.length * A * E ^ j = D * E ^ (w.length + j) * A := by
    rw [Nat.pow_add, Nat.mul_assoc (D * E ^ w.length), Nat.mul_comm A, ← Nat.mul_assoc, ← Nat.mul_assoc, Nat.mul_assoc D]
  rw [e] at h2
  refine h2.mono ?_
  have a1 : (m.n * M) ^ w.length ≤ (Z * M) ^ w.length := Nat.pow_le_pow_left (Nat.mul_le_mul_right _ hn) _
  have a2 : E ^ j ≤ (Z * M) ^ j := Nat.pow_le_pow_left c.EM _
  have a3 : m.n * (N * (m.n * M) ^ w.length * B) ≤ Z * (N * (Z * M) ^ w.length * B) := Nat.mul_le_mul hn (Nat.mul_le_mul_right _ (Nat.mul_le_mul_left _ a1))
  refine Nat.le_trans (Nat.mul_le_mul a3 a2) (Nat.le_of_eq ?_)
  rw [Nat.pow_add]
  generalize (Z * M) ^ w.length = x
  generalize (Z * M) ^ j = y
  rw [Nat.mul_assoc Z N B, Nat.mul_assoc Z (N * B), Nat.mul_assoc Z, Nat.mul_right_comm N x B, Nat.mul_assoc (N * B)]
theorem Cap2.first {m : Mac} {Z D N E M A B : Nat} (c : Cap2 Z D N E M A B) (f : MFit m D N E M A B) (hn : m.n ≤ Z) (hk : m.k ≤ 100) (k0 : 0 < m.k) :
    LCap m Z (fun _ => True) (fun w => D * E ^ w.length) (capS Z N M) (capS Z N M) (capB Z N M) (capK1 Z D E) :=
  LCap.of hn c.Z1 hk k0 f c.D0 c.N0 c.E0 c.M0 c.x1 c.c1 (up180 c.s1) (up180 c.M1)
theorem Cap2.dot1 {m : Mac} {Z D N E M A B : Nat} (c : Cap2 Z D N E M A B) (f : MFit m D N E M A B) (hn : m.n ≤ Z) (w : List Nat) (hw : Word m.k w) (hl : w.length ≤ Z) {x : MP.D} (hx : Sq x (tabs m.n (m.row w))) : m_dot [x, rT m.n m.L] = .ok (fr (m.wt w), false) := by
  have cp := LCap.dotc (m := m) (Z := Z) (D := D) (N := N) (E := E) (M := M) (A := A) (B := B) hn c.Z1 c.E0 c.M0 c.d1 (up180 c.s1) (up180 c.B1) w hw hl
  exact dot_ok (xs := []) hx (rT_sq _ _) (fun i hi => tabs_get hi) cp (by have := c.Z1; omega) (fun i hi => (Mac.run_fit m f.T c.E0 w hw m.F D N c.D0 f.F i hi).mono (Nat.mul_le_mul_left _ (Nat.pow_le_pow_left (Nat.mul_le_mul_right _ hn) _))) f.L
/-- what forwards gives on the first pass -/
structure Pass1 (m : Mac) (ws : List (List Nat)) (s : Spn) (kw : Nat → List Nat) : Prop where
  I : LInv { m with L := Mac.zero } ws ws.length s kw
  run : m_forwards [macD m] = .ok (.tup [macD (m.less s), .lst (kwsD s.r kw)], false)
section
variable {m : Mac} {ws : List (List Nat)} {s : Spn} {kw : Nat → List Nat}
theorem Pass1.closed (h : Pass1 m ws s kw) : Closed m s := ⟨h.I.ok, h.I.closed.F, h.I.closed.T⟩
theorem Pass1.word (h : Pass1 m ws s kw) {i : Nat} (hi : i < s.r) : Word m.k (kw i) := by
  obtain ⟨j, _, e⟩ := h.I.kat i hi
  exact h.I.dig _ (List.mem_of_getElem? e)
theorem Pass1.R (h : Pass1 m ws s kw) {i : Nat} (hi : i < s.r) : s.R i = m.row (kw i) := h.I.R i hi
theorem Pass1.r_le (h : Pass1 m ws s kw) : s.r ≤ m.n := Spn.r_le h.I.ok
theorem Pass1.trow (h : Pass1 m ws s kw) {i : Nat} (hi : i < s.r) (w : List Nat) (hw : Word m.k w) : (m.less s).turn.row w i = m.wt (kw i ++ w.reverse) := h.closed.trow hi (h.word hi) (h.R hi) w hw
end
theorem pass1_ok {m : Mac} {Z D N E M A B : Nat} (c : Cap2 Z D N E M A B) (f : MFit m D N E M A B) (hn : m.n ≤ Z) (hk : m.k ≤ 100) (k0 : 0 < m.k) : ∃ ws s kw, Pass1 m ws s kw := by
  obtain ⟨ws, s, kw, I, _, h⟩ := forwards_ok (c.first f hn hk k0).lg (fun w _ hw hl => c.dot1 f hn w hw hl (rL_sq _ _))
  exact ⟨ws, s, kw, I, h⟩
section
variable {m : Mac} {Z D N E M A B : Nat} {ws : List (List Nat)} {s : Spn} {kw : Nat → List Nat}
theorem Pass1.pfit (c : Cap2 Z D N E M A B) (f : MFit m D N E M A B) (hn : m.n ≤ Z) (hk : m.k ≤ 100) (k0 : 0 < m.k) (h : Pass1 m ws s kw) {u : List Nat} (hu : u ∈ ws) : ∃ D0 N0, D0 ≤ capB Z N M * capK1 Z D E ∧ N0 ≤ capB Z N M * capK1 Z D E ∧ ∀ j, j < s.r → Fit D0 N0 (s.parts (m.row u) s.r j) :=
  LInv.pfit (m := { m with L := Mac.zero }) (c.first (m := { m with L := Mac.zero }) (A := A) (B := B) ⟨f.F, f.T, fun _ _ => Fit.zero c.A0⟩ hn hk k0) h.I (fun _ _ => trivial) hu
theorem Pass1.small1 (c : Cap2 Z D N E M A B) : capB Z N M * capK1 Z D E < 2 ^ 9000 := by
  refine Nat.lt_of_le_of_lt ?_ c.x1
  generalize capB Z N M * capK1 Z D E = x
  rcases Nat.eq_zero_or_pos x with e | e
  · subst e; exact Nat.zero_le _
  · exact Nat.le_trans (show x ≤ 1001 * x by omega) (Nat.le_mul_of_pos_right _ (Nat.mul_pos (by omega) (by omega)))
/-- sizes of the second pass -/
theorem Pass1.second (c : Cap2 Z D N E M A B) (f : MFit m D N E M A B) (hn : m.n ≤ Z) (hk : m.k ≤ 100) (k0 : 0 < m.k) (h : Pass1 m ws s kw) :
    LCap (m.less s).turn Z (fun _ => True) (fun w => D * E ^ (Z + w.length) * A) (capS2 Z N M B) (capS2 Z N M B) (capB2 Z N M B) (capK2 Z D E A) := by
  have hr := h.r_le
  have hZ := c.Z1
  have S0 : ∀ l, 0 < capS2 Z N M B l := fun l => Nat.mul_pos c.B0 (Nat.pow_pos c.M0)
  have mono : ∀ l l', l ≤ l' → capS2 Z N M B l ≤ capS2 Z N M B l' := fun l l' hl => Nat.mul_le_mul_left _ (Nat.pow_le_pow_right c.M0 (by omega))
  have fit : ∀ w, Word m.k w → ∀ i, i < s.r → Fit (D * E ^ (Z + w.length) * A) (capS2 Z N M B w.length) ((m.less s).turn.row w i) := fun w hw i hi => by
    rw [h.trow hi w hw]
    refine wt_fit2 c f hn _ (fun t ht => (List.mem_append.mp ht).elim (h.word hi t) (word_rev hw t)) ?_
    have := h.I.kl i hi
    rw [List.length_append, List.length_reverse]; omega
  have CK : ∀ w : List Nat, w.length ≤ Z → D * E ^ (Z + w.length) * A ≤ capK2 Z D E A := fun w hw => Nat.mul_le_mul_right _ (Nat.mul_le_mul_left _ (Nat.pow_le_pow_right c.E0 (by omega)))
  have B1 : ∀ i, i ≤ Z → (2 * i + 3) ^ i * (prodN i (capS2 Z N M B) * capS2 Z N M B i) ≤ capB2 Z N M B := fun i hi => by
    show (2 * i + 3) ^ i * prodN (i + 1) (capS2 Z N M B) ≤ _
    refine Nat.mul_le_mul ?_ (prodN_mono S0 (by omega))
    exact Nat.le_trans (Nat.pow_le_pow_left (by omega) i) (Nat.pow_le_pow_right (by omega) (by omega))
  exact { hn := by show s.r ≤ 1000; omega
          hZ := hZ
          rk := fun ws n s' kw' I => Nat.le_trans (Spn.r_le I.ok) (show s.r ≤ Z by omega)
          hk := hk
          k0 := k0
          fit := fun w hw _ i hi => fit w hw i hi
          fitK := fun w _ hw _ i hi => fit w hw i hi
          C0 := fun w => Nat.mul_pos (Nat.mul_pos c.D0 (Nat.pow_pos c.E0)) c.A0
          S0 := fun l _ => S0 l
          V0 := fun l _ => S0 l
          mono := fun l l' hl _ => mono l l' hl
          monoV := fun l l' hl _ => mono l l' hl
          CK := CK
          B1 := B1
          B2 := B1
          x := c.x2
          kept := fun _ _ _ _ _ _ _ _ _ _ _ => trivial
          led := fun w _ hw hl t ht x hx => by
            have hw : Word m.k w := hw
            have hl : w.length ≤ Z := hl
            have e := led_col (T := (m.less s).turn.T t) hx (by show s.r ≤ _; omega) (fun b hb => by
              have hb : b < s.r := hb
              obtain ⟨D0, N0, d1, d2, d3⟩ := h.pfit c f hn hk k0 (h.I.kid b t hb ht)
              refine ⟨_, _, D0, N0, ?_, fun i hi => fit w hw i hi, fun i hi => ?_⟩
              · refine ⟨Nat.lt_of_le_of_lt (Nat.mul_le_mul (Nat.mul_le_mul (CK w hl) d1) (Nat.mul_le_mul (CK w hl) d1)) c.c2, Nat.lt_of_le_of_lt (mono _ _ (by omega)) (up180 c.s2), Nat.lt_of_le_of_lt d2 (up180 (Pass1.small1 c)), lt1000 (by show s.r ≤ 1000; omega)⟩
              · have e4 : m.row (kw b ++ [t]) = m.step (s.R b) t := by rw [Mac.row_snoc, h.R hb]
                have := d3 i hi
                rw [e4] at this
                exact this)
            rw [Mac.row_snoc]
            exact e }
theorem Pass1.dot2 (c : Cap2 Z D N E M A B) (f : MFit m D N E M A B) (hn : m.n ≤ Z) (hk : m.k ≤ 100) (k0 : 0 < m.k) (h : Pass1 m ws s kw) (w : List Nat) (hw : Word m.k w) (hl : w.length ≤ Z) : m_dot [rL s.r ((m.less s).turn.row w), rT s.r (m.less s).F] = .ok (fr ((m.less s).turn.wt w), false) := by
  have L2 := h.second c f hn hk k0
  have hr := h.r_le
  have hZ := c.Z1
  obtain ⟨D0, N0, d1, d2, d3⟩ := h.pfit c f hn hk k0 h.I.w0
  have cp : Cap s.r (D * E ^ (Z + w.length) * A) (capS2 Z N M B w.length) D0 N0 := by
    have CK := L2.CK w hl
    exact ⟨Nat.lt_of_le_of_lt (Nat.mul_le_mul (Nat.mul_le_mul CK d1) (Nat.mul_le_mul CK d1)) c.c2, Nat.lt_of_le_of_lt (L2.mono w.length Z hl (Nat.le_refl _)) (up180 c.s2), Nat.lt_of_le_of_lt d2 (up180 (Pass1.small1 c)), lt1000 (by omega)⟩
  exact dot_ok (n := s.r) (xs := []) (rL_sq _ _) (rT_sq _ _) (fun i hi => tabs_get hi) cp (by omega) (fun i hi => L2.fit w hw hl i hi) d3
/-- both passes -/
structure Pass2 (m : Mac) (ws : List (List Nat)) (s : Spn) (kw : Nat → List Nat) (ws2 : List (List Nat)) (s2 : Spn) (kw2 : Nat → List Nat) : Prop where
  p1 : Pass1 m ws s kw
  p2 : Pass1 (m.less s).turn ws2 s2 kw2
  run : m_smallest [macD m] = .ok (macD (m.small s s2), false)
theorem pass2_ok (c : Cap2 Z D N E M A B) (f : MFit m D N E M A B) (hn : m.n ≤ Z) (hk : m.k ≤ 100) (k0 : 0 < m.k) : ∃ ws s kw ws2 s2 kw2, Pass2 m ws s kw ws2 s2 kw2 := by
  obtain ⟨ws, s, kw, p1⟩ := pass1_ok c f hn hk k0
  have hr := p1.r_le
  have hZ := c.Z1
  obtain ⟨ws2, s2, kw2, I2, _, h2⟩ := forwards_ok (p1.second c f hn hk k0).lg (fun w _ hw hl => p1.dot2 c f hn hk k0 w hw hl)
  refine ⟨ws, s, kw, ws2, s2, kw2, p1, ⟨I2, h2⟩, ?_⟩
  have t1 := turned_ok (m := m.less s) (by show s.r ≤ 1000; omega) (show m.k ≤ 1000 by omega)
  have hr2 : s2.r ≤ s.r := Spn.r_le I2.ok
  have t2 := turned_ok (m := (m.less s).turn.less s2) (by show s2.r ≤ 1000; omega) (show m.k ≤ 1000 by omega)
  refine mir_ret ?_
  unfold b_smallest
  show exSs fuel _ [.sh (macD m), .no] = _
  have h1 := p1.run
  rw [ss_go (S1 := [.sh (macD m), .sh (macD (m.less s))]) (by simp [exS, evE, evEs, args1, hasBo, h1, evSub])]
  simp [exSs, exS, evE, evEs, args1, hasBo, t1, h2, evSub, t2]
  rfl
end
section
variable {m : Mac} {ws ws2 : List (List Nat)} {s s2 : Spn} {kw kw2 : Nat → List Nat}
theorem Pass2.wt (h : Pass2 m ws s kw ws2 s2 kw2) (w : List Nat) (hw : Word m.k w) : (m.small s s2).wt w = m.wt w := small_wt h.p1.closed h.p2.closed w hw
theorem Pass2.least (h : Pass2 m ws s kw ws2 s2 kw2) (M : Mac) (hM : ∀ w, Word m.k w → M.wt w = m.wt w) : s2.r ≤ M.n :=
  small_least (kw := kw) (kw2 := kw2) h.p1.closed h.p2.closed (fun i hi => ⟨h.p1.word hi, h.p1.R hi⟩) (fun i hi => ⟨h.p2.word hi, h.p2.R hi⟩) M hM
theorem Pass2.rank (h : Pass2 m ws s kw ws2 s2 kw2) : m_rank [macD m] = .ok (.int s2.r, false) := by
  have h1 := h.run
  have h2 : evSub (macD (m.small s s2)) (.int 0) = .ok (rT s2.r (m.small s s2).F, .sh) := mac_0 _
  refine mir_ret ?_
  unfold b_rank
  show exSs fuel _ [.sh (macD m)] = _
  simp [exSs, exS, evE, evEs, args1, hasBo, h1, h2, rT_len]
end
end MP
set_option Elab.async false
set_option linter.all false
set_option maxRecDepth 100000
set_option maxHeartbeats 4000000
namespace WM
namespace Spn
theorem put_rest_lo (s : Spn) (v : Nat → Rat) (q : Nat) (u : Nat → Rat) : ∀ i, i ≤ s.r → (s.put v q).rest u i = s.rest u i
  | 0, _ => rfl
  | i + 1, h => by
    funext k
    show (s.put v q).rest u i k - (s.put v q).rest u i (if i = s.r then q else s.p i) / (if i = s.r then s.rest v s.r else s.b i) (if i = s.r then q else s.p i) * (if i = s.r then s.rest v s.r else s.b i) k = _
    rw [if_neg (by omega), if_neg (by omega), put_rest_lo s v q u i (by omega)]; rfl
theorem put_rest_hi (s : Spn) (v : Nat → Rat) (q : Nat) (u : Nat → Rat) (k : Nat) : (s.put v q).rest u (s.r + 1) k = s.rest u s.r k - s.rest u s.r q / s.rest v s.r q * s.rest v s.r k := by
  show (s.put v q).rest u s.r k - (s.put v q).rest u s.r (if s.r = s.r then q else s.p s.r) / (if s.r = s.r then s.rest v s.r else s.b s.r) (if s.r = s.r then q else s.p s.r) * (if s.r = s.r then s.rest v s.r else s.b s.r) k = _
  rw [if_pos rfl, if_pos rfl, put_rest_lo s v q u s.r (Nat.le_refl _)]
theorem put_fac (s : Spn) (v : Nat → Rat) (q : Nat) (u : Nat → Rat) : (s.put v q).fac u s.r = s.rest u s.r q / s.rest v s.r q := by
  show (s.put v q).rest u s.r (if s.r = s.r then q else s.p s.r) / (if s.r = s.r then s.rest v s.r else s.b s.r) (if s.r = s.r then q else s.p s.r) = _
  rw [if_pos rfl, if_pos rfl, put_rest_lo s v q u s.r (Nat.le_refl _)]
end Spn
end WM
namespace MP
open PySem PySem.Spec PyProof.Rows L2 WM
noncomputable def b_law_over : List MS := [.ife (.cmp .lt (.sub (.loc 0) (.int 0)) (.int 0)) [.ret (.tup [(.bin .sub (.int 0) (.sub (.loc 0) (.int 1))), (.bin .sub (.int 0) (.sub (.loc 0) (.int 0)))])] [], .ret (.tup [(.sub (.loc 0) (.int 1)), (.sub (.loc 0) (.int 0))])]
noncomputable def m_law_over : Fn := mirror 1 fuel b_law_over
noncomputable def ce_law_rank_1 : ME := (.blt .list [(.loc 9)])
noncomputable def c_law_rank_1 : ME := .comp ce_law_rank_1 9 .val [(.loc 0)]
noncomputable def ce_law_rank_2 : ME := (.loc 6)
noncomputable def cc_law_rank_2 : ME := (.cmp .ne (.sub (.sub (.sub (.loc 1) (.loc 6)) (.loc 3)) (.int 0)) (.int 0))
noncomputable def c_law_rank_2 : ME := .compIf ce_law_rank_2 6 .range2 [(.loc 2), (.blt .len [(.loc 1)])] cc_law_rank_2
noncomputable def ce_law_rank_3 : ME := (.call "_law_plus" m_law_plus [(.sub (.sub (.loc 1) (.loc 6)) (.loc 10)), (.call "_law_times" m_law_times [(.loc 8), (.sub (.loc 5) (.loc 10))])])
noncomputable def c_law_rank_3 : ME := .comp ce_law_rank_3 10 .range1 [(.blt .len [(.loc 5)])]
noncomputable def wb_law_rank_1 : List MS := [.ife (.cmp .ne (.sub (.sub (.sub (.loc 1) (.loc 6)) (.loc 3)) (.int 0)) (.int 0)) [.set 7 (.call "_law_times" m_law_times [(.sub (.sub (.loc 1) (.loc 6)) (.loc 3)), (.call "_law_over" m_law_over [(.sub (.loc 5) (.loc 3))])]), .set 8 (.tup [(.bin .sub (.int 0) (.sub (.loc 7) (.int 0))), (.sub (.loc 7) (.int 1))]), .sto 1 (.loc 6) c_law_rank_3] []]
noncomputable def w_law_rank_1 : MS := .forI 6 .range2 [(.bin .add (.loc 2) (.int 1)), (.blt .len [(.loc 1)])] wb_law_rank_1
noncomputable def wb_law_rank_2 : List MS := [.set 4 c_law_rank_2, .ife (.cmp .gt (.blt .len [(.loc 4)]) (.int 0)) [.spop 5 1 (.sub (.loc 4) (.int 0)), .ins 1 (.loc 2) (.loc 5), w_law_rank_1, .set 2 (.bin .add (.loc 2) (.int 1))] []]
noncomputable def w_law_rank_2 : MS := .forI 3 .range1 [(.ife (.cmp .gt (.blt .len [(.loc 1)]) (.int 0)) (.blt .len [(.sub (.loc 1) (.int 0))]) (.int 0))] wb_law_rank_2
noncomputable def b_law_rank : List MS := [.own 1 c_law_rank_1, .set 2 (.int 0), w_law_rank_2, .ret (.loc 2)]
noncomputable def m_law_rank : Fn := mirror 11 fuel b_law_rank
noncomputable def ce_law_in_span_1 : ME := (.loc 2)
noncomputable def cc_law_in_span_1 : ME := (.cmp .ne (.sub (.loc 2) (.int 0)) (.int 0))
noncomputable def c_law_in_span_1 : ME := .compIf ce_law_in_span_1 2 .val [(.loc 1)] cc_law_in_span_1
noncomputable def b_law_in_span : List MS := [.ife (.cmp .eq (.blt .len [(.loc 0)]) (.int 0)) [.ret (.cmp .eq (.blt .len [c_law_in_span_1]) (.int 0))] [], .ret (.cmp .eq (.call "_law_rank" m_law_rank [(.bin .add (.loc 0) (.lst [(.loc 1)]))]) (.call "_law_rank" m_law_rank [(.loc 0)]))]
noncomputable def m_law_in_span : Fn := mirror 3 fuel b_law_in_span
noncomputable def ce_law_both_1 : ME := (.tup [(.bin .sub (.int 0) (.sub (.loc 3) (.int 0))), (.sub (.loc 3) (.int 1))])
noncomputable def c_law_both_1 : ME := .comp ce_law_both_1 3 .val [(.sub (.loc 1) (.int 2))]
noncomputable def b_law_both : List MS := [.set 2 (.blt .tuple [c_law_both_1]), .ret (.call "_law_beside" m_law_beside [(.loc 0), (.tup [(.sub (.loc 1) (.int 0)), (.sub (.loc 1) (.int 1)), (.loc 2)])])]
noncomputable def m_law_both : Fn := mirror 4 fuel b_law_both
noncomputable def ce_law_shown_1 : ME := (.blt .list [(.loc 5)])
noncomputable def c_law_shown_1 : ME := .comp ce_law_shown_1 5 .val [(.loc 2)]
noncomputable def wb_law_shown_1 : List MS := [.ife (.not (.call "_law_in_span" m_law_in_span [(.loc 4), (.call "_law_led" m_law_led [(.loc 5), (.loc 6)])])) [.ret (.bl false)] []]
noncomputable def w_law_shown_1 : MS := .forI 6 .val [(.sub (.loc 3) (.int 1))] wb_law_shown_1
noncomputable def wb_law_shown_2 : List MS := [.ife (.cmp .ne (.sub (.call "_law_dot" m_law_dot [(.loc 5), (.sub (.loc 3) (.int 2))]) (.int 0)) (.int 0)) [.ret (.bl false)] [], w_law_shown_1]
noncomputable def w_law_shown_2 : MS := .forI 5 .val [(.loc 4)] wb_law_shown_2
noncomputable def b_law_shown : List MS := [.set 3 (.call "_law_both" m_law_both [(.loc 0), (.loc 1)]), .set 4 c_law_shown_1, .ife (.not (.call "_law_in_span" m_law_in_span [(.loc 4), (.blt .list [(.sub (.loc 3) (.int 0))])])) [.ret (.bl false)] [], w_law_shown_2, .ret (.bl true)]
noncomputable def m_law_shown : Fn := mirror 7 fuel b_law_shown
theorem inv_fr {q : Rat} (h : q ≠ 0) : m_law_over [fr q] = .ok (fr (1 / q), false) := by
  have hn : q.num ≠ 0 := fun e => h (num0.mp e)
  have e1 : (1 / q).num = q.num.sign * q.den := by rw [show 1 / q = q⁻¹ by grind]; exact Rat.num_inv q
  have e2 : (1 / q).den = q.num.natAbs := by rw [show 1 / q = q⁻¹ by grind, Rat.den_inv, if_neg hn]
  have e3 : fr (1 / q) = .tup [.int (q.num.sign * q.den), .int (q.num.natAbs : Int)] := by unfold fr; rw [e1, e2]
  rw [e3]
  refine mir_ret ?_
  unfold b_law_over
  show exSs fuel _ [.sh (fr q)] = _
  rcases Int.lt_or_gt_of_ne hn with hl | hl
  · rw [Int.sign_eq_neg_one_of_neg hl, show (-1 : Int) * (q.den : Int) = 0 - (q.den : Int) by omega, show (q.num.natAbs : Int) = 0 - q.num by omega]
    have hc : evCmp .lt (.int q.num) (.int 0) = .ok (.bl true, .sh) := by
      show Res.ok (MP.D.bl (decide (q.num < 0)), Kd.sh) = _
      rw [decide_eq_true hl]
    simp [exSs, exS, evE, evEs, args1, hasBo, fr_num, fr_den, hc]
  · rw [Int.sign_eq_one_of_pos hl, Int.one_mul, show (q.num.natAbs : Int) = q.num by omega]
    have hc : evCmp .lt (.int q.num) (.int 0) = .ok (.bl false, .sh) := by
      show Res.ok (MP.D.bl (decide (q.num < 0)), Kd.sh) = _
      rw [decide_eq_false (by omega)]
    simp [exSs, exS, evE, evEs, args1, hasBo, fr_num, fr_den, hc]
theorem Sml.inv {X : Nat} {q : Rat} (h : Sml X q) (h0 : q ≠ 0) : Sml X (1 / q) := by
  have hn : q.num ≠ 0 := fun e => h0 (num0.mp e)
  refine ⟨?_, ?_⟩
  · rw [show 1 / q = q⁻¹ by grind, Rat.den_inv, if_neg hn]; exact h.2
  · rw [show 1 / q = q⁻¹ by grind, Rat.num_inv, Int.natAbs_mul, Int.natAbs_natCast]
    have : q.num.sign.natAbs ≤ 1 := by
      rcases Int.lt_or_gt_of_ne hn with e | e
      · rw [Int.sign_eq_neg_one_of_neg e]; decide
      · rw [Int.sign_eq_one_of_pos e]; decide
    exact Nat.le_trans (Nat.mul_le_mul_right _ this) (by rw [Nat.one_mul]; exact h.1)
theorem ev_call2 {x : Str} {f : Fn} {a b : ME} {S : List SV} {d1 d2 r : D} (h1 : evE a S = .ok (d1, .sh)) (h2 : evE b S = .ok (d2, .sh)) (h3 : f [d1, d2] = .ok (r, false)) : evE (.call x f [a, b]) S = .ok (r, .sh) := by
  simp [evE, evEs, h1, h2, args1, h3, hasBo]
theorem ev_call1 {x : Str} {f : Fn} {a : ME} {S : List SV} {d1 r : D} (h1 : evE a S = .ok (d1, .sh)) (h3 : f [d1] = .ok (r, false)) : evE (.call x f [a]) S = .ok (r, .sh) := by
  simp [evE, evEs, h1, args1, h3, hasBo]
theorem exS_set {n i : Nat} {e : ME} {S : List SV} {d : D} {k : Kd} (h : evE e S = .ok (d, k)) (hk : k ≠ .bo) : exS n (.set i e) S = .nx (S.set i (.sh d)) := by
  rw [exS, h, bindS_ok]
  show (if k = .bo then _ else _) = _
  rw [if_neg hk]
/-! lists with a head that is done -/
theorem mid_get {pre : List D} {l : List (Nat → Rat)} {f1 f2 : (Nat → Rat) → D} {j : Nat} {v : Nat → Rat} (h : l[j]? = some v) : (pre ++ ((l.take j).map f2 ++ (l.drop j).map f1))[pre.length + j]? = some (f1 v) := by
  have hj : j < l.length := by
    apply Classical.byContradiction
    intro z
    rw [List.getElem?_eq_none (by omega)] at h; cases h
  rw [List.getElem?_append_right (by omega), Nat.add_sub_cancel_left, List.getElem?_append_right (by simp; omega)]
  simp [Nat.min_eq_left (Nat.le_of_lt hj), h]
theorem mid_set {pre : List D} {l : List (Nat → Rat)} {f1 f2 : (Nat → Rat) → D} {j : Nat} {v : Nat → Rat} (h : l[j]? = some v) : (pre ++ ((l.take j).map f2 ++ (l.drop j).map f1)).set (pre.length + j) (f2 v) = pre ++ ((l.take (j + 1)).map f2 ++ (l.drop (j + 1)).map f1) := by
  have hj : j < l.length := by
    apply Classical.byContradiction
    intro z
    rw [List.getElem?_eq_none (by omega)] at h; cases h
  have hv : l[j] = v := by
    rw [List.getElem?_eq_getElem hj] at h; exact Option.some.inj h
  have hlt : (l.take j).length = j := by rw [List.length_take]; omega
  rw [List.set_append, if_neg (by omega), Nat.add_sub_cancel_left, List.set_append, List.length_map, hlt, if_neg (by omega), Nat.sub_self, List.drop_eq_getElem_cons hj, hv, List.map_cons, List.set_cons_zero, List.take_succ_eq_append_getElem hj, hv, List.map_append]
  simp
/-- a comprehension that asks: over some numbers -/
theorem comp_filt {i : Nat} {f c : List SV → Res (D × Kd)} {S : List SV} (p : Nat → Bool) (h g : Nat → D) : ∀ (l : List Nat), (∀ j ∈ l, (∃ k, c (S.set i (.sh (h j))) = .ok (.bl (p j), k)) ∧ ∃ k, k ≠ .bo ∧ f (S.set i (.sh (h j))) = .ok (g j, k)) → compC i f c S (l.map h) = .ok ((l.filter p).map g)
  | [], _ => by rw [List.map, compC]; rfl
  | j :: l, hs => by
    obtain ⟨⟨k, e1⟩, k2, hk2, e2⟩ := hs j List.mem_cons_self
    have ih := comp_filt p h g l fun x hx => hs x (List.mem_cons_of_mem _ hx)
    rw [List.map, compC, e1]
    cases hp : p j with
    | true =>
      rw [List.filter_cons_of_pos hp]
      show (match f (S.set i (.sh (h j))) with | .ok r => _ | _ => _) = _
      rw [e2]
      simp only [hk2, if_false]
      rw [ih]; rfl
    | false =>
      rw [List.filter_cons_of_neg (by rw [hp]; exact Bool.false_ne_true)]
      exact ih
theorem items_rng2 {a b : Nat} (h : a ≤ b) (hb : b < 4611686018427387904) : items .range2 [.int a, .int b] = .ok ((List.range (b - a)).map fun i : Nat => D.int ((a + i : Nat) : Int)) := by
  have h1 : (a : Int).natAbs < 4611686018427387904 ∧ (b : Int).natAbs < 4611686018427387904 := by omega
  have h2 : ((b : Int) - a).toNat = b - a := by omega
  simp only [items, h1, and_self, if_true, h2]
  rfl
section
variable {n X : Nat}
/-- the list that is worked on: bases, then what is left of the other rows -/
def basD (n : Nat) (s : Spn) : List D := (List.range s.r).map fun i => rL n (s.b i)
def remD (n : Nat) (s : Spn) (rem : List (Nat → Rat)) : List D := rem.map fun v => rL n (s.rest v s.r)
theorem bas_put (n : Nat) (s : Spn) (v : Nat → Rat) (q : Nat) : basD n (s.put v q) = basD n s ++ [rL n (s.rest v s.r)] := by
  show (List.range (s.r + 1)).map (fun i => rL n (if i = s.r then s.rest v s.r else s.b i)) = _
  rw [List.range_succ, List.map_append, List.map_cons, List.map_nil, if_pos rfl]
  congr 1
  exact List.map_congr_left fun i hi => by rw [if_neg (by have := List.mem_range.mp hi; omega)]
/-- the inner loop: all rows below are cleared at column q -/
theorem rank_inner {s : Spn} {v0 : Nat → Rat} {q : Nat} (h : s.Ok n) (hq : q < n) (h0 : s.rest v0 s.r q ≠ 0) {l : List (Nat → Rat)} (hl : l.length ≤ 1000) (c0 : SCap n s v0 X) (cap : ∀ v ∈ l, SCap n s v X ∧ SCap n (s.put v0 q) v X) (x0 x3 x4 x6 x7 x8 : SV) (hx3 : x3 = .sh (.int q)) :
    ∃ s6 s7 s8, exS fuel w_law_rank_1 [x0, .ow (basD n s ++ (rL n (s.rest v0 s.r) :: remD n s l)), .sh (.int s.r), x3, x4, .sh (rL n (s.rest v0 s.r)), x6, x7, x8, .no, .no] =
      .nx [x0, .ow (basD n (s.put v0 q) ++ remD n (s.put v0 q) l), .sh (.int s.r), x3, x4, .sh (rL n (s.rest v0 s.r)), s6, s7, s8, .no, .no] := by
  subst hx3
  have hrn := Spn.r_le h
  have hn := c0.hn
  have hok := h.put hq h0
  obtain ⟨f1, hf1⟩ : ∃ f1 : (Nat → Rat) → D, (fun v => rL n (s.rest v s.r)) = f1 := ⟨_, rfl⟩
  obtain ⟨f2, hf2⟩ : ∃ f2 : (Nat → Rat) → D, (fun v => rL n ((s.put v0 q).rest v (s.r + 1))) = f2 := ⟨_, rfl⟩
  have g1 : ∀ v, f1 v = rL n (s.rest v s.r) := fun v => by rw [← hf1]
  have g2 : ∀ v, f2 v = rL n ((s.put v0 q).rest v (s.r + 1)) := fun v => by rw [← hf2]
  have eb : basD n s ++ (rL n (s.rest v0 s.r) :: remD n s l) = basD n (s.put v0 q) ++ ((l.take 0).map f2 ++ (l.drop 0).map f1) := by
    rw [bas_put]; simp [remD, hf1]
  have ee : basD n (s.put v0 q) ++ remD n (s.put v0 q) l = basD n (s.put v0 q) ++ ((l.take l.length).map f2 ++ (l.drop l.length).map f1) := by
    simp [remD, ← hf2]
    intro a _
    rfl
  have hpl : (basD n (s.put v0 q)).length = s.r + 1 := by simp [basD, Spn.put]
  rw [eb, ee]
  generalize basD n (s.put v0 q) = pre at *
  obtain ⟨S', l1, s6, s7, s8, l2⟩ := for_tab (f := exSs fuel wb_law_rank_1) (tg := fun S d => some (S.set 6 (.sh d))) (fun j S => ∃ s6 s7 s8, S = [x0, .ow (pre ++ ((l.take j).map f2 ++ (l.drop j).map f1)), .sh (.int s.r), .sh (.int q), x4, .sh (rL n (s.rest v0 s.r)), s6, s7, s8, .no, .no]) (fun i : Nat => MP.D.int ((s.r + 1 + i : Nat) : Int)) (n := l.length)
    (S := [x0, .ow (pre ++ ((l.take 0).map f2 ++ (l.drop 0).map f1)), .sh (.int s.r), .sh (.int q), x4, .sh (rL n (s.rest v0 s.r)), x6, x7, x8, .no, .no]) ⟨x6, x7, x8, rfl⟩ (by
    rintro j S hj ⟨s6, s7, s8, rfl⟩
    obtain ⟨v, hv⟩ : ∃ v, l[j]? = some v := ⟨l[j], List.getElem?_eq_getElem hj⟩
    obtain ⟨cv, cv'⟩ := cap v (List.mem_of_getElem? hv)
    have hX1 : X < 2 ^ 390000 := pow_up cv.one (by decide)
    have hX2 : X * X < 2 ^ 9000 := cv'.two (Nat.succ_pos _)
    have hX2' : X * X < 2 ^ 390000 := pow_up hX2 (by decide)
    have mg := mid_get (pre := pre) (f1 := f1) (f2 := f2) hv
    have ms := mid_set (pre := pre) (f1 := f1) (f2 := f2) hv
    rw [hpl] at mg ms
    have hlen : (pre ++ ((l.take j).map f2 ++ (l.drop j).map f1)).length = s.r + 1 + l.length := by
      rw [List.length_append, hpl]; simp; omega
    generalize hL : pre ++ ((l.take j).map f2 ++ (l.drop j).map f1) = L at *
    have e0 : evSub (.lst L) (.int ((s.r + 1 + j : Nat) : Int)) = .ok (rL n (s.rest v s.r), .sh) := by
      rw [← g1]; exact Sq.sub (.inr rfl) mg
    have e1 : evSub (rL n (s.rest v s.r)) (.int q) = .ok (fr (s.rest v s.r q), .sh) := Sq.sub (.inr rfl) (tabs_get hq)
    have e2 : evSub (rL n (s.rest v0 s.r)) (.int q) = .ok (fr (s.rest v0 s.r q), .sh) := Sq.sub (.inr rfl) (tabs_get hq)
    have hr := cv.rest s.r q (Nat.le_refl _) hq
    have hr0 := c0.rest s.r q (Nat.le_refl _) hq
    by_cases hz : s.rest v s.r q = 0
    · have ef : f2 v = f1 v := by
        rw [g1, g2]
        unfold rL
        congr 1
        exact tabs_congr fun k hk => by rw [Spn.put_rest_hi, hz]; grind
      refine ⟨_, [x0, .ow L, .sh (.int s.r), .sh (.int q), x4, .sh (rL n (s.rest v0 s.r)), .sh (.int ((s.r + 1 + j : Nat) : Int)), s7, s8, .no, .no], rfl, ?_, .sh (.int ((s.r + 1 + j : Nat) : Int)), s7, s8, ?_⟩
      · rw [hz] at e1
        have hc : evE (.cmp .ne (.sub (.sub (.sub (.loc 1) (.loc 6)) (.loc 3)) (.int 0)) (.int 0)) [x0, .ow L, .sh (.int s.r), .sh (.int q), x4, .sh (rL n (s.rest v0 s.r)), .sh (.int ((s.r + 1 + j : Nat) : Int)), s7, s8, .no, .no] = .ok (.bl false, .sh) := by
          simp only [evE, List.getElem?_cons_zero, List.getElem?_cons_succ, Res.bind, e0, e1, fr_num]
          rfl
        rw [wb_law_rank_1]
        show exSs fuel _ [x0, .ow L, .sh (.int s.r), .sh (.int q), x4, .sh (rL n (s.rest v0 s.r)), .sh (.int ((s.r + 1 + j : Nat) : Int)), s7, s8, .no, .no] = _
        rw [ss_go (S1 := [x0, .ow L, .sh (.int s.r), .sh (.int q), x4, .sh (rL n (s.rest v0 s.r)), .sh (.int ((s.r + 1 + j : Nat) : Int)), s7, s8, .no, .no]) (by
          rw [exS, hc, bindS_ok]
          show exSs fuel [] _ = _
          rw [exSs]), exSs]
      · rw [← ms, ef]
        have hlt : s.r + 1 + j < L.length := by omega
        have := List.set_getElem_self hlt
        rw [List.getElem?_eq_getElem hlt] at mg
        rw [Option.some.inj mg] at this
        rw [this]
    · have hfs : Sml X ((s.put v0 q).fac v s.r) := by
        rw [Spn.fac_parts hok v (Nat.lt_succ_self _)]
        exact cv'.parts (s.r + 1) s.r (Nat.le_refl _) (Nat.lt_succ_self _)
      have efac := Spn.put_fac s v0 q v
      obtain ⟨fc, hfc⟩ : ∃ fc, (s.put v0 q).fac v s.r = fc := ⟨_, rfl⟩
      rw [hfc] at hfs efac
      have e3 := inv_fr h0
      have e4 : m_law_times [fr (s.rest v s.r q), fr (1 / s.rest v0 s.r q)] = .ok (fr fc, false) := by
        have t := law_times_ok (s.rest v s.r q) (1 / s.rest v0 s.r q) (hr.sz hX1) ((hr0.inv h0).sz hX1) (Nat.lt_of_le_of_lt (Nat.mul_le_mul hr.1 (hr0.inv h0).1) hX2)
        rw [show s.rest v s.r q * (1 / s.rest v0 s.r q) = fc by rw [efac]; grind] at t
        exact t
      have e5 : evE c_law_rank_3 [x0, .ow L, .sh (.int s.r), .sh (.int q), x4, .sh (rL n (s.rest v0 s.r)), .sh (.int ((s.r + 1 + j : Nat) : Int)), .sh (fr fc), .sh (fr (-fc)), .no, .no] = .ok (f2 v, .fr) := by
        rw [g2, c_law_rank_3, ev_comp (n := n) (rs := [(.int n, .sh)]) (fun j : Nat => MP.D.int j) (fun k => fr ((s.put v0 q).rest v (s.r + 1) k)) (by simp [evEs, evE, args1, rL_len]) (by simp [hasBo]) (by simp only [args1, List.map]; exact items_rng n (by omega)) (by omega) (fun k hk => ⟨.sh, by decide, by
          have t1 : evSub (rL n (s.rest v s.r)) (.int k) = .ok (fr (s.rest v s.r k), .sh) := Sq.sub (.inr rfl) (tabs_get hk)
          have t2 : evSub (rL n (s.rest v0 s.r)) (.int k) = .ok (fr (s.rest v0 s.r k), .sh) := Sq.sub (.inr rfl) (tabs_get hk)
          have h1 := cv.rest s.r k (Nat.le_refl _) hk
          have h2 := c0.rest s.r k (Nat.le_refl _) hk
          have h3 := hfs.neg.mul h2
          have t3 := law_times_ok (-fc) (s.rest v0 s.r k) (hfs.neg.sz hX1) (h2.sz hX1) (Nat.lt_of_le_of_lt (Nat.mul_le_mul hfs.neg.1 h2.1) hX2)
          have t4 := law_plus_ok (s.rest v s.r k) (-fc * s.rest v0 s.r k) (h1.sz hX1) (h3.sz hX2') (Nat.lt_of_le_of_lt (Nat.mul_le_mul h1.1 h3.1) cv.x)
          have t5 : s.rest v s.r k + -fc * s.rest v0 s.r k = (s.put v0 q).rest v (s.r + 1) k := by rw [Spn.put_rest_hi, efac]; grind
          rw [t5] at t4
          rw [ce_law_rank_3]
          refine ev_call2 (d1 := fr (s.rest v s.r k)) (d2 := fr (-fc * s.rest v0 s.r k)) ?_ (ev_call2 (d1 := fr (-fc)) (d2 := fr (s.rest v0 s.r k)) ?_ ?_ t3) t4
          · simp only [evE, List.set, List.getElem?_cons_zero, List.getElem?_cons_succ, Res.bind, e0, t1]
          · simp only [evE, List.set, List.getElem?_cons_zero, List.getElem?_cons_succ]
          · simp only [evE, List.set, List.getElem?_cons_zero, List.getElem?_cons_succ, Res.bind, t2]⟩)]
        rfl
      have hix : ixN L.length ((s.r + 1 + j : Nat) : Int) = some (s.r + 1 + j) := ixN_nat (by omega)
      refine ⟨_, [x0, .ow (L.set (s.r + 1 + j) (f2 v)), .sh (.int s.r), .sh (.int q), x4, .sh (rL n (s.rest v0 s.r)), .sh (.int ((s.r + 1 + j : Nat) : Int)), .sh (fr fc), .sh (fr (-fc)), .no, .no], rfl, ?_, _, _, _, by rw [ms]⟩
      have hzn : (s.rest v s.r q).num ≠ 0 := fun e => hz (num0.mp e)
      have hc : evE (.cmp .ne (.sub (.sub (.sub (.loc 1) (.loc 6)) (.loc 3)) (.int 0)) (.int 0)) [x0, .ow L, .sh (.int s.r), .sh (.int q), x4, .sh (rL n (s.rest v0 s.r)), .sh (.int ((s.r + 1 + j : Nat) : Int)), s7, s8, .no, .no] = .ok (.bl true, .sh) := by
        simp only [evE, List.getElem?_cons_zero, List.getElem?_cons_succ, Res.bind, e0, e1, fr_num, ev_neI]
        rw [decide_eq_false hzn]; rfl
      rw [wb_law_rank_1]
      show exSs fuel _ [x0, .ow L, .sh (.int s.r), .sh (.int q), x4, .sh (rL n (s.rest v0 s.r)), .sh (.int ((s.r + 1 + j : Nat) : Int)), s7, s8, .no, .no] = _
      rw [ss_go (S1 := [x0, .ow (L.set (s.r + 1 + j) (f2 v)), .sh (.int s.r), .sh (.int q), x4, .sh (rL n (s.rest v0 s.r)), .sh (.int ((s.r + 1 + j : Nat) : Int)), .sh (fr fc), .sh (fr (-fc)), .no, .no]) (by
        rw [exS, hc, bindS_ok]
        show exSs fuel _ [x0, .ow L, .sh (.int s.r), .sh (.int q), x4, .sh (rL n (s.rest v0 s.r)), .sh (.int ((s.r + 1 + j : Nat) : Int)), s7, s8, .no, .no] = _
        rw [ss_go (S1 := [x0, .ow L, .sh (.int s.r), .sh (.int q), x4, .sh (rL n (s.rest v0 s.r)), .sh (.int ((s.r + 1 + j : Nat) : Int)), .sh (fr fc), s8, .no, .no]) (by
            refine exS_set (ev_call2 (d1 := fr (s.rest v s.r q)) (d2 := fr (1 / s.rest v0 s.r q)) ?_ (ev_call1 (d1 := fr (s.rest v0 s.r q)) ?_ e3) e4) (by decide)
            · simp only [evE, List.getElem?_cons_zero, List.getElem?_cons_succ, Res.bind, e0, e1]
            · simp only [evE, List.getElem?_cons_zero, List.getElem?_cons_succ, Res.bind, e2]),
          ss_go (S1 := [x0, .ow L, .sh (.int s.r), .sh (.int q), x4, .sh (rL n (s.rest v0 s.r)), .sh (.int ((s.r + 1 + j : Nat) : Int)), .sh (fr fc), .sh (fr (-fc)), .no, .no]) (by
            simp [exS, evE, evEs, args1, hasBo, fr_num, fr_den, ← fr_neg]),
          ss_go (S1 := [x0, .ow (L.set (s.r + 1 + j) (f2 v)), .sh (.int s.r), .sh (.int q), x4, .sh (rL n (s.rest v0 s.r)), .sh (.int ((s.r + 1 + j : Nat) : Int)), .sh (fr fc), .sh (fr (-fc)), .no, .no]) (by
            rw [exS, e5, bindS_ok]
            simp only [List.getElem?_cons_zero, List.getElem?_cons_succ, evE, bindS_ok, hix]
            rfl), exSs]), exSs])
  subst l2
  refine ⟨s6, s7, s8, ?_⟩
  have hlen : (pre ++ ((l.take 0).map f2 ++ (l.drop 0).map f1)).length = s.r + 1 + l.length := by
    rw [List.length_append, hpl]; simp
  have hi := items_rng2 (a := s.r + 1) (b := s.r + 1 + l.length) (by omega) (by omega)
  rw [show s.r + 1 + l.length - (s.r + 1) = l.length by omega] at hi
  generalize pre ++ ((l.take 0).map f2 ++ (l.drop 0).map f1) = L at *
  rw [w_law_rank_1, exS]
  have ev : evI .range2 [(.bin .add (.loc 2) (.int 1)), (.blt .len [(.loc 1)])] [x0, .ow L, .sh (.int s.r), .sh (.int q), x4, .sh (rL n (s.rest v0 s.r)), x6, x7, x8, .no, .no] = .ok ((List.range l.length).map fun i : Nat => MP.D.int ((s.r + 1 + i : Nat) : Int)) := by
    rw [← hi]
    simp [evI, evEs, evE, args1, hasBo, evBlt, hlen]
  rw [ev, bindS_ok]
  exact l1
end
end MP
set_option Elab.async false
set_option linter.all false
set_option maxRecDepth 100000
set_option maxHeartbeats 4000000
namespace MP
open PySem PySem.Spec PyProof.Rows L2 WM
theorem ev_compIf {elt c : ME} {i : Nat} {k : IK} {es : List ME} {S : List SV} {rs : List (D × Kd)} {xs ds : List D} (h1 : evEs es S = .ok rs) (h2 : hasBo rs = false) (h3 : items k (args1 rs) = .ok xs) (h4 : xs.length ≤ 16777216) (h5 : compC i (evE elt) (evE c) S xs = .ok ds) : evE (.compIf elt i k es c) S = .ok (.lst ds, .fr) := by
  rw [evE, h1]
  simp only [Res.bind, h2, h3, h4, h5]
  rfl
theorem ev_compM {elt : ME} {i : Nat} {k : IK} {es : List ME} {S : List SV} {rs : List (D × Kd)} {xs ds : List D} (h1 : evEs es S = .ok rs) (h2 : hasBo rs = false) (h3 : items k (args1 rs) = .ok xs) (h4 : xs.length ≤ 16777216) (h5 : compL i (evE elt) S xs = .ok ds) : evE (.comp elt i k es) S = .ok (.lst ds, .fr) := by
  rw [evE, h1]
  simp only [Res.bind, h2, h3, h4, h5]
  rfl
structure RInv (n : Nat) (rows : List (Nat → Rat)) (q : Nat) (s : Spn) (rem : List (Nat → Rat)) : Prop where
  ok : s.Ok n
  sub : ∀ i, i < s.r → s.R i ∈ rows
  remsub : ∀ v, v ∈ rem → v ∈ rows
  cov : ∀ v, v ∈ rows → v ∈ rem ∨ ∃ i, i < s.r ∧ s.R i = v
  zero : ∀ v, v ∈ rem → ∀ c, c < q → s.rest v s.r c = 0
  len : s.r + rem.length = rows.length
theorem list_split {α : Type} {l : List α} {j : Nat} {v : α} (h : l[j]? = some v) : ∃ l1 l2, l = l1 ++ v :: l2 ∧ l1.length = j := by
  have hj : j < l.length := by
    apply Classical.byContradiction
    intro z
    rw [List.getElem?_eq_none (by omega)] at h; cases h
  refine ⟨l.take j, l.drop (j + 1), ?_, by rw [List.length_take]; omega⟩
  have hv : l[j] = v := by
    rw [List.getElem?_eq_getElem hj] at h; exact Option.some.inj h
  rw [← hv, ← List.drop_eq_getElem_cons hj, List.take_append_drop]
section
variable {n X : Nat} {rows : List (Nat → Rat)}
/-- one column -/
theorem rank_col {q : Nat} {s : Spn} {rem : List (Nat → Rat)} (I : RInv n rows q s rem) (hn : n ≤ 1000) (hq : q < n) (hlen : rows.length ≤ 1000) (cap : ∀ s : Spn, s.Ok n → (∀ i, i < s.r → s.R i ∈ rows) → ∀ v ∈ rows, SCap n s v X) (x0 x4 x5 x6 x7 x8 : SV) :
    ∃ s' rem' s4 s5 s6 s7 s8, RInv n rows (q + 1) s' rem' ∧ exSs fuel wb_law_rank_2 [x0, .ow (basD n s ++ remD n s rem), .sh (.int s.r), .sh (.int q), x4, x5, x6, x7, x8, .no, .no] = .nx [x0, .ow (basD n s' ++ remD n s' rem'), .sh (.int s'.r), .sh (.int q), s4, s5, s6, s7, s8, .no, .no] := by
  have hrn := Spn.r_le I.ok
  have hL := I.len
  have hbl : (basD n s).length = s.r := by simp [basD]
  have hrl : (remD n s rem).length = rem.length := by simp [remD]
  obtain ⟨p, hp⟩ : ∃ p : Nat → Bool, p = fun j => match rem[j]? with | some v => !decide (s.rest v s.r q = 0) | none => false := ⟨_, rfl⟩
  have pv : ∀ j v, rem[j]? = some v → p j = !decide (s.rest v s.r q = 0) := fun j v h => by rw [hp]; simp only [h]
  have get : ∀ j v, rem[j]? = some v → evSub (.lst (basD n s ++ remD n s rem)) (.int ((s.r + j : Nat) : Int)) = .ok (rL n (s.rest v s.r), .sh) := fun j v h => Sq.sub (.inr rfl) (by
    rw [List.getElem?_append_right (by omega), hbl, Nat.add_sub_cancel_left]
    simp [remD, h])
  have e1 : evE c_law_rank_2 [x0, .ow (basD n s ++ remD n s rem), .sh (.int s.r), .sh (.int q), x4, x5, x6, x7, x8, .no, .no] = .ok (.lst (((List.range rem.length).filter p).map fun i : Nat => MP.D.int ((s.r + i : Nat) : Int)), .fr) := by
    have hi := items_rng2 (a := s.r) (b := s.r + rem.length) (by omega) (by omega)
    rw [show s.r + rem.length - s.r = rem.length by omega] at hi
    have hc := comp_filt (i := 6) (f := evE ce_law_rank_2) (c := evE cc_law_rank_2) (S := [x0, .ow (basD n s ++ remD n s rem), .sh (.int s.r), .sh (.int q), x4, x5, x6, x7, x8, .no, .no]) p (fun i : Nat => MP.D.int ((s.r + i : Nat) : Int)) (fun i : Nat => MP.D.int ((s.r + i : Nat) : Int)) (List.range rem.length) (fun j hj => by
      have hj := List.mem_range.mp hj
      obtain ⟨v, hv⟩ : ∃ v, rem[j]? = some v := ⟨rem[j], List.getElem?_eq_getElem hj⟩
      have g := get j v hv
      have t1 : evSub (rL n (s.rest v s.r)) (.int q) = .ok (fr (s.rest v s.r q), .sh) := Sq.sub (.inr rfl) (tabs_get hq)
      refine ⟨⟨.sh, ?_⟩, .sh, by decide, by simp [ce_law_rank_2, evE]⟩
      rw [pv j v hv]
      simp only [cc_law_rank_2, evE, List.set, List.getElem?_cons_zero, List.getElem?_cons_succ, Res.bind, g, t1, fr_num, ev_neI]
      congr 3
      congr 1
      exact decide_eq_decide.mpr num0)
    have ei : evEs [(.loc 2), (.blt .len [(.loc 1)])] [x0, .ow (basD n s ++ remD n s rem), .sh (.int s.r), .sh (.int q), x4, x5, x6, x7, x8, .no, .no] = .ok [(.int s.r, .sh), (.int ((s.r + rem.length : Nat) : Int), .sh)] := by
      simp [evEs, evE, args1, evBlt, hbl, hrl]
    have hb : hasBo [((.int s.r : MP.D), Kd.sh), (.int ((s.r + rem.length : Nat) : Int), .sh)] = false := by simp [hasBo]
    have hl : ((List.range rem.length).map fun i : Nat => MP.D.int ((s.r + i : Nat) : Int)).length ≤ 16777216 := by simp; omega
    rw [c_law_rank_2]
    exact ev_compIf ei hb hi hl hc
  have e1' : exS fuel (.set 4 c_law_rank_2) [x0, .ow (basD n s ++ remD n s rem), .sh (.int s.r), .sh (.int q), x4, x5, x6, x7, x8, .no, .no] = .nx [x0, .ow (basD n s ++ remD n s rem), .sh (.int s.r), .sh (.int q), .sh (.lst (((List.range rem.length).filter p).map fun i : Nat => MP.D.int ((s.r + i : Nat) : Int))), x5, x6, x7, x8, .no, .no] := exS_set e1 (by decide)
  cases hfl : (List.range rem.length).filter p with
  | nil =>
    rw [hfl, List.map_nil] at e1'
    refine ⟨s, rem, .sh (.lst []), x5, x6, x7, x8, ⟨I.ok, I.sub, I.remsub, I.cov, fun v hv c hc => ?_, I.len⟩, ?_⟩
    · by_cases e : c = q
      · subst e
        obtain ⟨j, hj⟩ := List.getElem?_of_mem hv
        have hjl : j < rem.length := by
          apply Classical.byContradiction
          intro z
          rw [List.getElem?_eq_none (by omega)] at hj; cases hj
        have := List.filter_eq_nil_iff.mp hfl j (List.mem_range.mpr hjl)
        rw [pv j v hj] at this
        simpa using this
      · exact I.zero v hv c (by omega)
    · rw [wb_law_rank_2, ss_go e1', ss_go (S1 := [x0, .ow (basD n s ++ remD n s rem), .sh (.int s.r), .sh (.int q), .sh (.lst []), x5, x6, x7, x8, .no, .no]) (by simp [exSs, exS, evE, evEs, args1, evBlt, evCmp]), exSs]
  | cons j0 tl =>
    rw [hfl, List.map_cons] at e1'
    have hj0 : j0 ∈ (List.range rem.length).filter p := by rw [hfl]; exact List.mem_cons_self
    obtain ⟨h1, h2⟩ := List.mem_filter.mp hj0
    have hjl := List.mem_range.mp h1
    obtain ⟨v0, hv0⟩ : ∃ v, rem[j0]? = some v := ⟨rem[j0], List.getElem?_eq_getElem hjl⟩
    rw [pv j0 v0 hv0] at h2
    have h0 : s.rest v0 s.r q ≠ 0 := by simpa using h2
    obtain ⟨l1, l2, hrem, hl1⟩ := list_split hv0
    have hv0m : v0 ∈ rows := I.remsub v0 (List.mem_of_getElem? hv0)
    have lsub : ∀ v, v ∈ l1 ++ l2 → v ∈ rows := fun v hv => I.remsub v (by
      rw [hrem]
      rcases List.mem_append.mp hv with z | z
      · exact List.mem_append_left _ z
      · exact List.mem_append_right _ (List.mem_cons_of_mem _ z))
    have hok := I.ok.put hq h0
    have hsub : ∀ i, i < (s.put v0 q).r → (s.put v0 q).R i ∈ rows := fun i hi => by
      show (if i = s.r then v0 else s.R i) ∈ rows
      split
      · exact hv0m
      · exact I.sub i (by have : i < s.r + 1 := hi; omega)
    have hll : (l1 ++ l2).length + 1 = rem.length := by rw [hrem]; simp; omega
    obtain ⟨s6, s7, s8, e2⟩ := rank_inner I.ok hq h0 (l := l1 ++ l2) (by omega) (cap s I.ok I.sub v0 hv0m) (fun v hv => ⟨cap s I.ok I.sub v (lsub v hv), cap _ hok hsub v (lsub v hv)⟩) x0 (.sh (.int q)) (.sh (.lst (MP.D.int ((s.r + j0 : Nat) : Int) :: tl.map fun i : Nat => MP.D.int ((s.r + i : Nat) : Int)))) x6 x7 x8 rfl
    refine ⟨s.put v0 q, l1 ++ l2, .sh (.lst (MP.D.int ((s.r + j0 : Nat) : Int) :: tl.map fun i : Nat => MP.D.int ((s.r + i : Nat) : Int))), .sh (rL n (s.rest v0 s.r)), s6, s7, s8, ⟨hok, hsub, lsub, fun v hv => ?_, fun v hv c hc => ?_, ?_⟩, ?_⟩
    · rcases I.cov v hv with h | ⟨i, hi, h⟩
      · rw [hrem] at h
        rcases List.mem_append.mp h with z | z
        · exact .inl (List.mem_append_left _ z)
        · rcases List.mem_cons.mp z with y | y
          · exact .inr ⟨s.r, Nat.lt_succ_self _, by show (if s.r = s.r then v0 else s.R s.r) = v; rw [if_pos rfl, y]⟩
          · exact .inl (List.mem_append_right _ y)
      · exact .inr ⟨i, Nat.lt_succ_of_lt hi, by show (if i = s.r then v0 else s.R i) = v; rw [if_neg (by omega), h]⟩
    · have hvr : v ∈ rem := by
        rw [hrem]
        rcases List.mem_append.mp hv with z | z
        · exact List.mem_append_left _ z
        · exact List.mem_append_right _ (List.mem_cons_of_mem _ z)
      show (s.put v0 q).rest v (s.r + 1) c = 0
      rw [Spn.put_rest_hi]
      by_cases e : c = q
      · subst e; grind
      · rw [I.zero v hvr c (by omega), I.zero v0 (List.mem_of_getElem? hv0) c (by omega)]; grind
    · show s.r + 1 + (l1 ++ l2).length = rows.length
      omega
    · have eL : basD n s ++ remD n s rem = (basD n s ++ remD n s l1) ++ (rL n (s.rest v0 s.r) :: remD n s l2) := by
        rw [hrem]; simp [remD]
      have hpre : (basD n s ++ remD n s l1).length = s.r + j0 := by
        rw [List.length_append, hbl]; simp [remD, hl1]
      have eG : ((basD n s ++ remD n s l1) ++ (rL n (s.rest v0 s.r) :: remD n s l2))[s.r + j0]? = some (rL n (s.rest v0 s.r)) := by
        rw [List.getElem?_append_right (by omega), hpre, Nat.sub_self]; rfl
      have eE : ((basD n s ++ remD n s l1) ++ (rL n (s.rest v0 s.r) :: remD n s l2)).eraseIdx (s.r + j0) = basD n s ++ remD n s (l1 ++ l2) := by
        rw [List.eraseIdx_append_of_length_le (by omega), hpre, Nat.sub_self, List.eraseIdx_cons_zero]
        simp [remD]
      have hlenL : ((basD n s ++ remD n s l1) ++ (rL n (s.rest v0 s.r) :: remD n s l2)).length ≤ 16777216 := by
        rw [← eL, List.length_append, hbl, hrl]; omega
      have hlen2 : (basD n s ++ remD n s (l1 ++ l2)).length < 16777216 := by
        rw [List.length_append, hbl]
        simp only [remD, List.length_map]
        omega
      have eT : (basD n s ++ remD n s (l1 ++ l2)).take s.r ++ [rL n (s.rest v0 s.r)] ++ (basD n s ++ remD n s (l1 ++ l2)).drop s.r = basD n s ++ (rL n (s.rest v0 s.r) :: remD n s (l1 ++ l2)) := by
        rw [List.take_left' hbl, List.drop_left' hbl]; simp
      rw [wb_law_rank_2, ss_go e1']
      have hpos : (0 : Int) ≤ ((s.r + j0 : Nat) : Int) := by omega
      have hx : exSs fuel [.spop 5 1 (.sub (.loc 4) (.int 0)), .ins 1 (.loc 2) (.loc 5), w_law_rank_1, .set 2 (.bin .add (.loc 2) (.int 1))] [x0, .ow (basD n s ++ remD n s rem), .sh (.int s.r), .sh (.int q), .sh (.lst (MP.D.int ((s.r + j0 : Nat) : Int) :: tl.map fun i : Nat => MP.D.int ((s.r + i : Nat) : Int))), x5, x6, x7, x8, .no, .no] = .nx [x0, .ow (basD n (s.put v0 q) ++ remD n (s.put v0 q) (l1 ++ l2)), .sh (.int (s.r + 1 : Nat)), .sh (.int q), .sh (.lst (MP.D.int ((s.r + j0 : Nat) : Int) :: tl.map fun i : Nat => MP.D.int ((s.r + i : Nat) : Int))), .sh (rL n (s.rest v0 s.r)), s6, s7, s8, .no, .no] := by
        rw [ss_go (S1 := [x0, .ow (basD n s ++ remD n s (l1 ++ l2)), .sh (.int s.r), .sh (.int q), .sh (.lst (MP.D.int ((s.r + j0 : Nat) : Int) :: tl.map fun i : Nat => MP.D.int ((s.r + i : Nat) : Int))), .sh (rL n (s.rest v0 s.r)), x6, x7, x8, .no, .no]) (by
            have ek : evE (.sub (.loc 4) (.int 0)) [x0, .ow (basD n s ++ remD n s rem), .sh (.int s.r), .sh (.int q), .sh (.lst (MP.D.int ((s.r + j0 : Nat) : Int) :: tl.map fun i : Nat => MP.D.int ((s.r + i : Nat) : Int))), x5, x6, x7, x8, .no, .no] = .ok (.int ((s.r + j0 : Nat) : Int), .sh) := by simp [evE, evSub]
            rw [exS]
            simp only [List.getElem?_cons_zero, List.getElem?_cons_succ, ek, bindS_ok]
            rw [if_pos ⟨hpos, by rw [eL]; exact hlenL⟩, eL, Int.toNat_natCast, eG, eE]
            rfl),
          ss_go (S1 := [x0, .ow (basD n s ++ (rL n (s.rest v0 s.r) :: remD n s (l1 ++ l2))), .sh (.int s.r), .sh (.int q), .sh (.lst (MP.D.int ((s.r + j0 : Nat) : Int) :: tl.map fun i : Nat => MP.D.int ((s.r + i : Nat) : Int))), .sh (rL n (s.rest v0 s.r)), x6, x7, x8, .no, .no]) (by
            rw [exS]
            simp only [List.getElem?_cons_zero, List.getElem?_cons_succ, evE, bindS_ok]
            rw [if_neg (by decide), if_pos ⟨hlen2, by omega, by omega⟩, Int.toNat_natCast, eT]
            rfl),
          ss_go e2]
        simp [exSs, exS, evE]
      have hgt : evE (.cmp .gt (.blt .len [(.loc 4)]) (.int 0)) [x0, .ow (basD n s ++ remD n s rem), .sh (.int s.r), .sh (.int q), .sh (.lst (MP.D.int ((s.r + j0 : Nat) : Int) :: tl.map fun i : Nat => MP.D.int ((s.r + i : Nat) : Int))), x5, x6, x7, x8, .no, .no] = .ok (.bl true, .sh) := by
        simp [evE, evEs, args1, evBlt, evCmp]
        skip
      rw [ss_go (S1 := [x0, .ow (basD n (s.put v0 q) ++ remD n (s.put v0 q) (l1 ++ l2)), .sh (.int (s.r + 1 : Nat)), .sh (.int q), .sh (.lst (MP.D.int ((s.r + j0 : Nat) : Int) :: tl.map fun i : Nat => MP.D.int ((s.r + i : Nat) : Int))), .sh (rL n (s.rest v0 s.r)), s6, s7, s8, .no, .no]) (by rw [exS, hgt, bindS_ok]; exact hx), exSs]
      rfl
def rowsL (n : Nat) (rows : List (Nat → Rat)) : D := .lst (rows.map fun v => rL n v)
/-- the law's rank -/
theorem law_rank_ok (hn : n ≤ 1000) (hlen : rows.length ≤ 1000) (cap : ∀ s : Spn, s.Ok n → (∀ i, i < s.r → s.R i ∈ rows) → ∀ v ∈ rows, SCap n s v X) :
    ∃ s : Spn, s.Ok n ∧ (∀ i, i < s.r → s.R i ∈ rows) ∧ (∀ v ∈ rows, ∃ c : Nat → Rat, ∀ k, k < n → v k = s.sum s.r c k) ∧ m_law_rank [rowsL n rows] = .ok (.int s.r, false) := by
  have e0 : evE c_law_rank_1 [.sh (rowsL n rows), .no, .no, .no, .no, .no, .no, .no, .no, .no, .no] = .ok (rowsL n rows, .fr) := by
    have hc := comp_map (i := 9) (f := evE ce_law_rank_1) (S := [.sh (rowsL n rows), .no, .no, .no, .no, .no, .no, .no, .no, .no, .no]) id (rows.map fun v => rL n v) (fun x hx => by
      obtain ⟨v, _, rfl⟩ := List.mem_map.mp hx
      exact ⟨.fr, by decide, by simp [ce_law_rank_1, evE, evEs, args1, evBlt, rL]⟩)
    have hl : (rows.map fun v => rL n v).length ≤ 16777216 := by rw [List.length_map]; omega
    rw [List.map_id] at hc
    rw [c_law_rank_1]
    exact ev_compM (rs := [(rowsL n rows, .sh)]) (by simp [evEs, evE]) (by simp [hasBo]) rfl hl hc
  have g1 : exS fuel (.own 1 c_law_rank_1) [.sh (rowsL n rows), .no, .no, .no, .no, .no, .no, .no, .no, .no, .no] = .nx [.sh (rowsL n rows), .ow (rows.map fun v => rL n v), .no, .no, .no, .no, .no, .no, .no, .no, .no] := by
    rw [exS, e0]; rfl
  have start : basD n Spn.empty ++ remD n Spn.empty rows = rows.map fun v => rL n v := by
    show [] ++ _ = _
    rfl
  by_cases hr : rows = []
  · refine ⟨Spn.empty, Spn.Ok.empty n, fun i hi => absurd hi (Nat.not_lt_zero i), fun v hv => (by rw [hr] at hv; cases hv), ?_⟩
    subst hr
    refine mir_ret ?_
    unfold b_law_rank
    show exSs fuel _ [.sh (rowsL n []), .no, .no, .no, .no, .no, .no, .no, .no, .no, .no] = _
    rw [ss_go g1]
    simp [exSs, exS, evE, w_law_rank_2, evI, evEs, args1, evBlt, evCmp, hasBo, items, forL]
    rfl
  · have I0 : RInv n rows 0 Spn.empty rows := ⟨Spn.Ok.empty n, fun i hi => absurd hi (Nat.not_lt_zero i), fun v hv => hv, fun v hv => .inl hv, fun v hv c hc => absurd hc (Nat.not_lt_zero c), Nat.zero_add _⟩
    obtain ⟨S', l1, s, rem, s3, s4, s5, s6, s7, s8, I, l2⟩ := for_rng (f := exSs fuel wb_law_rank_2) (tg := fun S d => some (S.set 3 (.sh d))) (fun q S => ∃ s rem s3 s4 s5 s6 s7 s8, RInv n rows q s rem ∧ S = [.sh (rowsL n rows), .ow (basD n s ++ remD n s rem), .sh (.int s.r), s3, s4, s5, s6, s7, s8, .no, .no]) (n := n)
      (S := [.sh (rowsL n rows), .ow (rows.map fun v => rL n v), .sh (.int 0), .no, .no, .no, .no, .no, .no, .no, .no]) ⟨Spn.empty, rows, .no, .no, .no, .no, .no, .no, I0, by rw [start]; rfl⟩ (by
      rintro q S hq ⟨s, rem, s3, s4, s5, s6, s7, s8, I, rfl⟩
      obtain ⟨s', rem', t4, t5, t6, t7, t8, I', e⟩ := rank_col I hn hq hlen cap (.sh (rowsL n rows)) s4 s5 s6 s7 s8
      exact ⟨_, _, rfl, e, s', rem', _, t4, t5, t6, t7, t8, I', rfl⟩)
    subst l2
    refine ⟨s, I.ok, I.sub, fun v hv => ?_, ?_⟩
    · rcases I.cov v hv with h | ⟨i, hi, h⟩
      · exact ⟨s.parts v s.r, fun k hk => Spn.sum_of_rest I.ok hk (I.zero v h k hk)⟩
      · refine ⟨fun j => if j = i then 1 else 0, fun k hk => ?_⟩
        show _ = sm s.r fun j => (if j = i then (1 : Rat) else 0) * s.R j k
        rw [sm_one hi (fun j _ hj => by rw [if_neg hj]; grind), if_pos rfl, h]; grind
    · obtain ⟨v, rest, hvr⟩ : ∃ v rest, rows = v :: rest := by
        cases rows with
        | nil => exact absurd rfl hr
        | cons v rest => exact ⟨v, rest, rfl⟩
      have hlen0 : (rows.map fun v => rL n v).length = rows.length := List.length_map _
      have hgt : evCmp .gt (.int rows.length) (.int 0) = .ok (.bl true, .sh) := by
        show Res.ok (MP.D.bl (decide ((0 : Int) < rows.length)), Kd.sh) = _
        rw [decide_eq_true (by rw [hvr]; simp)]
      have hg0 : evSub (.lst (rows.map fun v => rL n v)) (.int 0) = .ok (rL n v, .sh) := by
        rw [hvr]; simp [evSub]
      have hi := items_rng n (by omega)
      refine mir_ret ?_
      unfold b_law_rank
      show exSs fuel _ [.sh (rowsL n rows), .no, .no, .no, .no, .no, .no, .no, .no, .no, .no] = _
      have ev : evI .range1 [(.ife (.cmp .gt (.blt .len [(.loc 1)]) (.int 0)) (.blt .len [(.sub (.loc 1) (.int 0))]) (.int 0))] [.sh (rowsL n rows), .ow (rows.map fun v => rL n v), .sh (.int 0), .no, .no, .no, .no, .no, .no, .no, .no] = .ok ((List.range n).map fun i : Nat => MP.D.int i) := by
        rw [← hi]
        simp [evI, evEs, evE, args1, hasBo, blt_len_l, hgt, hg0, rL_len]
      rw [ss_go g1, ss_go (S1 := [.sh (rowsL n rows), .ow (rows.map fun v => rL n v), .sh (.int 0), .no, .no, .no, .no, .no, .no, .no, .no]) (by simp [exS, evE]),
        ss_go (S1 := [.sh (rowsL n rows), .ow (basD n s ++ remD n s rem), .sh (.int s.r), s3, s4, s5, s6, s7, s8, .no, .no]) (by
          rw [w_law_rank_2, exS, ev, bindS_ok]
          exact l1)]
      simp [exSs, exS, evE]
end
end MP
set_option Elab.async false
set_option linter.all false
set_option maxRecDepth 100000
set_option maxHeartbeats 4000000
namespace WM
/-- sums of multiples of rows -/
inductive Sp (n : Nat) (L : List (Nat → Rat)) : (Nat → Rat) → Prop where
  | zero {v : Nat → Rat} (h : ∀ k, k < n → v k = 0) : Sp n L v
  | add {v u w : Nat → Rat} (c : Rat) (hu : u ∈ L) (hw : Sp n L w) (h : ∀ k, k < n → v k = c * u k + w k) : Sp n L v
theorem Sp.congr {n : Nat} {L : List (Nat → Rat)} {v w : Nat → Rat} (h : Sp n L v) (e : ∀ k, k < n → w k = v k) : Sp n L w := by
  cases h with
  | zero h => exact .zero fun k hk => by rw [e k hk, h k hk]
  | add c hu hw h => exact .add c hu hw fun k hk => by rw [e k hk, h k hk]
theorem Sp.of_sum {n : Nat} {L : List (Nat → Rat)} {s : Spn} (hR : ∀ i, i < s.r → s.R i ∈ L) {v : Nat → Rat} {c : Nat → Rat} (h : ∀ k, k < n → v k = s.sum s.r c k) : Sp n L v := by
  have key : ∀ i, i ≤ s.r → Sp n L (s.sum i c) := by
    intro i
    induction i with
    | zero => intro _; exact .zero fun k _ => rfl
    | succ i ih => intro hi; exact .add (c i) (hR i (by omega)) (ih (by omega)) fun k _ => by show sm i _ + _ = _ + sm i _; grind
  exact (key s.r (Nat.le_refl _)).congr h
theorem Sp.to_sum {n : Nat} {L : List (Nat → Rat)} {s : Spn} (hL : ∀ u ∈ L, ∃ c : Nat → Rat, ∀ k, k < n → u k = s.sum s.r c k) {v : Nat → Rat} (h : Sp n L v) : ∃ c : Nat → Rat, ∀ k, k < n → v k = s.sum s.r c k := by
  induction h with
  | zero h => exact ⟨fun _ => 0, fun k hk => by rw [h k hk]; exact (sm_zero fun i _ => by grind).symm⟩
  | add a hu hw h ih =>
    obtain ⟨c, hc⟩ := ih
    obtain ⟨d, hd⟩ := hL _ hu
    refine ⟨fun i => a * d i + c i, fun k hk => ?_⟩
    rw [h k hk, hd k hk, hc k hk]
    show a * sm s.r _ + sm s.r _ = sm s.r _
    rw [← sm_mul, ← sm_add]
    exact sm_congr fun i _ => by grind
/-- all words of the line have rows in the span -/
theorem LInv.inspan {m : Mac} {ws : List (List Nat)} {s : Spn} {kw : Nat → List Nat} (I : LInv m ws ws.length s kw) : ∀ w ∈ ws, ∃ c : Nat → Rat, ∀ b, b < m.n → m.row w b = s.sum s.r c b := fun w hw => by
  obtain ⟨j, hj⟩ := List.getElem?_of_mem hw
  rcases I.done j w (get_lt hj) hj with ⟨i, h1, h2⟩ | ⟨c, _, h⟩
  · refine ⟨fun l => if l = i then 1 else 0, fun b hb => ?_⟩
    show _ = sm s.r fun l => (if l = i then (1 : Rat) else 0) * s.R l b
    rw [sm_one h1 (fun l _ hl => by rw [if_neg hl]; grind), if_pos rfl, I.R i h1, h2]; grind
  · exact ⟨c, h⟩
end WM
namespace MP
open PySem PySem.Spec PyProof.Rows L2 WM
/-- whether a row is a sum of multiples, by the law -/
theorem in_span_ok {n X : Nat} {rows : List (Nat → Rat)} {row : Nat → Rat} (hn : n ≤ 1000) (hlen : rows.length < 1000) (cap : ∀ s : Spn, s.Ok n → (∀ i, i < s.r → s.R i ∈ rows ++ [row]) → ∀ v ∈ rows ++ [row], SCap n s v X) :
    ∃ b : Bool, (b = true ↔ Sp n rows row) ∧ m_law_in_span [rowsL n rows, rL n row] = .ok (.bl b, false) := by
  have hl0 : evBlt .len [rowsL n rows] = .ok (.int rows.length, .sh) := by
    rw [rowsL, blt_len_l, List.length_map]
  cases hr : rows with
  | nil =>
    subst hr
    obtain ⟨p, hp⟩ : ∃ p : Nat → Bool, p = fun k => !decide (row k = 0) := ⟨_, rfl⟩
    have hc := comp_filt (i := 2) (f := evE ce_law_in_span_1) (c := evE cc_law_in_span_1) (S := [.sh (rowsL n []), .sh (rL n row), .no]) p (fun k => fr (row k)) (fun k => fr (row k)) (List.range n) (fun j hj => by
      refine ⟨⟨.sh, ?_⟩, .sh, by decide, by simp [ce_law_in_span_1, evE]⟩
      rw [hp]
      simp only [cc_law_in_span_1, evE, List.set, List.getElem?_cons_zero, List.getElem?_cons_succ, Res.bind, fr_num, ev_neI]
      congr 3
      congr 1
      exact decide_eq_decide.mpr num0)
    have e1 : evE c_law_in_span_1 [.sh (rowsL n []), .sh (rL n row), .no] = .ok (.lst (((List.range n).filter p).map fun k => fr (row k)), .fr) := by
      rw [c_law_in_span_1]
      exact ev_compIf (rs := [(rL n row, .sh)]) (by simp [evEs, evE]) (by simp [hasBo]) rfl (by simp [tabs]; omega) hc
    refine ⟨decide (((List.range n).filter p).length = 0), ?_, ?_⟩
    · rw [decide_eq_true_eq, List.length_eq_zero_iff, List.filter_eq_nil_iff]
      constructor
      · intro h
        exact .zero fun k hk => by
          have := h k (List.mem_range.mpr hk)
          rw [hp] at this
          simpa using this
      · intro h k hk
        rw [hp]
        have hz : ∀ v, Sp n [] v → ∀ k, k < n → v k = 0 := fun v hv => by
          cases hv with
          | zero h => exact h
          | add c hu _ _ => cases hu
        simp [hz row h k (List.mem_range.mp hk)]
    · refine mir_ret ?_
      unfold b_law_in_span
      show exSs fuel _ [.sh (rowsL n []), .sh (rL n row), .no] = _
      have hl1 : evE (.blt .len [c_law_in_span_1]) [.sh (rowsL n []), .sh (rL n row), .no] = .ok (.int (((List.range n).filter p).length), .sh) := by
        rw [evE, evEs, e1]
        simp only [evEs, Res.bind, args1, List.map, blt_len_l]
        rw [List.length_map]
      have hret : exS fuel (.ret (.cmp .eq (.blt .len [c_law_in_span_1]) (.int 0))) [.sh (rowsL n []), .sh (rL n row), .no] = .ret (.bl (decide (((List.range n).filter p).length = 0))) false := by
        have : evE (.cmp .eq (.blt .len [c_law_in_span_1]) (.int 0)) [.sh (rowsL n []), .sh (rL n row), .no] = .ok (.bl (decide (((List.range n).filter p).length = 0)), .sh) := by
          rw [evE, hl1]
          show evCmp .eq (.int _) (.int 0) = _
          rw [ev_eqI]
          congr 3
          exact decide_eq_decide.mpr (by omega)
        rw [exS, this]; rfl
      have hc0 : evE (.cmp .eq (.blt .len [(.loc 0)]) (.int 0)) [.sh (rowsL n []), .sh (rL n row), .no] = .ok (.bl true, .sh) := by
        simp [evE, evEs, args1, hl0]
      exact ss_ret (by rw [exS, hc0, bindS_ok]; exact ss_ret hret)
  | cons v0 l0 =>
    rw [← hr]
    have hne : rows.length ≠ 0 := by rw [hr]; simp
    obtain ⟨s1, k1, r1, c1, e1⟩ := law_rank_ok (rows := rows) (X := X) hn (by omega) (fun s hs h v hv => cap s hs (fun i hi => List.mem_append_left _ (h i hi)) v (List.mem_append_left _ hv))
    obtain ⟨s2, k2, r2, c2, e2⟩ := law_rank_ok (rows := rows ++ [row]) (X := X) hn (by rw [List.length_append, List.length_singleton]; omega) cap
    refine ⟨decide (s2.r = s1.r), ?_, ?_⟩
    · rw [decide_eq_true_eq]
      constructor
      · intro he
        apply Classical.byContradiction
        intro hns
        have hq : ∃ q, q < n ∧ s1.rest row s1.r q ≠ 0 := by
          apply Classical.byContradiction
          intro z
          exact hns (Sp.of_sum r1 fun k hk => Spn.sum_of_rest k1 hk (Classical.byContradiction fun y => z ⟨k, hk, y⟩))
        obtain ⟨q, hq, h0⟩ := hq
        have := Ind.le (W := s2.R) (k1.put hq h0).ind fun i hi => by
          show ∃ c : Nat → Rat, ∀ k, k < n → (if i = s1.r then row else s1.R i) k = sm s2.r fun j => c j * s2.R j k
          split
          · exact c2 row (List.mem_append_right _ List.mem_cons_self)
          · exact c2 _ (List.mem_append_left _ (r1 i (by have : i < s1.r + 1 := hi; omega)))
        have : s1.r + 1 ≤ s2.r := this
        omega
      · intro hs
        have a1 : s1.r ≤ s2.r := Ind.le (W := s2.R) k1.ind fun i hi => c2 _ (List.mem_append_left _ (r1 i hi))
        have a2 : s2.r ≤ s1.r := Ind.le (W := s1.R) k2.ind fun i hi => by
          rcases List.mem_append.mp (r2 i hi) with h | h
          · exact c1 _ h
          · rw [List.mem_singleton.mp h]
            exact Sp.to_sum c1 hs
        omega
    · have ea : evE (.bin .add (.loc 0) (.lst [(.loc 1)])) [.sh (rowsL n rows), .sh (rL n row), .no] = .ok (rowsL n (rows ++ [row]), .fr) := by
        have hl : (rows.map fun v => rL n v).length + 1 ≤ 16777216 := by rw [List.length_map]; omega
        have hb : evBin .add (rowsL n rows) (.lst [rL n row]) = .ok (rowsL n (rows ++ [row]), .fr) := by
          simp only [rowsL, evBin, List.length_singleton, hl, if_true, List.map_append, List.map_cons, List.map_nil]
        simp [evE, evEs, args1, hasBo, hb]
      have er : evE (.call "_law_rank" m_law_rank [(.bin .add (.loc 0) (.lst [(.loc 1)]))]) [.sh (rowsL n rows), .sh (rL n row), .no] = .ok (.int s2.r, .sh) := by
        rw [evE, evEs, ea]
        simp [evEs, args1, e2, hasBo]
      have eq : evE (.cmp .eq (.call "_law_rank" m_law_rank [(.bin .add (.loc 0) (.lst [(.loc 1)]))]) (.call "_law_rank" m_law_rank [(.loc 0)])) [.sh (rowsL n rows), .sh (rL n row), .no] = .ok (.bl (decide (s2.r = s1.r)), .sh) := by
        rw [evE, er]
        have : evE (.call "_law_rank" m_law_rank [(.loc 0)]) [.sh (rowsL n rows), .sh (rL n row), .no] = .ok (.int s1.r, .sh) := by simp [evE, evEs, args1, e1, hasBo]
        rw [this]
        show evCmp .eq (.int _) (.int _) = _
        rw [ev_eqI]
        congr 3
        exact decide_eq_decide.mpr (by omega)
      refine mir_ret ?_
      unfold b_law_in_span
      show exSs fuel _ [.sh (rowsL n rows), .sh (rL n row), .no] = _
      rw [ss_go (S1 := [.sh (rowsL n rows), .sh (rL n row), .no]) (by simp [exSs, exS, evE, evEs, args1, hl0, hne])]
      exact ss_ret (by rw [exS, eq]; rfl)
/-- both machines by the law -/
theorem law_both_ok {p q : Mac} (hk : p.k = q.k) (hn : p.n ≤ 1000) (hm : q.n ≤ 1000) (hpk : p.k ≤ 100) : m_law_both [macD p, macD q] = .ok (macD (p.apart q), false) := by
  have e1 : evE c_law_both_1 [.sh (macD p), .sh (macD q), .no, .no] = .ok (rL q.n fun i => - q.L i, .fr) := by
    rw [c_law_both_1, ev_comp (n := q.n) (rs := [(rT q.n q.L, .sh)]) (fun i => fr (q.L i)) (fun i => fr (- q.L i)) (by simp [evEs, evE, mac_2]) (by simp [hasBo]) (by simp [args1, rT, tabs, items]) (by omega) (fun i hi => ⟨.sh, by decide, by
      simp [ce_law_both_1, evE, evEs, args1, hasBo, fr_num, fr_den, ← fr_neg]⟩)]
    rfl
  have e2 := beside_ok (p := p) (q := { q with L := fun i => - q.L i }) hk hn hm hpk
  have e3 : MP.D.tup [rT q.n q.F, .tup ((List.range q.k).map fun s => sT q.n q.n (q.T s)), rT q.n fun i => - q.L i] = macD { q with L := fun i => - q.L i } := rfl
  refine mir_ret ?_
  unfold b_law_both
  show exSs fuel _ [.sh (macD p), .sh (macD q), .no, .no] = _
  rw [ss_go (S1 := [.sh (macD p), .sh (macD q), .sh (rT q.n fun i => - q.L i), .no]) (by simp [exS, evE, evEs, e1, args1, ev_tupleL])]
  simp [exSs, exS, evE, evEs, args1, hasBo, mac_0, mac_1, e3, e2]
  rfl
/-- what the law asks of rows -/
def Shown (m : Mac) (L : List (Nat → Rat)) : Prop := Sp m.n L m.F ∧ ∀ v ∈ L, m.dotL v = 0 ∧ ∀ t, t < m.k → Sp m.n L (m.step v t)
/-- rows that show it: the law says so -/
theorem shown_true {p q : Mac} {X : Nat} {L : List (Nat → Rat)} (hk : p.k = q.k) (hn : p.n + q.n ≤ 1000) (hpk : p.k ≤ 100) (hL : L.length < 1000) (h : Shown (p.apart q) L)
    (capF : ∀ s : Spn, s.Ok (p.n + q.n) → (∀ i, i < s.r → s.R i ∈ L ++ [(p.apart q).F]) → ∀ v ∈ L ++ [(p.apart q).F], SCap (p.n + q.n) s v X)
    (capT : ∀ u ∈ L, ∀ t, t < p.k → ∀ s : Spn, s.Ok (p.n + q.n) → (∀ i, i < s.r → s.R i ∈ L ++ [(p.apart q).step u t]) → ∀ v ∈ L ++ [(p.apart q).step u t], SCap (p.n + q.n) s v X)
    (hdot : ∀ u ∈ L, m_law_dot [rL (p.n + q.n) u, rT (p.n + q.n) (p.apart q).L] = .ok (fr ((p.apart q).dotL u), false))
    (hled : ∀ u ∈ L, ∀ t, t < p.k → m_law_led [rL (p.n + q.n) u, sT (p.n + q.n) (p.n + q.n) ((p.apart q).T t)] = .ok (rL (p.n + q.n) ((p.apart q).step u t), true)) :
    m_law_shown [macD p, macD q, rowsL (p.n + q.n) L] = .ok (.bl true, false) := by
  have e1 := law_both_ok hk (by omega) (by omega) hpk
  have hmn : p.n + q.n = (p.apart q).n := rfl
  have hmk : p.k = (p.apart q).k := rfl
  rw [hmn] at capF capT hdot hled ⊢
  rw [hmk] at capT hled
  generalize p.apart q = m at *
  obtain ⟨b0, hb0, e2⟩ := in_span_ok (by omega) hL capF
  have hb0 := hb0.mpr h.1
  subst hb0
  have e3 : ∀ S, evE c_law_shown_1 ([.sh (macD p), .sh (macD q), .sh (rowsL m.n L)] ++ S) = .ok (rowsL m.n L, .fr) ∨ S.length ≠ 4 := fun S => by
    by_cases hS : S.length = 4
    · left
      match S, hS with
      | [a, b, c, d], _ =>
        have hc := comp_map (i := 5) (f := evE ce_law_shown_1) (S := [.sh (macD p), .sh (macD q), .sh (rowsL m.n L), a, b, c, d]) id (L.map fun v => rL m.n v) (fun x hx => by
          obtain ⟨v, _, rfl⟩ := List.mem_map.mp hx
          exact ⟨.fr, by decide, by simp [ce_law_shown_1, evE, evEs, args1, evBlt, rL]⟩)
        rw [List.map_id] at hc
        rw [c_law_shown_1]
        exact ev_compM (rs := [(rowsL m.n L, .sh)]) (by simp [evEs, evE]) (by simp [hasBo]) rfl (by rw [List.length_map]; omega) hc
    · exact .inr hS
  have e3 : evE c_law_shown_1 [.sh (macD p), .sh (macD q), .sh (rowsL m.n L), .sh (macD m), .no, .no, .no] = .ok (rowsL m.n L, .fr) := (e3 [.sh (macD m), .no, .no, .no]).resolve_right (by simp)
  have hl0 : evBlt .list [rT m.n m.F] = .ok (rL m.n m.F, .fr) := rfl
  obtain ⟨S', l1, s5, s6, l2⟩ := for_inv0 (f := exSs fuel wb_law_shown_2) (tg := fun S d => some (S.set 5 (.sh d))) (fun j S => ∃ s5 s6, S = [.sh (macD p), .sh (macD q), .sh (rowsL m.n L), .sh (macD m), .sh (rowsL m.n L), s5, s6]) (xs := L.map fun v => rL m.n v) (S := [.sh (macD p), .sh (macD q), .sh (rowsL m.n L), .sh (macD m), .sh (rowsL m.n L), .no, .no]) ⟨.no, .no, rfl⟩ (by
    rintro j x S hx ⟨s5, s6, rfl⟩
    obtain ⟨u, hu, rfl⟩ := List.mem_map.mp (List.mem_of_getElem? hx)
    have hd := hdot u hu
    rw [(h.2 u hu).1] at hd
    obtain ⟨S'', i1, t6, i2⟩ := for_tab (f := exSs fuel wb_law_shown_1) (tg := fun S d => some (S.set 6 (.sh d))) (fun t S => ∃ s6, S = [.sh (macD p), .sh (macD q), .sh (rowsL m.n L), .sh (macD m), .sh (rowsL m.n L), .sh (rL m.n u), s6]) (fun t => sT m.n m.n (m.T t)) (n := m.k) (S := [.sh (macD p), .sh (macD q), .sh (rowsL m.n L), .sh (macD m), .sh (rowsL m.n L), .sh (rL m.n u), s6]) ⟨s6, rfl⟩ (by
      rintro t S ht ⟨s6, rfl⟩
      obtain ⟨b, hb, e4⟩ := in_span_ok (by omega) hL (capT u hu t ht)
      have hb := hb.mpr ((h.2 u hu).2 t ht)
      subst hb
      have e5 := hled u hu t ht
      refine ⟨_, [.sh (macD p), .sh (macD q), .sh (rowsL m.n L), .sh (macD m), .sh (rowsL m.n L), .sh (rL m.n u), .sh (sT m.n m.n (m.T t))], rfl, ?_, _, rfl⟩
      simp [wb_law_shown_1, exSs, exS, evE, evEs, args1, hasBo, e5, e4])
    subst i2
    refine ⟨_, [.sh (macD p), .sh (macD q), .sh (rowsL m.n L), .sh (macD m), .sh (rowsL m.n L), .sh (rL m.n u), t6], rfl, ?_, _, _, rfl⟩
    rw [wb_law_shown_2]
    show exSs fuel _ [.sh (macD p), .sh (macD q), .sh (rowsL m.n L), .sh (macD m), .sh (rowsL m.n L), .sh (rL m.n u), s6] = _
    rw [ss_go (S1 := [.sh (macD p), .sh (macD q), .sh (rowsL m.n L), .sh (macD m), .sh (rowsL m.n L), .sh (rL m.n u), s6]) (by simp [exSs, exS, evE, evEs, args1, hasBo, mac_2, hd, fr_num]),
      ss_go (S1 := [.sh (macD p), .sh (macD q), .sh (rowsL m.n L), .sh (macD m), .sh (rowsL m.n L), .sh (rL m.n u), t6]) (by
        rw [w_law_shown_1, exS]
        simp [evI, evEs, evE, args1, hasBo, mac_1, items]
        exact i1), exSs])
  subst l2
  refine mir_ret ?_
  unfold b_law_shown
  show exSs fuel _ [.sh (macD p), .sh (macD q), .sh (rowsL m.n L), .no, .no, .no, .no] = _
  rw [ss_go (S1 := [.sh (macD p), .sh (macD q), .sh (rowsL m.n L), .sh (macD m), .no, .no, .no]) (by simp [exS, evE, evEs, args1, hasBo, e1]),
    ss_go (S1 := [.sh (macD p), .sh (macD q), .sh (rowsL m.n L), .sh (macD m), .sh (rowsL m.n L), .no, .no]) (exS_set e3 (by decide)),
    ss_go (S1 := [.sh (macD p), .sh (macD q), .sh (rowsL m.n L), .sh (macD m), .sh (rowsL m.n L), .no, .no]) (by simp [exSs, exS, evE, evEs, args1, hasBo, mac_0, hl0, e2]),
    ss_go (S1 := [.sh (macD p), .sh (macD q), .sh (rowsL m.n L), .sh (macD m), .sh (rowsL m.n L), s5, s6]) (by
      rw [w_law_shown_2, exS]
      simp [evI, evEs, evE, args1, hasBo, rowsL, items]
      exact l1)]
  simp [exSs, exS, evE]
end MP
set_option Elab.async false
set_option linter.all false
set_option maxRecDepth 100000
set_option maxHeartbeats 4000000
namespace MP
open PySem PySem.Spec PyProof.Rows L2 WM
/-! two machines: shapes and sizes of the line; G: how a row grows by a sign; Z: no more rows than these -/
def lnS (N G l : Nat) : Nat := N * G ^ l
def lnB (Z N G : Nat) : Nat := (2 * Z + 3) ^ Z * prodN (Z + 1) (lnS N G)
def lnU (Z N G : Nat) : Nat := (2 * Z + 3) ^ Z * lnS N G Z ^ (Z + 1)
def lnK (Z D E : Nat) : Nat := D * E ^ Z
structure LNumG (Z D N G E : Nat) : Prop where
  Z1 : Z < 1000
  D0 : 0 < D
  N0 : 0 < N
  G0 : 0 < G
  E0 : 0 < E
  x1 : (1001 * (lnB Z N G * lnK Z D E)) * ((1001 * (lnB Z N G * lnK Z D E)) * (1001 * (lnB Z N G * lnK Z D E))) < 2 ^ 9000
  x2 : (1001 * (lnU Z N G * lnK Z D E)) * ((1001 * (lnU Z N G * lnK Z D E)) * (1001 * (lnU Z N G * lnK Z D E))) < 2 ^ 9000
structure LNum (Z D N G E M A B : Nat) : Prop where
  Z1 : Z < 1000
  D0 : 0 < D
  N0 : 0 < N
  G0 : 0 < G
  E0 : 0 < E
  x1 : (1001 * (lnB Z N G * lnK Z D E)) * ((1001 * (lnB Z N G * lnK Z D E)) * (1001 * (lnB Z N G * lnK Z D E))) < 2 ^ 9000
  x2 : (1001 * (lnU Z N G * lnK Z D E)) * ((1001 * (lnU Z N G * lnK Z D E)) * (1001 * (lnU Z N G * lnK Z D E))) < 2 ^ 9000
  c1 : lnK Z D E * E * (lnK Z D E * E) < 2 ^ 9000
  s1 : lnS N G Z < 2 ^ 9000
  M1 : M < 2 ^ 9000
  A1 : A < 2 ^ 9000
  B1 : B < 2 ^ 9000
  d1 : lnK Z D E * A * (lnK Z D E * A) < 2 ^ 9000
theorem LNum.g {Z D N G E M A B : Nat} (c : LNum Z D N G E M A B) : LNumG Z D N G E := ⟨c.Z1, c.D0, c.N0, c.G0, c.E0, c.x1, c.x2⟩
/-- rows of known sizes, and how they are led and weighed -/
structure ShpG (m : Mac) (Z D N G E : Nat) : Prop where
  hn : m.n ≤ 1000
  hk : m.k ≤ 100
  k0 : 0 < m.k
  rk : ∀ (ws : List (List Nat)) (n : Nat) (s : Spn) (kw : Nat → List Nat), LInv { m with L := Mac.zero } ws n s kw → s.r ≤ Z
  row : ∀ w, Word m.k w → w.length ≤ Z → ∀ i, i < m.n → Fit (D * E ^ w.length) (lnS N G w.length) (m.row w i)
  led : ∀ w, Word m.k w → w.length ≤ Z → ∀ t, t < m.k → ∀ x, Sq x (tabs m.n (m.row w)) → m_led [x, sT m.n m.n (m.T t)] = .ok (rL m.n (m.row (w ++ [t])), true)
  lled : ∀ w, Word m.k w → w.length ≤ Z → ∀ t, t < m.k → m_law_led [rL m.n (m.row w), sT m.n m.n (m.T t)] = .ok (rL m.n (m.row (w ++ [t])), true)
  dot : ∀ w, Word m.k w → w.length ≤ Z → m_dot [rL m.n (m.row w), rT m.n m.L] = .ok (fr (m.wt w), false)
  ldot : ∀ w, Word m.k w → w.length ≤ Z → m_law_dot [rL m.n (m.row w), rT m.n m.L] = .ok (fr (m.wt w), false)
structure Shp (m : Mac) (Z D N G E M A B : Nat) : Prop where
  hn : m.n ≤ 1000
  hk : m.k ≤ 100
  k0 : 0 < m.k
  rk : ∀ (ws : List (List Nat)) (n : Nat) (s : Spn) (kw : Nat → List Nat), LInv { m with L := Mac.zero } ws n s kw → s.r ≤ Z
  row : ∀ w, Word m.k w → w.length ≤ Z → ∀ i, i < m.n → Fit (D * E ^ w.length) (lnS N G w.length) (m.row w i)
  T : ∀ s a b, s < m.k → a < m.n → b < m.n → Fit E M (m.T s a b)
  L : ∀ i, i < m.n → Fit A B (m.L i)
section
variable {m : Mac} {Z D N G E : Nat}
theorem lnS_pos (c : LNumG Z D N G E) (l : Nat) : 0 < lnS N G l := Nat.mul_pos c.N0 (Nat.pow_pos c.G0)
theorem lnS_mono (c : LNumG Z D N G E) {l l' : Nat} (h : l ≤ l') : lnS N G l ≤ lnS N G l' := Nat.mul_le_mul_left _ (Nat.pow_le_pow_right c.G0 h)
theorem lnK_le (c : LNumG Z D N G E) {l : Nat} (h : l ≤ Z) : D * E ^ l ≤ lnK Z D E := Nat.mul_le_mul_left _ (Nat.pow_le_pow_right c.E0 h)
theorem ShpG.cap (c : LNumG Z D N G E) (h : ShpG m Z D N G E) : LCap m Z (fun _ => True) (fun w => D * E ^ w.length) (lnS N G) (lnS N G) (lnB Z N G) (lnK Z D E) where
  hn := h.hn
  hZ := Nat.le_of_lt c.Z1
  rk := h.rk
  hk := h.hk
  k0 := h.k0
  fit := h.row
  fitK := fun w _ => h.row w
  C0 := fun w => Nat.mul_pos c.D0 (Nat.pow_pos c.E0)
  S0 := fun l _ => lnS_pos c l
  V0 := fun l _ => lnS_pos c l
  mono := fun l l' hl _ => lnS_mono c hl
  monoV := fun l l' hl _ => lnS_mono c hl
  CK := fun w hl => lnK_le c hl
  B1 := fun i hi => by
    show (2 * i + 3) ^ i * prodN (i + 1) (lnS N G) ≤ _
    refine Nat.mul_le_mul ?_ (prodN_mono (lnS_pos c) (by omega))
    exact Nat.le_trans (Nat.pow_le_pow_left (by omega) i) (Nat.pow_le_pow_right (by omega) (by omega))
  B2 := fun i hi => by
    show (2 * i + 3) ^ i * prodN (i + 1) (lnS N G) ≤ _
    refine Nat.mul_le_mul ?_ (prodN_mono (lnS_pos c) (by omega))
    exact Nat.le_trans (Nat.pow_le_pow_left (by omega) i) (Nat.pow_le_pow_right (by omega) (by omega))
  x := c.x1
  kept := fun _ _ _ _ _ _ _ _ _ _ _ => trivial
  led := fun w _ hw hl t ht x hx => h.led w hw hl t ht x hx
/-- the law's clearing of rows of the line -/
theorem ShpG.scapU (c : LNumG Z D N G E) (h : ShpG m Z D N G E) {ws : List (List Nat)} {s : Spn} {kw : Nat → List Nat} (I : LInv m ws ws.length s kw) {L : List (Nat → Rat)} (hL : ∀ v ∈ L, ∃ w ∈ ws, v = m.row w) (s' : Spn) (hs : s'.Ok m.n) (hR : ∀ i, i < s'.r → s'.R i ∈ L) : ∀ v ∈ L, SCap m.n s' v (1001 * (lnU Z N G * lnK Z D E)) := by
  intro v hv
  have hrZ := h.rk _ _ _ _ I.drop
  have hr' : s'.r ≤ s.r := Ind.le (W := s.R) hs.ind fun i hi => by
    obtain ⟨w, hw, e⟩ := hL _ (hR i hi)
    rw [e]
    exact I.inspan w hw
  have hws : ∀ w ∈ ws, Word m.k w ∧ w.length ≤ Z := fun w hw => ⟨I.dig w hw, Nat.le_trans (I.wl w hw) hrZ⟩
  obtain ⟨wv, hwv, ev⟩ := hL v hv
  have hch : ∀ i, ∃ w : List Nat, i < s'.r → w ∈ ws ∧ s'.R i = m.row w := fun i => by
    by_cases hi : i < s'.r
    · obtain ⟨w, hw, e⟩ := hL _ (hR i hi)
      exact ⟨w, fun _ => ⟨hw, e⟩⟩
    · exact ⟨[], fun h => absurd h hi⟩
  obtain ⟨f, hf⟩ : ∃ f : Nat → List Nat, ∀ i, i < s'.r → f i ∈ ws ∧ s'.R i = m.row (f i) := ⟨fun i => Classical.choose (hch i), fun i hi => Classical.choose_spec (hch i) hi⟩
  have V1 : 0 < lnS N G Z := lnS_pos c Z
  have bnd : ∀ i, i ≤ s'.r → (2 * i + 3) ^ i * (prodN i (fun _ => lnS N G Z) * lnS N G Z) ≤ lnU Z N G := fun i hi => by
    rw [prodN_const]
    show (2 * i + 3) ^ i * lnS N G Z ^ (i + 1) ≤ _
    refine Nat.mul_le_mul ?_ (Nat.pow_le_pow_right V1 (by omega))
    exact Nat.le_trans (Nat.pow_le_pow_left (by omega) i) (Nat.pow_le_pow_right (by omega) (by omega))
  have rc : RCap m.n s' (fun j => D * E ^ (f j).length) (fun _ => lnS N G Z) (D * E ^ wv.length) (lnS N G Z) (lnU Z N G) (lnK Z D E) :=
    { hn := h.hn
      S0 := fun _ _ => V1
      Sv0 := V1
      Cv0 := Nat.mul_pos c.D0 (Nat.pow_pos c.E0)
      C1 := fun j hj => lnK_le c (hws _ (hf j hj).1).2
      Cv1 := lnK_le c (hws wv hwv).2
      B1 := bnd
      B2 := fun i hi => bnd i (by omega)
      x := c.x2 }
  have fitw : ∀ w ∈ ws, ∀ k, k < m.n → Fit (D * E ^ w.length) (lnS N G Z) (m.row w k) := fun w hw k hk => (h.row w (hws w hw).1 (hws w hw).2 k hk).mono (lnS_mono c (hws w hw).2)
  rw [ev]
  exact rc.scap hs (fun j k hj hk => by rw [(hf j hj).2]; exact fitw _ (hf j hj).1 k hk) (fitw wv hwv)
end
section
variable {p q : Mac} {Z D N G E : Nat}
theorem look_shpG {A B : Nat} (c : LNumG Z D N G E) (hk : p.k = q.k) (h : ShpG (p.apart q) Z D N G E) (hL : ∀ i, i < q.n → Fit A B (q.L i)) (hA : A < 2 ^ 9000) (hB : B < 2 ^ 180000) : Look p q :=
  looked_for_ok hk (h.cap c) (fun w hw hl => h.dot w hw hl) hL hA hB
/-- told rows show it, as the law looks -/
theorem told_shpG (c : LNumG Z D N G E) (hk : p.k = q.k) (h : ShpG (p.apart q) Z D N G E) {ws : List (List Nat)} {s : Spn} {kw : Nat → List Nat} (I : LInv (p.apart q) ws ws.length s kw) : m_law_shown [macD p, macD q, .lst (rowsD (p.n + q.n) s)] = .ok (.bl true, false) := by
  have hr := Spn.r_le I.ok
  have hrZ := h.rk _ _ _ _ I.drop
  have hn : p.n + q.n ≤ 1000 := h.hn
  have hr : s.r ≤ p.n + q.n := hr
  obtain ⟨L, hLd⟩ : ∃ L : List (Nat → Rat), (List.range s.r).map s.R = L := ⟨_, rfl⟩
  have hrows : MP.D.lst (rowsD (p.n + q.n) s) = rowsL (p.n + q.n) L := by
    rw [← hLd]
    unfold rowsL rowsD
    rw [List.map_map]; rfl
  have hmem : ∀ v ∈ L, ∃ i, i < s.r ∧ v = s.R i := fun v hv => by
    rw [← hLd] at hv
    obtain ⟨i, hi, rfl⟩ := List.mem_map.mp hv
    exact ⟨i, List.mem_range.mp hi, rfl⟩
  have hin : ∀ i, i < s.r → s.R i ∈ L := fun i hi => by
    rw [← hLd]
    exact List.mem_map.mpr ⟨i, List.mem_range.mpr hi, rfl⟩
  have kws : ∀ i, i < s.r → kw i ∈ ws := fun i hi => by
    obtain ⟨j, _, e⟩ := I.kat i hi
    exact List.mem_of_getElem? e
  have hsh := I.shows
  have hrow : ∀ v ∈ L, ∃ w ∈ ws, v = (p.apart q).row w := fun v hv => by
    obtain ⟨i, hi, rfl⟩ := hmem v hv
    exact ⟨kw i, kws i hi, I.R i hi⟩
  have happ : ∀ u, (∃ w ∈ ws, u = (p.apart q).row w) → ∀ v ∈ L ++ [u], ∃ w ∈ ws, v = (p.apart q).row w := fun u hu v hv => by
    rcases List.mem_append.mp hv with z | z
    · exact hrow v z
    · rw [List.mem_singleton.mp z]; exact hu
  have step : ∀ i, i < s.r → ∀ t, t < p.k → (p.apart q).step (s.R i) t = (p.apart q).row (kw i ++ [t]) := fun i hi t _ => by rw [Mac.row_snoc, I.R i hi]
  rw [hrows]
  refine shown_true (X := 1001 * (lnU Z N G * lnK Z D E)) hk hn h.hk (by rw [← hLd, List.length_map, List.length_range]; have := c.Z1; omega) ⟨?_, fun v hv => ⟨?_, fun t ht => ?_⟩⟩ ?_ ?_ ?_ ?_
  · obtain ⟨d, hd⟩ := hsh.2.1
    exact Sp.of_sum hin hd
  · obtain ⟨i, hi, rfl⟩ := hmem v hv
    exact hsh.1 i hi
  · obtain ⟨i, hi, rfl⟩ := hmem v hv
    obtain ⟨d, hd⟩ := hsh.2.2 i t hi ht
    exact Sp.of_sum hin hd
  · intro s' hs' hR
    exact h.scapU c I (happ _ ⟨[], I.w0, rfl⟩) s' hs' hR
  · intro u hu t ht s' hs' hR
    obtain ⟨i, hi, rfl⟩ := hmem u hu
    exact h.scapU c I (happ _ ⟨kw i ++ [t], I.kid i t hi ht, step i hi t ht⟩) s' hs' hR
  · intro u hu
    obtain ⟨w, hw, rfl⟩ := hrow u hu
    have hl := Nat.le_trans (I.wl w hw) hrZ
    exact h.ldot w (I.dig w hw) hl
  · intro u hu t ht
    obtain ⟨w, hw, rfl⟩ := hrow u hu
    have hl := Nat.le_trans (I.wl w hw) hrZ
    have e := h.lled w (I.dig w hw) hl t ht
    rw [Mac.row_snoc] at e
    exact e
end
section
variable {m p q : Mac} {Z D N G E M A B : Nat}
theorem ln_capT (c : LNum Z D N G E M A B) {n l : Nat} (hn : n ≤ 1000) (h : l ≤ Z) : Cap n (D * E ^ l) (lnS N G l) E M :=
  ⟨Nat.lt_of_le_of_lt (Nat.mul_le_mul (Nat.mul_le_mul_right _ (lnK_le c.g h)) (Nat.mul_le_mul_right _ (lnK_le c.g h))) c.c1, Nat.lt_of_le_of_lt (lnS_mono c.g h) (up180 c.s1), up180 c.M1, lt1000 hn⟩
theorem ln_capL (c : LNum Z D N G E M A B) {n l : Nat} (hn : n ≤ 1000) (h : l ≤ Z) : Cap n (D * E ^ l) (lnS N G l) A B :=
  ⟨Nat.lt_of_le_of_lt (Nat.mul_le_mul (Nat.mul_le_mul_right _ (lnK_le c.g h)) (Nat.mul_le_mul_right _ (lnK_le c.g h))) c.d1, Nat.lt_of_le_of_lt (lnS_mono c.g h) (up180 c.s1), up180 c.B1, lt1000 hn⟩
theorem Shp.g (c : LNum Z D N G E M A B) (h : Shp m Z D N G E M A B) : ShpG m Z D N G E where
  hn := h.hn
  hk := h.hk
  k0 := h.k0
  rk := h.rk
  row := h.row
  led := fun w hw hl t ht x hx => by
    have e := led_ok (T := m.T t) hx (ln_capT c h.hn hl) (by have := h.hn; omega) (h.row w hw hl) (fun i j hi hj => h.T t i j ht hi hj)
    rw [Mac.row_snoc]
    exact e
  lled := fun w hw hl t ht => by
    have e := law_led_ok (T := m.T t) (rL_sq m.n (m.row w)) (ln_capT c h.hn hl) (by have := h.hn; omega) (h.row w hw hl) (fun i j hi hj => h.T t i j ht hi hj)
    rw [Mac.row_snoc]
    exact e
  dot := fun w hw hl => dot_ok (xs := []) (rL_sq _ _) (rT_sq _ _) (fun i hi => tabs_get hi) (ln_capL c h.hn hl) (by have := h.hn; omega) (h.row w hw hl) h.L
  ldot := fun w hw hl => law_dot_ok (n := m.n) (xs := []) (rL_sq _ _) (rT_sq _ _) (fun i hi => tabs_get hi) (ln_capL c h.hn hl) (by have := h.hn; omega) (h.row w hw hl) h.L
theorem look_shp (c : LNum Z D N G E M A B) (hk : p.k = q.k) (h : Shp (p.apart q) Z D N G E M A B) : Look p q :=
  look_shpG c.g hk (h.g c) (apart_L h.L) c.A1 (up180 c.B1)
theorem told_shp (c : LNum Z D N G E M A B) (hk : p.k = q.k) (h : Shp (p.apart q) Z D N G E M A B) {ws : List (List Nat)} {s : Spn} {kw : Nat → List Nat} (I : LInv (p.apart q) ws ws.length s kw) : m_law_shown [macD p, macD q, .lst (rowsD (p.n + q.n) s)] = .ok (.bl true, false) :=
  told_shpG c.g hk (h.g c) I
end
end MP
set_option Elab.async false
set_option linter.all false
set_option maxRecDepth 100000
set_option maxHeartbeats 4000000
namespace WM
/-- rows that hang on d numbers each -/
theorem Ind.hang {n d r : Nat} {R U : Nat → Nat → Rat} (h : Ind n r R) (hs : ∀ k, k < n → ∃ g : Nat → Rat, ∀ i, i < r → R i k = sm d fun l => g l * U i l) : r ≤ d := by
  have hU : Ind d r U := fun c hc => h c fun k hk => by
    obtain ⟨g, hg⟩ := hs k hk
    have e : sm r (fun i => c i * R i k) = sm r (fun i => sm d (fun l => g l * (c i * U i l))) := sm_congr fun i hi => by
      rw [hg i hi, ← sm_mul]
      exact sm_congr fun l _ => by grind
    rw [e, sm_swap (fun i l => g l * (c i * U i l))]
    exact sm_zero fun l hl => by
      rw [sm_mul, hc l hl]; grind
  refine Ind.le (W := fun j k => if k = j then 1 else 0) hU fun i hi => ⟨U i, fun k hk => ?_⟩
  rw [sm_one (k := k) hk (fun j _ hj => by rw [if_neg (fun e => hj e.symm)]; grind), if_pos rfl]; grind
end WM
namespace MP
open PySem PySem.Spec PyProof.Rows L2 WM
/-! a machine and one that is alike -/
theorem num_kin : LNum 6 kD kN (10 * kM) kE kM kD kN := ⟨by decide, by decide, by decide, by decide, by decide, by decide +kernel, by decide +kernel, by decide +kernel, by decide +kernel, by decide +kernel, by decide +kernel, by decide +kernel, by decide +kernel⟩
theorem cap2K : Cap2 6 kD kN kE kM kD kN := ⟨by decide, by decide, by decide, by decide, by decide, by decide, by decide, by decide, by decide +kernel, by decide +kernel, by decide +kernel, by decide +kernel, by decide +kernel, by decide +kernel, by decide +kernel, by decide +kernel, by decide +kernel⟩
theorem rk_hang {p q : Mac} {d Z : Nat} (h : Hang p q d) (hp : p.n ≤ d) (hd : d ≤ Z) : ∀ (ws : List (List Nat)) (n : Nat) (s : Spn) (kw : Nat → List Nat), LInv { p.apart q with L := Mac.zero } ws n s kw → s.r ≤ Z := fun ws n s kw I => by
  obtain ⟨U, h1, h2⟩ := h
  refine Nat.le_trans (Ind.hang (d := d) (U := fun i => U (kw i)) I.ok.ind fun k hk => ?_) hd
  have hk : k < p.n + q.n := hk
  have e : ∀ i, i < s.r → s.R i k = Mac.cat p.n (p.row (kw i)) (q.row (kw i)) k := fun i hi => by
    have h1 : s.R i = (p.sum { q with L := fun i => - q.L i }).row (kw i) := I.R i hi
    rw [h1, Mac.sum_row]; rfl
  by_cases hkp : k < p.n
  · exact ⟨fun j => if j = k then 1 else 0, fun i hi => by rw [e i hi, Mac.cat_lo hkp, h1 _ k hkp]; exact unit_sum (by omega) _⟩
  · obtain ⟨j, rfl⟩ : ∃ j, k = p.n + j := ⟨k - p.n, by omega⟩
    obtain ⟨g, hg⟩ := h2 j (by omega)
    exact ⟨g, fun i hi => by rw [e i hi, Mac.cat_hi, hg]⟩
theorem shp_kin {p q : Mac} {d : Nat} (hk : p.k = q.k) (k0 : 0 < p.k) (hk1 : p.k ≤ 100) (hn : p.n + q.n ≤ 10) (fp : KFit 3 p) (fq : KFit 3 q) (h : Hang p q d) (hp : p.n ≤ d) (hd : d ≤ 6) : Shp (p.apart q) 6 kD kN (10 * kM) kE kM kD kN := by
  have f : MFit (p.apart q) kD kN kE kM kD kN := MFit.apart (by decide) (by decide) (by decide) fp fq hk
  exact ⟨by show p.n + q.n ≤ 1000; omega, hk1, k0, rk_hang h hp hd, fun w hw hl i hi => (Mac.run_fit (p.apart q) f.T (by decide) w hw (p.apart q).F kD kN (by decide) f.F i hi).mono (Nat.mul_le_mul_left _ (Nat.pow_le_pow_left (Nat.mul_le_mul_right _ hn) _)), f.T, f.L⟩
/-! ranks -/
/-- the rank of a machine's weights: a machine with so many rooms, and none with fewer -/
structure Rnk (m : Mac) (r : Nat) : Prop where
  has : ∃ M : Mac, M.n = r ∧ M.k = m.k ∧ ∀ w, Word m.k w → M.wt w = m.wt w
  least : ∀ M : Mac, (∀ w, Word m.k w → M.wt w = m.wt w) → r ≤ M.n
theorem Pass2.rnk {m : Mac} {ws ws2 : List (List Nat)} {s s2 : Spn} {kw kw2 : Nat → List Nat} (h : Pass2 m ws s kw ws2 s2 kw2) : Rnk m s2.r := ⟨⟨m.small s s2, rfl, rfl, fun w hw => h.wt w hw⟩, fun M hM => h.least M hM⟩
theorem Rnk.same {p q : Mac} {a b : Nat} (hk : p.k = q.k) (hp : Rnk p a) (hq : Rnk q b) (hw : ∀ w, Word p.k w → p.wt w = q.wt w) : a = b := by
  obtain ⟨P, p1, p2, p3⟩ := hp.has
  obtain ⟨Q, q1, q2, q3⟩ := hq.has
  have h1 := hp.least Q fun w h => by rw [q3 w (by rw [← hk]; exact h), hw w h]
  have h2 := hq.least P fun w h => by
    have h : Word p.k w := by rw [hk]; exact h
    rw [p3 w h, hw w h]
  omega
/-! the law weighs by the smallest machine -/
theorem law_row_gen {m : Mac} {w : List Nat} (sg : Word m.k w) (h : ∀ u v s, u ++ s :: v = w → m_law_led [rL m.n (m.row u), sT m.n m.n (m.T s)] = .ok (rL m.n (m.row (u ++ [s])), true)) : m_law_row [macD m, wD w] = .ok (rL m.n (m.row w), false) := by
  refine mir_ret ?_
  unfold b_law_row
  obtain ⟨S3, h3, s3, h4⟩ := for_inv0 (f := exSs fuel wb_law_row_1) (tg := fun S d => some (S.set 3 (.sh d))) (fun j S => ∃ s, S = [.sh (macD m), .sh (wD w), .sh (rL m.n (m.row (w.take j))), s]) (xs := w.map fun s : Nat => MP.D.int s) (S := [.sh (macD m), .sh (wD w), .sh (rL m.n m.F), .no]) ⟨.no, rfl⟩ (by
    rintro j x S hx ⟨s', rfl⟩
    obtain ⟨s, hs, rfl⟩ := wD_get hx
    have hk := sg s (List.mem_of_getElem? hs)
    have hjl : j < w.length := by
      apply Classical.byContradiction
      intro z
      rw [List.getElem?_eq_none (by omega)] at hs; cases hs
    have hl := h (w.take j) (w.drop (j + 1)) s (by
      have hv : w[j] = s := by
        rw [List.getElem?_eq_getElem hjl] at hs; exact Option.some.inj hs
      rw [← hv, ← List.drop_eq_getElem_cons hjl, List.take_append_drop])
    rw [← take_snoc hs] at hl
    refine ⟨_, [.sh (macD m), .sh (wD w), .sh (rL m.n (m.row (w.take (j + 1)))), .sh (.int s)], rfl, ?_, .sh (.int s), rfl⟩
    simp [wb_law_row_1, exSs, exS, evE, evEs, mac_1, mac_s hk, args1, hl, hasBo])
  rw [List.length_map, List.take_length] at h4
  subst h4
  rw [ss_go (S1 := [.sh (macD m), .sh (wD w), .sh (rL m.n m.F), .no]) (by simp [exS, evE, evEs, mac_0, args1, evBlt, rT, rL]), ss_go (S1 := [.sh (macD m), .sh (wD w), .sh (rL m.n (m.row w)), s3]) (by
    rw [w_law_row_1, exS]
    simp only [evI, evEs, evE, List.getElem?_cons_zero, List.getElem?_cons_succ, Res.bind, args1, List.map, hasBo, List.any, Bool.or_false, decide_false, Bool.false_eq_true, if_false, items, wD, bindS_ok]
    exact h3)]
  simp [exSs, exS, evE]
theorem LInv.pfit0 {m : Mac} {Z : Nat} {Q : List Nat → Prop} {C : List Nat → Nat} {S V : Nat → Nat} {B K : Nat} {ws : List (List Nat)} {n : Nat} {s : Spn} {kw : Nat → List Nat} (c : LCap m Z Q C S V B K) (I : LInv { m with L := Mac.zero } ws n s kw) (hQ : ∀ i, i < s.r → Q (kw i)) {u : List Nat} (hu : u ∈ ws) : ∃ D0 N0, D0 ≤ B * K ∧ N0 ≤ B * K ∧ ∀ j, j < s.r → Fit D0 N0 (s.parts (m.row u) s.r j) :=
  LInv.pfit (m := { m with L := Mac.zero }) (Z := Z) (Q := Q) (C := C) (S := S) (V := V) (B := B) (K := K) { c with } I hQ hu
section
variable {m : Mac} {Z D N E M A B : Nat} {ws ws2 : List (List Nat)} {s s2 : Spn} {kw kw2 : Nat → List Nat}
/-- a row of the smallest machine: weights ahead of the kept ends -/
theorem Pass2.row (h : Pass2 m ws s kw ws2 s2 kw2) {i : Nat} (hi : i < s2.r) (u : List Nat) (hu : Word m.k u) : (m.small s s2).row u i = m.wt (u ++ (kw2 i).reverse) := by
  have hk2 : Word m.k (kw2 i) := h.p2.word hi
  have e := h.p2.trow hi u hu
  have e2 : (m.small s s2).row u i = (m.less s).turn.wt (kw2 i ++ u.reverse) := e
  rw [e2, Mac.turn_wt, List.reverse_append, List.reverse_reverse]
  exact h.p1.closed.wt _ fun t ht => (List.mem_append.mp ht).elim (hu t) (word_rev hk2 t)
/-- sizes at which the smallest machine weighs words of at most l signs -/
structure SNum (Z D N E M A B l : Nat) : Prop where
  d : D * E ^ (Z + l) * A * (capB2 Z N M B * capK2 Z D E A) * (D * E ^ (Z + l) * A * (capB2 Z N M B * capK2 Z D E A)) < 2 ^ 9000
  n : Z * N * B * (Z * M) ^ (Z + l) < 2 ^ 9000
theorem Pass2.rowfit (c : Cap2 Z D N E M A B) (f : MFit m D N E M A B) (hn : m.n ≤ Z) (h : Pass2 m ws s kw ws2 s2 kw2) {l : Nat} (u : List Nat) (hu : Word m.k u) (hl : u.length ≤ l) : ∀ i, i < s2.r → Fit (D * E ^ (Z + l) * A) (Z * N * B * (Z * M) ^ (Z + l)) ((m.small s s2).row u i) := fun i hi => by
  have hk2 : Word m.k (kw2 i) := h.p2.word hi
  have hr := h.p1.r_le
  have hr2 : s2.r ≤ s.r := h.p2.r_le
  have hkl := h.p2.I.kl i hi
  rw [h.row hi u hu]
  refine wt_fit2 c f hn _ (fun t ht => (List.mem_append.mp ht).elim (hu t) (word_rev hk2 t)) ?_
  rw [List.length_append, List.length_reverse]; omega
theorem Pass2.bk (c : Cap2 Z D N E M A B) : capB2 Z N M B * capK2 Z D E A < 2 ^ 9000 := by
  refine Nat.lt_of_le_of_lt ?_ c.x2
  generalize capB2 Z N M B * capK2 Z D E A = x
  rcases Nat.eq_zero_or_pos x with e | e
  · subst e; exact Nat.zero_le _
  · exact Nat.le_trans (show x ≤ 1001 * x by omega) (Nat.le_mul_of_pos_right _ (Nat.mul_pos (by omega) (by omega)))
theorem Pass2.weight (c : Cap2 Z D N E M A B) {l : Nat} (c2 : SNum Z D N E M A B l) (f : MFit m D N E M A B) (hn : m.n ≤ Z) (hk : m.k ≤ 100) (k0 : 0 < m.k) (h : Pass2 m ws s kw ws2 s2 kw2) (w : List Nat) (hw : Word m.k w) (hl : w.length ≤ l) : m_law_weight [macD (m.small s s2), wD w] = .ok (fr ((m.small s s2).wt w), false) := by
  have hr := h.p1.r_le
  have hr2 : s2.r ≤ s.r := h.p2.r_le
  have hZ := c.Z1
  have sec := h.p1.second c f hn hk k0
  have cap : ∀ D0 N0, D0 ≤ capB2 Z N M B * capK2 Z D E A → N0 ≤ capB2 Z N M B * capK2 Z D E A → Cap s2.r (D * E ^ (Z + l) * A) (Z * N * B * (Z * M) ^ (Z + l)) D0 N0 := fun D0 N0 d1 d2 =>
    ⟨Nat.lt_of_le_of_lt (Nat.mul_le_mul (Nat.mul_le_mul_left _ d1) (Nat.mul_le_mul_left _ d1)) c2.d, up180 c2.n, Nat.lt_of_le_of_lt d2 (up180 (Pass2.bk c)), lt1000 (by omega)⟩
  have h1 : m_law_row [macD (m.small s s2), wD w] = .ok (rL s2.r ((m.small s s2).row w), false) := law_row_gen (m := m.small s s2) hw fun u v t e => by
    have hu : Word m.k u := fun x hx => hw x (by rw [← e]; exact List.mem_append_left _ hx)
    have ht : t < m.k := hw t (by rw [← e]; exact List.mem_append_right _ List.mem_cons_self)
    have hul : u.length ≤ l := by
      have := congrArg List.length e
      rw [List.length_append] at this
      omega
    have e2 := law_led_col (T := (m.small s s2).T t) (rL_sq (m.small s s2).n ((m.small s s2).row u)) (by show s2.r ≤ _; omega) (fun b hb => by
      have hb : b < s2.r := hb
      obtain ⟨D0, N0, d1, d2, d3⟩ := LInv.pfit0 sec h.p2.I (fun _ _ => trivial) (h.p2.I.kid b t hb ht)
      refine ⟨_, _, D0, N0, cap D0 N0 d1 d2, h.rowfit c f hn u hu hul, fun i hi => ?_⟩
      have e4 : (m.less s).turn.row (kw2 b ++ [t]) = (m.less s).turn.step (s2.R b) t := by rw [Mac.row_snoc, h.p2.R hb]
      have := d3 i hi
      rw [e4] at this
      exact this)
    rw [Mac.row_snoc]
    exact e2
  obtain ⟨D0, N0, d1, d2, d3⟩ := LInv.pfit0 sec h.p2.I (fun _ _ => trivial) h.p2.I.w0
  have h2 := law_dot_ok (n := s2.r) (xs := []) (rL_sq s2.r ((m.small s s2).row w)) (rT_sq s2.r (m.small s s2).L) (fun i hi => tabs_get hi) (cap D0 N0 d1 d2) (by omega) (h.rowfit c f hn w hw hl) d3
  have h3 := mac_2 (m.small s s2)
  have e5 : (m.small s s2).n = s2.r := rfl
  rw [e5] at h3
  refine mir_ret ?_
  unfold b_law_weight
  simp [exSs, exS, evE, evEs, args1, h1, h3, h2, hasBo]
  rfl
end
theorem snumK : SNum 6 kD kN kE kM kD kN 8 := ⟨by decide +kernel, by decide +kernel⟩
end MP
set_option Elab.async false
set_option linter.all false
set_option maxRecDepth 100000
set_option maxHeartbeats 4000000
namespace MP
open PySem PySem.Spec PyProof.Rows L2 WM
/-! sums of products, each step by its own sizes -/
section
variable {n : Nat} {f g : Nat → Rat}
theorem dot_gen {a b : D} {ys : List D} (ha : Sq a (tabs n f)) (hb : Sq b ys) (hy : ∀ i, i < n → ys[i]? = some (fr (g i))) (hn : n < 4611686018427387904) (h : ∀ i, i < n → Sz (f i) ∧ Sz (g i) ∧ (f i).den * (g i).den < 2 ^ 9000 ∧ Sz (f i * g i) ∧ Sz (sm i fun i => f i * g i) ∧ (sm i fun i => f i * g i).den * (f i * g i).den < 2 ^ 9000) :
    m_dot [a, b] = .ok (fr (sm n fun i => f i * g i), false) := by
  obtain ⟨s, h⟩ := dot_loop (P := m_plus) (T := m_times) (x := "plus") (y := "times") (a := a) (b := b) (n := n) (f := f) (g := g) .no (fun i hi => ha.sub (tabs_get hi)) (fun i hi => hb.sub (hy i hi))
    (fun i hi => by obtain ⟨z1, z2, z3, z4, z5, z6⟩ := h i hi; exact times_ok _ _ z1 z2 z3) (fun i hi => by obtain ⟨z1, z2, z3, z4, z5, z6⟩ := h i hi; exact plus_ok _ _ z5 z4 z6)
  have hl := ha.len
  rw [tabs_len] at hl
  refine mir_ret ?_
  unfold b_dot
  rw [ss_go (S1 := [.sh a, .sh b, .sh (fr 0), .no]) (by simp [exS, evE, fr_zero]), ss_go (S1 := [.sh a, .sh b, .sh (fr (sm n fun i => f i * g i)), s]) (by
    rw [w_dot_1, exS]
    simp only [evI, evEs, evE, List.getElem?_cons_zero, Res.bind, args1, List.map, hl, hasBo, List.any, Bool.or_false, decide_false, Bool.false_eq_true, if_false, items_rng n hn, bindS_ok]
    exact h)]
  simp [exSs, exS, evE]
/-- the one row of units -/
theorem unit_sz {a X : Nat} (ha : a < n) (hX : X < 2 ^ 9000) (hf : ∀ i, i < n → f i = if i = a then 1 else 0) (hg : ∀ i, i < n → Sml X (g i)) : ∀ i, i < n → Sz (f i) ∧ Sz (g i) ∧ (f i).den * (g i).den < 2 ^ 9000 ∧ Sz (f i * g i) ∧ Sz (sm i fun i => f i * g i) ∧ (sm i fun i => f i * g i).den * (f i * g i).den < 2 ^ 9000 := by
  intro i hi
  have X1 : 0 < X := Nat.lt_of_lt_of_le (g a).den_pos (hg a ha).1
  have X3 : X < 2 ^ 390000 := pow_up hX (by decide)
  have e1 : f i * g i = if i = a then g a else 0 := by
    rw [hf i hi]
    by_cases e : i = a
    · subst e; rw [if_pos rfl, if_pos rfl]; grind
    · rw [if_neg e, if_neg e]; grind
  have e2 : (sm i fun i => f i * g i) = if a < i then g a else 0 := by
    by_cases e : a < i
    · rw [if_pos e, sm_one e (fun j hj hne => by rw [hf j (by omega), if_neg hne]; grind), hf a ha, if_pos rfl]; grind
    · rw [if_neg e]
      exact sm_zero fun j hj => by rw [hf j (by omega), if_neg (by omega)]; grind
  have z0 : Sz 0 := ⟨by decide, by decide⟩
  have z1 : Sz 1 := ⟨by decide, by decide⟩
  have zg : ∀ j, j < n → Sz (g j) := fun j hj => (hg j hj).sz X3
  have d0 : (0 : Rat).den = 1 := rfl
  have d1 : (1 : Rat).den = 1 := rfl
  have dg : ∀ j, j < n → (g j).den < 2 ^ 9000 := fun j hj => Nat.lt_of_le_of_lt (hg j hj).1 hX
  have one : (1 : Nat) < 2 ^ 9000 := Nat.lt_of_le_of_lt X1 hX
  rw [e1, e2, hf i hi]
  by_cases ea : i = a
  · subst ea
    rw [if_pos rfl, if_pos rfl, if_neg (Nat.lt_irrefl _), d0, d1, Nat.one_mul]
    exact ⟨z1, zg _ hi, dg _ hi, zg _ hi, z0, dg _ hi⟩
  · rw [if_neg ea, if_neg ea, d0, Nat.one_mul, Nat.mul_one]
    by_cases eb : a < i
    · rw [if_pos eb]
      exact ⟨z0, zg _ hi, dg _ hi, z0, zg _ ha, dg _ ha⟩
    · rw [if_neg eb, d0]
      exact ⟨z0, zg _ hi, dg _ hi, z0, z0, one⟩
theorem led_unit {a X : Nat} {x : D} {T : Nat → Nat → Rat} (hx : Sq x (tabs n f)) (hn : n ≤ 16777216) (ha : a < n) (hX : X < 2 ^ 9000) (hf : ∀ i, i < n → f i = if i = a then 1 else 0) (hT : ∀ i j, i < n → j < n → Sml X (T i j)) :
    m_led [x, sT n n T] = .ok (rL n fun b => sm n fun i => f i * T i b, true) := by
  refine mir_ret ?_
  have hl := hx.len
  rw [tabs_len] at hl
  have e : evE c_led_1 [.sh x, .sh (sT n n T), .no] = .ok (rL n fun b => sm n fun i => f i * T i b, .fr) := by
    rw [c_led_1, ev_comp (n := n) (rs := [(.int n, .sh)]) (fun j : Nat => MP.D.int j) (fun b => fr (sm n fun i => f i * T i b)) (by simp [evEs, evE, args1, hl]) (by simp [hasBo]) (by simp only [args1, List.map]; exact items_rng n (by omega)) hn (fun j hj => ⟨.sh, by decide, by
      have h2 := dot_gen hx (rL_sq n fun a => T a j) (fun i hi => tabs_get hi) (by omega) (unit_sz ha hX hf fun i hi => hT i j hi hj)
      simp [ce_led_1, evE, evEs, args1, hasBo, column_ok (T := T) hj hn, h2]⟩)]
    rfl
  unfold b_led
  rw [ss_ret (d := rL n fun b => sm n fun i => f i * T i b) (fr := true) (by simp [exS, List.replicate, e])]
end
/-! clearing where the rows are units -/
theorem unit_scap {n : Nat} {s : Spn} {v : Nat → Rat} {P X0 Cv Sv : Nat} (h : s.Ok n) (hn : n ≤ 1000) (hR : ∀ i k, i < s.r → k < n → s.R i k = 0 ∨ s.R i k = 1) (hP : (2 * s.r + 3) ^ s.r ≤ P) (hv : ∀ k, k < n → Fit Cv Sv (v k)) (h1 : 0 < Cv) (h2 : 0 < Sv) (h3 : Cv ≤ X0) (h4 : Sv ≤ X0) (hx : (1001 * (P * X0)) * ((1001 * (P * X0)) * (1001 * (P * X0))) < 2 ^ 9000) : SCap n s v (1001 * (P * X0)) := by
  have hrn := Spn.r_le h
  have hP0 : 0 < P := Nat.lt_of_lt_of_le (Nat.pow_pos (by omega)) hP
  have hX0 : 0 < X0 := by omega
  have hPX : 0 < P * X0 := Nat.mul_pos hP0 hX0
  have up : P * X0 ≤ 1001 * (P * X0) := by omega
  have f01 : ∀ q : Rat, q = 0 ∨ q = 1 → Fit 1 1 q := fun q hq => by
    rcases hq with e | e
    · subst e; exact Fit.zero (by decide)
    · subst e; exact Fit.self 1
  have hf : s.Fits n (fun _ => 1) (fun _ => 1) := fun j k hj hk => f01 _ (hR j k hj hk)
  have p1 : ∀ i, prodN i (fun _ => 1) = 1 := fun i => by rw [prodN_const, Nat.one_pow]
  have pw : ∀ i, i ≤ s.r → (2 * i + 3) ^ i ≤ P := fun i hi => Nat.le_trans (Nat.le_trans (Nat.pow_le_pow_left (by omega) i) (Nat.pow_le_pow_right (by omega) hi)) hP
  have cut := fun {i : Nat} (hi : i ≤ s.r) {u a : Nat → Rat} {Cu Su : Nat} (k1 : 0 < Cu) (k2 : ∀ k, k < n → Fit Cu Su (u k)) (k3 : 0 < Su) (k4 : Cu ≤ X0) (k5 : Su ≤ X0) (k6 : ∀ l, l < i → u (s.p l) = s.sum i a (s.p l)) =>
    show (∀ j, j < i → Sml (1001 * (P * X0)) (a j)) ∧ ∀ k, k < n → Sml (1001 * (P * X0)) (u k - s.sum i a k) from by
    obtain ⟨t, t0, t1, t2, t3⟩ := Spn.cut_fit h hf (fun _ _ => Nat.one_pos) hi k1 k2 k3 k6
    rw [p1, Nat.one_mul] at t1 t2 t3
    have tP : t ≤ P := Nat.le_trans (Nat.le_of_mul_le_mul_right t1 k3) (pw i hi)
    have tB : t * Cu ≤ P * X0 := Nat.mul_le_mul tP k4
    have nB : (2 * i + 3) ^ i * Su ≤ P * X0 := Nat.mul_le_mul (pw i hi) k5
    refine ⟨fun j hj => Sml.of (t2 j hj) (Nat.le_trans tB up) (by rw [Nat.mul_one]; exact Nat.le_trans nB up), fun k hk => Sml.of (t3 k hk) (Nat.le_trans tB up) (Nat.mul_le_mul (by omega) nB)⟩
  have eqv : ∀ i, i ≤ s.r → ∀ l, l < i → v (s.p l) = s.sum i (s.parts v i) (s.p l) := fun i hi l hl => by
    have a := Spn.rest_parts h v i hi (s.p l) (h.pn l (by omega))
    rw [Spn.rest_piv h v i hi l hl] at a
    grind
  have bm : ∀ i k, i < s.r → k < n → s.b i k = s.R i k - s.sum i (fun j => - s.m i j) k := fun i k hi hk => by
    rw [h.bm i k hi hk]
    show s.sum i (s.m i) k + s.m i i * s.R i k = _
    rw [h.m1 i hi]
    have : s.sum i (fun j => - s.m i j) k = - s.sum i (s.m i) k := by
      show sm _ _ = - sm _ _
      rw [← sm_neg]
      exact sm_congr fun j _ => by grind
    rw [this]; grind
  have eqb : ∀ i, i < s.r → ∀ l, l < i → s.R i (s.p l) = s.sum i (fun j => - s.m i j) (s.p l) := fun i hi l hl => by
    have a := bm i (s.p l) hi (h.pn l (by omega))
    rw [h.bl i l hi hl] at a
    grind
  refine ⟨hx, hn, fun i k hi hk => ?_, fun i j hi hj => ?_, fun i k hi hk => ?_, fun i j hi hj => ?_⟩
  · have := (cut hi h1 hv h2 h3 h4 (eqv i hi)).2 k hk
    rwa [← Spn.rest_parts h v i hi k hk] at this
  · by_cases e : j < i
    · exact (cut hi h1 hv h2 h3 h4 (eqv i hi)).1 j e
    · rw [Spn.parts_hi s v (by omega)]
      exact Sml.zero (by omega)
  · have := (cut (Nat.le_of_lt hi) Nat.one_pos (fun k hk => f01 _ (hR i k hi hk)) Nat.one_pos hX0 hX0 (eqb i hi)).2 k hk
    rwa [← bm i k hi hk] at this
  · by_cases e : j < i
    · have := (cut (Nat.le_of_lt hi) Nat.one_pos (fun k hk => f01 _ (hR i k hi hk)) Nat.one_pos hX0 hX0 (eqb i hi)).1 j e
      have := this.neg
      rwa [show - - s.m i j = s.m i j by grind] at this
    · have : j = i := by omega
      subst this
      rw [h.m1 j hi]
      exact ⟨by show 1 ≤ _; omega, by show 1 ≤ _; omega⟩
/-- clearing where all rows have the same sizes -/
theorem const_scap {n Z : Nat} {s : Spn} {v : Nat → Rat} {C0 S0 : Nat} (h : s.Ok n) (hn : n ≤ 1000) (hr : s.r ≤ Z) (hR : ∀ i k, i < s.r → k < n → Fit C0 S0 (s.R i k)) (hv : ∀ k, k < n → Fit C0 S0 (v k)) (c0 : 0 < C0) (s0 : 0 < S0)
    (hx : (1001 * ((2 * Z + 3) ^ Z * S0 ^ (Z + 1) * C0)) * ((1001 * ((2 * Z + 3) ^ Z * S0 ^ (Z + 1) * C0)) * (1001 * ((2 * Z + 3) ^ Z * S0 ^ (Z + 1) * C0))) < 2 ^ 9000) : SCap n s v (1001 * ((2 * Z + 3) ^ Z * S0 ^ (Z + 1) * C0)) := by
  have bnd : ∀ i, i ≤ s.r → (2 * i + 3) ^ i * (prodN i (fun _ => S0) * S0) ≤ (2 * Z + 3) ^ Z * S0 ^ (Z + 1) := fun i hi => by
    rw [prodN_const]
    show (2 * i + 3) ^ i * S0 ^ (i + 1) ≤ _
    refine Nat.mul_le_mul ?_ (Nat.pow_le_pow_right s0 (by omega))
    exact Nat.le_trans (Nat.pow_le_pow_left (by omega) i) (Nat.pow_le_pow_right (by omega) (by omega))
  have rc : RCap n s (fun _ => C0) (fun _ => S0) C0 S0 ((2 * Z + 3) ^ Z * S0 ^ (Z + 1)) C0 := ⟨hn, fun _ _ => s0, s0, c0, fun _ _ => Nat.le_refl _, Nat.le_refl _, bnd, fun i hi => bnd i (by omega), hx⟩
  exact rc.scap h (fun j k hj hk => hR j k hj hk) hv
end MP
namespace WM
/-! the words that are kept, by the machine on the rows they lead to -/
theorem Spn.full {n : Nat} {s : Spn} (h : s.Ok n) (hr : s.r = n) (v : Nat → Rat) : ∀ k, k < n → v k = s.sum s.r (s.parts v s.r) k := fun k hk => by
  refine Spn.sum_of_rest h hk (Classical.byContradiction fun z => ?_)
  have := Spn.r_le (h.put hk z)
  have : s.r + 1 ≤ n := this
  omega
/-- which numbers of a row may be other than nought -/
theorem LInv.coords {m : Mac} {ws : List (List Nat)} {s : Spn} {kw : Nat → List Nat} (I : LInv m ws ws.length s kw) (hk : 0 < m.k) : ∀ (N : Nat) (v : List Nat), idx m.k v ≤ N → Word m.k v → ∀ l, l < s.r → ¬ idx m.k (kw l) ≤ idx m.k v → (m.less s).row v l = 0 := by
  intro N
  have cl := I.closed
  have kd : ∀ i, i < s.r → Word m.k (kw i) := fun i hi => by
    obtain ⟨j, _, e⟩ := I.kat i hi
    exact I.dig _ (List.mem_of_getElem? e)
  induction N using Nat.strongRecOn with
  | ind N ih =>
    intro v hN hd l hl hlt
    rcases I.where_ hk v.length v rfl hd with ⟨x, y, j, e, h1, h2⟩ | ⟨x, y, e, c, h1, h2⟩ | ⟨⟨i, h1, h2⟩, _⟩
    · have := get_lt h2
      omega
    · subst e
      have hxd : Word m.k x := fun t ht => hd t (List.mem_append_left _ ht)
      have e1 : ∀ b, b < s.r → (m.less s).row x b = c b := Spn.uniq2 I.ok (Nat.le_refl _) fun p hp => by
        have hpn := I.ok.pn p hp
        rw [← cl.row _ x rfl hxd _ hpn, h2 _ hpn]
      have key := sum_wt { m.less s with L := fun j => if j = l then 1 else 0 } (s := ⟨s.r, fun i => (m.less s).row (kw i), s.p, s.b, s.m⟩) (kw := kw) (fun i _ => rfl) (x := x) (c := c) (fun b hb => by
        have hb : b < s.r := hb
        show (m.less s).row x b = sm s.r fun i => c i * (m.less s).row (kw i) b
        rw [e1 b hb, sm_one (k := b) hb (fun i hi hne => by rw [cl.unit hi (kd i hi) (I.R i hi) b hb, if_neg (fun z => hne z.symm)]; grind), cl.unit hb (kd b hb) (I.R b hb) b hb, if_pos rfl]
        grind) y
      have wl : ∀ w, ({ m.less s with L := fun j => if j = l then 1 else 0 } : Mac).wt w = (m.less s).row w l := fun w => by
        show sm s.r (fun j => (m.less s).row w j * (if j = l then 1 else 0)) = _
        rw [sm_one hl (fun j _ hj => by rw [if_neg hj]; grind), if_pos rfl]; grind
      rw [wl] at key
      rw [key]
      exact sm_zero fun i hi => by
        have hi : i < s.r := hi
        rw [wl]
        by_cases hx : idx m.k (kw i) < idx m.k x
        · have hlt2 := idx_app_lt hk y hx
          have hdw : Word m.k (kw i ++ y) := fun t ht => (List.mem_append.mp ht).elim (kd i hi t) fun h => hd t (List.mem_append_right _ h)
          rw [ih (idx m.k (kw i ++ y)) (by omega) (kw i ++ y) (Nat.le_refl _) hdw l hl (by omega)]
          grind
        · rw [h1 i hi hx]; grind
    · have e := cl.unit h1 (kd i h1) (I.R i h1) _ hl
      rw [h2] at e
      rw [e, if_neg]
      intro z
      subst z
      rw [h2] at hlt
      omega
end WM
set_option Elab.async false
set_option linter.all false
set_option maxRecDepth 100000
set_option maxHeartbeats 4000000
namespace MP
open PySem PySem.Spec PyProof.Rows L2 WM
section
variable {m : Mac} {ws : List (List Nat)} {s : Spn} {kw : Nat → List Nat}
theorem Pass1.lrow (h : Pass1 m ws s kw) {u : List Nat} (hu : Word m.k u) : ∀ j, j < s.r → (m.less s).row u j = s.parts (m.row u) s.r j :=
  Spn.uniq2 h.I.ok (Nat.le_refl _) fun l hl => by
    have hp := h.I.ok.pn l hl
    have e := h.closed.row _ u rfl hu
    rw [← e _ hp]
    exact Spn.coord h.closed.ok ⟨_, e⟩ _ hp
theorem Pass1.unit (h : Pass1 m ws s kw) {i j : Nat} (hi : i < s.r) (hj : j < s.r) : (m.less s).row (kw i) j = if j = i then 1 else 0 := h.closed.unit hi (h.word hi) (h.R hi) j hj
theorem Pass1.trow1 (h : Pass1 m ws s kw) {i t : Nat} (hi : i < s.r) : m.row (kw i ++ [t]) = m.step (s.R i) t := by rw [Mac.row_snoc, h.R hi]
/-- forwards of what forwards gave keeps words that were kept -/
theorem Pass1.again (h : Pass1 m ws s kw) {X P : Nat} (hk : m.k ≤ 100) (k0 : 0 < m.k) (hr : s.r ≤ 1000) (hP : (2 * s.r + 3) ^ s.r ≤ P) (hx : (1001 * (P * X)) * ((1001 * (P * X)) * (1001 * (P * X))) < 2 ^ 9000) (X1 : 0 < X) (hX : X < 2 ^ 9000)
    (hpf : ∀ u ∈ ws, ∃ D0 N0, D0 ≤ X ∧ N0 ≤ X ∧ ∀ j, j < s.r → Fit D0 N0 (s.parts (m.row u) s.r j)) (hL : ∀ a, a < s.r → Sml X (m.dotL (s.R a))) :
    ∃ ws' s' kw', LInv { m.less s with L := Mac.zero } ws' ws'.length s' kw' ∧ (∀ i, i < s'.r → ∃ j, j < s.r ∧ kw j = kw' i) ∧ m_forwards [macD (m.less s)] = .ok (.tup [macD ((m.less s).less s'), .lst (kwsD s'.r kw')], false) := by
  have inws : ∀ (ws' : List (List Nat)) (n' : Nat) (s' : Spn) (kw' : Nat → List Nat), LInv { m.less s with L := Mac.zero } ws' n' s' kw' → (∀ i, i < s'.r → ∃ j, j < s.r ∧ kw j = kw' i) → ∀ u ∈ ws', u ∈ ws := fun ws' n' s' kw' I hQ u hu => by
    rcases I.last u hu with e | ⟨i, t, hi, ht, e⟩
    · subst e; exact h.I.w0
    · obtain ⟨j, hj, ej⟩ := hQ i hi
      rw [e, ← ej]; exact h.I.kid j t hj ht
  have hrow : ∀ u ∈ ws, ∃ D0, 0 < D0 ∧ D0 ≤ X ∧ ∀ k, k < s.r → Fit D0 X ((m.less s).row u k) := fun u hu => by
    obtain ⟨D0, N0, d1, d2, d3⟩ := hpf u hu
    rcases Nat.eq_zero_or_pos s.r with e | e
    · exact ⟨1, Nat.one_pos, X1, fun k hk => by omega⟩
    · refine ⟨D0, (d3 0 e).1, d1, fun k hk => ?_⟩
      rw [h.lrow (h.I.dig u hu) k hk]
      exact (d3 k hk).mono d2
  have hT : ∀ t, t < m.k → ∀ i b, i < s.r → b < s.r → Sml X ((m.less s).T t i b) := fun t ht i b hi hb => by
    obtain ⟨D0, N0, d1, d2, d3⟩ := hpf _ (h.I.kid i t hi ht)
    have e := d3 b hb
    rw [h.trow1 hi] at e
    exact Sml.of e d1 d2
  have lg : LG (m.less s) s.r (fun u => ∃ j, j < s.r ∧ kw j = u) :=
    { hn := hr
      hZ := hr
      rk := fun _ _ _ _ I => Spn.r_le I.ok
      hk := hk
      k0 := k0
      sc := fun ws' n' s' kw' I hQ u hu => by
        obtain ⟨D0, d0, d1, d2⟩ := hrow u (inws _ _ _ _ I hQ u hu)
        refine ⟨_, unit_scap (P := P) I.ok hr (fun i k hi hk => ?_) ?_ d2 d0 X1 d1 (Nat.le_refl _) hx⟩
        · obtain ⟨j, hj, ej⟩ := hQ i hi
          have e : ({ m.less s with L := Mac.zero } : Mac).row (kw j) k = if k = j then 1 else 0 := h.unit hj hk
          rw [I.R i hi, ← ej, e]
          by_cases z : k = j
          · rw [if_pos z]; exact .inr rfl
          · rw [if_neg z]; exact .inl rfl
        · have : s'.r ≤ s.r := Spn.r_le I.ok
          exact Nat.le_trans (Nat.le_trans (Nat.pow_le_pow_left (by omega) _) (Nat.pow_le_pow_right (by omega) this)) hP
      led := fun w hw hwd hl t ht x hx' => by
        obtain ⟨j, hj, rfl⟩ := hw
        have e := led_unit (T := (m.less s).T t) hx' (by show s.r ≤ _; omega) hj hX (fun i hi => h.unit hj hi) (fun i b hi hb => hT t ht i b hi hb)
        rw [Mac.row_snoc]
        exact e
      kept := fun ws' n' s' kw' u q I hQ hu hq h0 => by
        have huw := inws _ _ _ _ I hQ u (List.mem_of_getElem? hu)
        have hud := h.I.dig u huw
        obtain ⟨jj, hjj⟩ := List.getElem?_of_mem huw
        rcases h.I.done jj u (get_lt hjj) hjj with ⟨i, h1, h2⟩ | ⟨c, h1, h2⟩
        · exact ⟨i, h1, h2⟩
        · exfalso
          have h2 : ∀ b, b < m.n → m.row u b = s.sum s.r c b := h2
          have lc : ∀ b, b < s.r → (m.less s).row u b = c b := Spn.uniq2 h.I.ok (Nat.le_refl _) fun p hp => by
            have hpn := h.I.ok.pn p hp
            rw [← h.closed.row _ u rfl hud _ hpn, h2 _ hpn]
          have one : ∀ i, i < s.r → c i ≠ 0 → ∃ d : Nat → Rat, ∀ k, k < s.r → (if k = i then (1 : Rat) else 0) = s'.sum s'.r d k := fun i hi hc => by
            have hidx : idx m.k (kw i) < idx m.k u := Classical.byContradiction fun z => hc (h1 i hi z)
            rcases I.where_ k0 _ (kw i) rfl (h.word hi) with ⟨x, y, j, e, a1, a2⟩ | ⟨x, y, e, d, a1, a2⟩ | ⟨⟨i', a1, a2⟩, _⟩
            · exfalso
              have b1 := idx_app_ge k0 x y
              rw [← e] at b1
              rcases Nat.eq_or_lt_of_le a1 with z | z
              · subst z
                rw [hu] at a2
                cases a2
                omega
              · have := I.inc n' j u x z hu a2
                have : idx m.k u < idx m.k x := this
                omega
            · exfalso
              have key := sum_wt { m.less s with L := fun j => if j = i then 1 else 0 } (s := s') (kw := kw') (fun l hl => I.R l hl) (x := x) (c := d) (fun b hb => a2 b hb) y
              have wl : ∀ w, ({ m.less s with L := fun j => if j = i then 1 else 0 } : Mac).wt w = (m.less s).row w i := fun w => by
                show sm s.r (fun j => (m.less s).row w j * (if j = i then 1 else 0)) = _
                rw [sm_one hi (fun j _ hj => by rw [if_neg hj]; grind), if_pos rfl]; grind
              rw [wl, ← e, h.unit hi hi, if_pos rfl] at key
              have z : sm s'.r (fun l => d l * ({ m.less s with L := fun j => if j = i then 1 else 0 } : Mac).wt (kw' l ++ y)) = 0 := sm_zero fun l hl => by
                rw [wl]
                by_cases hx : idx m.k (kw' l) < idx m.k x
                · have hlt2 := idx_app_lt k0 y hx
                  rw [← e] at hlt2
                  have hkw : Word m.k (kw' l) := by
                    obtain ⟨j, _, ej⟩ := hQ l hl |> fun ⟨j, hj, ej⟩ => (⟨j, hj, ej⟩ : ∃ j, j < s.r ∧ kw j = kw' l)
                    rw [← ej]; exact h.word ‹_›
                  have hy : Word m.k y := fun t ht => h.word hi t (by rw [e]; exact List.mem_append_right _ ht)
                  have co := h.I.coords k0 _ (kw' l ++ y) (Nat.le_refl _) (fun t ht => (List.mem_append.mp ht).elim (hkw t) (hy t)) i hi (by
                    show ¬ idx m.k (kw i) ≤ idx m.k (kw' l ++ y)
                    omega)
                  have co : (m.less s).row (kw' l ++ y) i = 0 := co
                  rw [co]; grind
                · rw [a1 l hl hx]; grind
              rw [z] at key
              exact absurd key (by decide)
            · refine ⟨fun l => if l = i' then 1 else 0, fun k hk => ?_⟩
              have e : ({ m.less s with L := Mac.zero } : Mac).row (kw i) k = if k = i then 1 else 0 := h.unit hi hk
              show _ = sm s'.r fun l => (if l = i' then (1 : Rat) else 0) * s'.R l k
              rw [sm_one a1 (fun l _ hl => by rw [if_neg hl]; grind), if_pos rfl, I.R i' a1, a2, e]; grind
          have comb : ∀ K, K ≤ s.r → ∃ d : Nat → Rat, ∀ k, k < s.r → sm K (fun i => c i * (if k = i then 1 else 0)) = s'.sum s'.r d k := fun K => by
            induction K with
            | zero => intro _; exact ⟨fun _ => 0, fun k _ => (sm_zero fun l _ => by grind).symm⟩
            | succ K ih =>
              intro hK
              obtain ⟨d, hd⟩ := ih (by omega)
              by_cases z : c K = 0
              · exact ⟨d, fun k hk => by
                  show sm K _ + c K * _ = _
                  rw [hd k hk, z]; grind⟩
              · obtain ⟨g, hg⟩ := one K (by omega) z
                refine ⟨fun l => d l + c K * g l, fun k hk => ?_⟩
                show sm K _ + c K * _ = sm s'.r _
                rw [hd k hk, hg k hk]
                show sm s'.r _ + c K * sm s'.r _ = _
                rw [← sm_mul, ← sm_add]
                exact sm_congr fun l _ => by grind
          obtain ⟨d, hd⟩ := comb s.r (Nat.le_refl _)
          refine h0 (Spn.rest_of_sum I.ok (c := d) (fun k hk => ?_) q hq)
          have hk : k < s.r := hk
          rw [← hd k hk, sm_one (k := k) hk (fun i _ hi => by rw [if_neg (fun z => hi z.symm)]; grind), if_pos rfl]
          show (m.less s).row u k = _
          rw [lc k hk]; grind }
  exact forwards_ok lg fun w hw hwd hl => by
    obtain ⟨j, hj, rfl⟩ := hw
    exact dot_gen (rL_sq _ _) (rT_sq _ _) (fun i hi => tabs_get hi) (by show s.r < _; omega) (unit_sz hj hX (fun i hi => h.unit hj hi) hL)
end
/-! the smallest machine: sizes of its rows, how it is led and weighed -/
structure MinF (m min : Mac) (D N G E X : Nat) : Prop where
  k : min.k = m.k
  X0 : 0 < X
  row : ∀ w, Word m.k w → ∀ i, i < min.n → Fit (D * E ^ w.length) (lnS N G w.length) (min.row w i)
  T : ∀ t b, t < m.k → b < min.n → ∃ D0 N0, D0 ≤ X ∧ N0 ≤ X ∧ ∀ i, i < min.n → Fit D0 N0 (min.T t i b)
  L : ∃ D0 N0, 0 < D0 ∧ D0 ≤ X ∧ N0 ≤ X ∧ ∀ i, i < min.n → Fit D0 N0 (min.L i)
  F : ∃ D0, D0 < 2 ^ 9000 ∧ ∃ N0, ∀ i, i < min.n → Fit D0 N0 (min.F i)
/-- numbers at which rows are led and weighed -/
structure NumG (Z D N G E X : Nat) : Prop where
  c : D * E ^ Z * X * (D * E ^ Z * X) < 2 ^ 9000
  s : lnS N G Z < 2 ^ 9000
  x : X < 2 ^ 9000
section
variable {m min : Mac} {Z D N G E X : Nat}
theorem NumG.cap (g : LNumG Z D N G E) (c : NumG Z D N G E X) {n l D0 N0 : Nat} (hn : n ≤ 1000) (hl : l ≤ Z) (d1 : D0 ≤ X) (d2 : N0 ≤ X) : Cap n (D * E ^ l) (lnS N G l) D0 N0 :=
  ⟨Nat.lt_of_le_of_lt (Nat.mul_le_mul (Nat.mul_le_mul (lnK_le g hl) d1) (Nat.mul_le_mul (lnK_le g hl) d1)) c.c, Nat.lt_of_le_of_lt (lnS_mono g hl) (up180 c.s), up180 (Nat.lt_of_le_of_lt d2 c.x), lt1000 hn⟩
theorem MinF.shp (f : MinF m min D N G E X) (g : LNumG Z D N G E) (c : NumG Z D N G E X) (hn : min.n ≤ Z) (hk : m.k ≤ 100) (k0 : 0 < m.k) : ShpG min Z D N G E where
  hn := by have := g.Z1; omega
  hk := by rw [f.k]; exact hk
  k0 := by rw [f.k]; exact k0
  rk := fun _ _ _ _ I => Nat.le_trans (Spn.r_le I.ok) hn
  row := fun w hw _ i hi => f.row w (by rw [← f.k]; exact hw) i hi
  led := fun w hw hl t ht x hx => by
    rw [f.k] at hw ht
    have hZ := g.Z1
    rw [Mac.row_snoc]
    exact led_col (T := min.T t) hx (by omega) fun b hb => by
      obtain ⟨D0, N0, d1, d2, d3⟩ := f.T t b ht hb
      exact ⟨_, _, D0, N0, c.cap g (by omega) hl d1 d2, f.row w hw, d3⟩
  lled := fun w hw hl t ht => by
    rw [f.k] at hw ht
    have hZ := g.Z1
    rw [Mac.row_snoc]
    exact law_led_col (T := min.T t) (rL_sq min.n (min.row w)) (by omega) fun b hb => by
      obtain ⟨D0, N0, d1, d2, d3⟩ := f.T t b ht hb
      exact ⟨_, _, D0, N0, c.cap g (by omega) hl d1 d2, f.row w hw, d3⟩
  dot := fun w hw hl => by
    rw [f.k] at hw
    have hZ := g.Z1
    obtain ⟨D0, N0, _, d1, d2, d3⟩ := f.L
    exact dot_ok (xs := []) (rL_sq min.n (min.row w)) (rT_sq min.n min.L) (fun i hi => tabs_get hi) (c.cap g (by omega) hl d1 d2) (by omega) (f.row w hw) d3
  ldot := fun w hw hl => by
    rw [f.k] at hw
    have hZ := g.Z1
    obtain ⟨D0, N0, _, d1, d2, d3⟩ := f.L
    exact law_dot_ok (xs := []) (rL_sq min.n (min.row w)) (rT_sq min.n min.L) (fun i hi => tabs_get hi) (c.cap g (by omega) hl d1 d2) (by omega) (f.row w hw) d3
/-- the machine and its smallest one beside each other -/
theorem MinF.apart (f : MinF m min D N G E X) {D1 N1 E1 M1 A1 B1 : Nat} (fm : MFit m D1 N1 E1 M1 A1 B1) (g : LNumG Z D N G E) (c : NumG Z D N G E (A1 * (B1 * X))) (hn : m.n + min.n ≤ 1000) (hk : m.k ≤ 100) (k0 : 0 < m.k)
    (rk : ∀ (ws : List (List Nat)) (n : Nat) (s : Spn) (kw : Nat → List Nat), LInv { m.apart min with L := Mac.zero } ws n s kw → s.r ≤ Z)
    (hrow : ∀ w, Word m.k w → ∀ i, i < m.n → Fit (D * E ^ w.length) (lnS N G w.length) (m.row w i)) (hA : 0 < A1) (hB : 0 < B1) (hE : 0 < E1) (hEX : E1 ≤ A1 * (B1 * X)) (hMX : M1 ≤ A1 * (B1 * X)) : ShpG (m.apart min) Z D N G E := by
  have row : ∀ w, Word m.k w → ∀ i, i < m.n + min.n → Fit (D * E ^ w.length) (lnS N G w.length) ((m.apart min).row w i) := fun w hw i hi => by
    have e : (m.apart min).row w = Mac.cat m.n (m.row w) (min.row w) := Mac.sum_row _ _ _
    rw [e]
    by_cases h : i < m.n
    · rw [Mac.cat_lo h]; exact hrow w hw i h
    · obtain ⟨j, rfl⟩ : ∃ j, i = m.n + j := ⟨i - m.n, by omega⟩
      rw [Mac.cat_hi]; exact f.row w hw j (by omega)
  have XX : X ≤ A1 * (B1 * X) := Nat.le_trans (Nat.le_mul_of_pos_left _ hB) (Nat.le_mul_of_pos_left _ hA)
  have T : ∀ t b, t < m.k → b < m.n + min.n → ∃ D0 N0, D0 ≤ A1 * (B1 * X) ∧ N0 ≤ A1 * (B1 * X) ∧ ∀ i, i < m.n + min.n → Fit D0 N0 ((m.apart min).T t i b) := fun t b ht hb => by
    have eT : ∀ i, (m.apart min).T t i = if i < m.n then Mac.cat m.n (m.T t i) Mac.zero else Mac.cat m.n Mac.zero (min.T t (i - m.n)) := fun i => rfl
    by_cases h : b < m.n
    · refine ⟨E1, M1, hEX, hMX, fun i hi => ?_⟩
      rw [eT]
      split
      · rw [Mac.cat_lo h]; exact fm.T t i b ht ‹_› h
      · rw [Mac.cat_lo h]; exact Fit.zero hE
    · obtain ⟨j, rfl⟩ : ∃ j, b = m.n + j := ⟨b - m.n, by omega⟩
      have hj : j < min.n := by omega
      obtain ⟨D0, N0, d1, d2, d3⟩ := f.T t j ht hj
      refine ⟨D0, N0, Nat.le_trans d1 XX, Nat.le_trans d2 XX, fun i hi => ?_⟩
      rw [eT]
      split
      · rw [Mac.cat_hi]; exact Fit.zero (d3 j hj).1
      · rw [Mac.cat_hi]; exact d3 _ (by omega)
  obtain ⟨D0, N0, d0, d1, d2, d3⟩ := f.L
  have L : ∃ Da Na, Da ≤ A1 * (B1 * X) ∧ Na ≤ A1 * (B1 * X) ∧ ∀ i, i < m.n + min.n → Fit Da Na ((m.apart min).L i) := by
    refine ⟨A1 * D0, A1 * (B1 * X), Nat.mul_le_mul_left _ (Nat.le_trans d1 (Nat.le_mul_of_pos_left _ hB)), Nat.le_refl _, fun i hi => ?_⟩
    have eL : (m.apart min).L = Mac.cat m.n m.L (fun i => - min.L i) := rfl
    rw [eL]
    by_cases h : i < m.n
    · rw [Mac.cat_lo h]
      refine ((fm.L i h).scale D0 d0).mono ?_
      exact Nat.le_trans (Nat.mul_le_mul_left _ d1) (Nat.le_mul_of_pos_left _ hA)
    · obtain ⟨j, rfl⟩ : ∃ j, i = m.n + j := ⟨i - m.n, by omega⟩
      rw [Mac.cat_hi]
      have e := ((d3 j (by omega)).neg).scale A1 hA
      rw [Nat.mul_comm D0] at e
      refine e.mono ?_
      rw [Nat.mul_comm N0]
      exact Nat.mul_le_mul_left _ (Nat.le_trans d2 (Nat.le_mul_of_pos_left _ hB))
  have e1 : (m.apart min).n = m.n + min.n := rfl
  exact {
    hn := hn
    hk := hk
    k0 := k0
    rk := rk
    row := fun w hw _ i hi => row w hw i hi
    led := fun w hw hl t ht x hx => by
      rw [Mac.row_snoc]
      exact led_col (T := (m.apart min).T t) hx (by show m.n + min.n ≤ _; omega) fun b hb => by
        obtain ⟨D0, N0, d1, d2, d3⟩ := T t b ht hb
        exact ⟨_, _, D0, N0, c.cap g hn hl d1 d2, row w hw, d3⟩
    lled := fun w hw hl t ht => by
      rw [Mac.row_snoc]
      exact law_led_col (T := (m.apart min).T t) (rL_sq _ ((m.apart min).row w)) (by show m.n + min.n ≤ _; omega) fun b hb => by
        obtain ⟨D0, N0, d1, d2, d3⟩ := T t b ht hb
        exact ⟨_, _, D0, N0, c.cap g hn hl d1 d2, row w hw, d3⟩
    dot := fun w hw hl => by
      obtain ⟨Da, Na, a1, a2, a3⟩ := L
      exact dot_ok (xs := []) (rL_sq _ _) (rT_sq _ _) (fun i hi => tabs_get hi) (c.cap g hn hl a1 a2) (by show m.n + min.n < _; omega) (row w hw) a3
    ldot := fun w hw hl => by
      obtain ⟨Da, Na, a1, a2, a3⟩ := L
      exact law_dot_ok (xs := []) (rL_sq _ _) (rT_sq _ _) (fun i hi => tabs_get hi) (c.cap g hn hl a1 a2) (by show m.n + min.n < _; omega) (row w hw) a3 }
end
end MP
set_option Elab.async false
set_option linter.all false
set_option maxRecDepth 100000
set_option maxHeartbeats 4000000
namespace WM
/-- products of independent rows with rows that span all are independent -/
theorem Ind.pair {r : Nat} {U : Nat → Nat → Rat} {s : Spn} (hU : Ind r r U) (hs : s.Ok r) (hr : s.r = r) : Ind r r (fun i k => sm r fun a => U i a * s.R k a) := by
  intro c hc
  refine hU c fun b hb => ?_
  have key : ∀ k, k < r → sm r (fun a => sm r (fun i => c i * U i a) * s.R k a) = 0 := fun k hk => by
    rw [← hc k hk]
    have e1 : sm r (fun i => c i * sm r fun a => U i a * s.R k a) = sm r (fun i => sm r fun a => c i * (U i a * s.R k a)) := sm_congr fun i _ => (sm_mul _ _ _).symm
    rw [e1, sm_swap (fun i a => c i * (U i a * s.R k a))]
    exact sm_congr fun a _ => by
      rw [← sm_mulr]
      exact sm_congr fun i _ => by grind
  have e := Spn.full hs hr (fun a => if a = b then 1 else 0)
  have e2 : sm r (fun i => c i * U i b) = sm r (fun a => sm r (fun i => c i * U i a) * (if a = b then 1 else 0)) := by
    refine Eq.symm ((sm_one (f := fun a => sm r (fun i => c i * U i a) * (if a = b then (1 : Rat) else 0)) (k := b) hb (fun a _ ha => ?_)).trans ?_)
    · show _ * (if a = b then (1 : Rat) else 0) = 0
      rw [if_neg ha]; grind
    · show _ * (if b = b then (1 : Rat) else 0) = _
      rw [if_pos rfl]; grind
  rw [e2]
  have e3 : sm r (fun a => sm r (fun i => c i * U i a) * (if a = b then 1 else 0)) = sm r (fun a => sm s.r fun k => s.parts (fun a => if a = b then 1 else 0) s.r k * (sm r (fun i => c i * U i a) * s.R k a)) := sm_congr fun a ha => by
    rw [e a ha]
    show _ * sm s.r _ = _
    rw [← sm_mul]
    exact sm_congr fun k _ => by grind
  rw [e3, sm_swap (fun a k => s.parts (fun a => if a = b then 1 else 0) s.r k * (sm r (fun i => c i * U i a) * s.R k a))]
  exact sm_zero fun k hk => by
    rw [sm_mul, key k (by omega)]; grind
end WM
namespace MP
open PySem PySem.Spec PyProof.Rows L2 WM
noncomputable def ce_witnesses_1 : ME := (.tupRev (.loc 3))
noncomputable def c_witnesses_1 : ME := .comp ce_witnesses_1 3 .val [(.sub (.call "forwards" m_forwards [(.call "turned" m_turned [(.loc 1)])]) (.int 1))]
noncomputable def b_witnesses : List MS := [.set 1 (.call "smallest" m_smallest [(.loc 0)]), .set 2 c_witnesses_1, .ret (.tup [(.sub (.call "forwards" m_forwards [(.loc 1)]) (.int 1)), (.loc 2)])]
noncomputable def m_witnesses : Fn := mirror 4 fuel b_witnesses
noncomputable def wb_law_are_words_1 : List MS := [.ife (.or (.not (.call "_law_whole" m_law_whole [(.loc 4)])) (.not (.cmp2 .le .lt (.int 0) (.loc 4) (.loc 2)))) [.ret (.bl false)] []]
noncomputable def w_law_are_words_1 : MS := .forI 4 .val [(.loc 3)] wb_law_are_words_1
noncomputable def wb_law_are_words_2 : List MS := [.ife (.or (.not (.isi (.loc 3) .tuple)) (.cmp .gt (.blt .len [(.loc 3)]) (.int 60))) [.ret (.bl false)] [], w_law_are_words_1]
noncomputable def w_law_are_words_2 : MS := .forI 3 .val [(.loc 0)] wb_law_are_words_2
noncomputable def b_law_are_words : List MS := [.ife (.or (.not (.isi (.loc 0) .list)) (.cmp .ne (.blt .len [(.loc 0)]) (.loc 1))) [.ret (.bl false)] [], w_law_are_words_2, .ret (.bl true)]
noncomputable def m_law_are_words : Fn := mirror 5 fuel b_law_are_words
theorem proper_row_den {n : Nat} {f : Nat → Rat} (h : ∀ i, i < n → (f i).den < 2 ^ 9000) : m_law_proper_row [rT n f, .int n] = .ok (.bl true, false) := by
  refine mir_ret ?_
  unfold b_law_proper_row
  obtain ⟨S', l1, s2, l2⟩ := for_tab (f := exSs fuel wb_law_proper_row_1) (tg := fun S d => some (S.set 2 (.sh d))) (fun j S => ∃ s2, S = [.sh (rT n f), .sh (.int n), s2]) (fun i => fr (f i)) (n := n) (S := [.sh (rT n f), .sh (.int n), .no]) ⟨.no, rfl⟩ (by
    rintro j S hj ⟨s2, rfl⟩
    have e := proper_ok (f j) (h j hj)
    refine ⟨_, [.sh (rT n f), .sh (.int n), .sh (fr (f j))], rfl, ?_, _, rfl⟩
    simp [wb_law_proper_row_1, exSs, exS, evE, evEs, args1, hasBo, e])
  subst l2
  have e4 : evIs (rT n f) .tuple = .ok (.bl true, .sh) := rfl
  rw [ss_go (S1 := [.sh (rT n f), .sh (.int n), .no]) (by simp [exSs, exS, evE, evEs, args1, e4, rT_len, hasBo]), ss_go (S1 := [.sh (rT n f), .sh (.int n), s2]) (by
    rw [w_law_proper_row_1, exS]
    simp [evI, evEs, evE, args1, hasBo, rT, items]
    exact l1)]
  simp [exSs, exS, evE]
theorem is_machine_den {m : Mac} (hF : ∀ i, i < m.n → (m.F i).den < 2 ^ 9000) (hT : ∀ t a b, t < m.k → a < m.n → b < m.n → (m.T t a b).den < 2 ^ 9000) (hL : ∀ i, i < m.n → (m.L i).den < 2 ^ 9000) : m_law_is_machine [macD m, .int m.n, .int m.k] = .ok (.bl true, false) := by
  refine mir_ret ?_
  unfold b_law_is_machine
  have p1 := proper_row_den hF
  have p2 := proper_row_den hL
  obtain ⟨S', l1, s3, s4, l2⟩ := for_tab (f := exSs fuel wb_law_is_machine_2) (tg := fun S d => some (S.set 3 (.sh d))) (fun j S => ∃ s3 s4, S = [.sh (macD m), .sh (.int m.n), .sh (.int m.k), s3, s4]) (fun s => sT m.n m.n (m.T s)) (n := m.k) (S := [.sh (macD m), .sh (.int m.n), .sh (.int m.k), .no, .no]) ⟨.no, .no, rfl⟩ (by
    rintro s S hs ⟨s3, s4, rfl⟩
    obtain ⟨S'', i1, s4', i2⟩ := for_tab (f := exSs fuel wb_law_is_machine_1) (tg := fun S d => some (S.set 4 (.sh d))) (fun b S => ∃ s4, S = [.sh (macD m), .sh (.int m.n), .sh (.int m.k), .sh (sT m.n m.n (m.T s)), s4]) (fun a => rT m.n (m.T s a)) (n := m.n) (S := [.sh (macD m), .sh (.int m.n), .sh (.int m.k), .sh (sT m.n m.n (m.T s)), s4]) ⟨s4, rfl⟩ (by
      rintro a S ha ⟨s4, rfl⟩
      have e := proper_row_den (fun i hi => hT s a i hs ha hi)
      refine ⟨_, [.sh (macD m), .sh (.int m.n), .sh (.int m.k), .sh (sT m.n m.n (m.T s)), .sh (rT m.n (m.T s a))], rfl, ?_, _, rfl⟩
      simp [wb_law_is_machine_1, exSs, exS, evE, evEs, args1, hasBo, e])
    subst i2
    refine ⟨_, [.sh (macD m), .sh (.int m.n), .sh (.int m.k), .sh (sT m.n m.n (m.T s)), s4'], rfl, ?_, _, _, rfl⟩
    have e4 : evIs (sT m.n m.n (m.T s)) .tuple = .ok (.bl true, .sh) := rfl
    rw [wb_law_is_machine_2, ss_go (S1 := [.sh (macD m), .sh (.int m.n), .sh (.int m.k), .sh (sT m.n m.n (m.T s)), s4]) (by simp [exSs, exS, evE, evEs, args1, e4, sT_len, hasBo]), ss_go (S1 := [.sh (macD m), .sh (.int m.n), .sh (.int m.k), .sh (sT m.n m.n (m.T s)), s4']) (by
      rw [w_law_is_machine_1, exS]
      simp [evI, evEs, evE, args1, hasBo, sT, items]
      exact i1)]
    rw [exSs])
  subst l2
  have e4 : evIs (macD m) .tuple = .ok (.bl true, .sh) := rfl
  have e5 : evBlt .len [macD m] = .ok (.int 3, .sh) := rfl
  rw [ss_go (S1 := [.sh (macD m), .sh (.int m.n), .sh (.int m.k), .no, .no]) (by simp [exSs, exS, evE, evEs, args1, e4, e5, mac_1, hasBo, evIsi]),
    ss_go (S1 := [.sh (macD m), .sh (.int m.n), .sh (.int m.k), .no, .no]) (by simp [exSs, exS, evE, evEs, args1, mac_0, mac_2, p1, p2, hasBo]),
    ss_go (S1 := [.sh (macD m), .sh (.int m.n), .sh (.int m.k), .no, .no]) (by simp [exSs, exS, evE, evEs, args1, mac_1, steps_len]),
    ss_go (S1 := [.sh (macD m), .sh (.int m.n), .sh (.int m.k), s3, s4]) (by
      rw [w_law_is_machine_2, exS]
      simp [evI, evEs, evE, args1, hasBo, mac_1, items]
      exact l1)]
  simp [exSs, exS, evE]
theorem are_words_ok {r k : Nat} {kw : Nat → List Nat} (hw : ∀ i, i < r → Word k (kw i) ∧ (kw i).length ≤ 60) : m_law_are_words [.lst (kwsD r kw), .int r, .int k] = .ok (.bl true, false) := by
  refine mir_ret ?_
  unfold b_law_are_words
  obtain ⟨S', l1, s3, s4, l2⟩ := for_tab (f := exSs fuel wb_law_are_words_2) (tg := fun S d => some (S.set 3 (.sh d))) (fun j S => ∃ s3 s4, S = [.sh (.lst (kwsD r kw)), .sh (.int r), .sh (.int k), s3, s4]) (fun i => wD (kw i)) (n := r) (S := [.sh (.lst (kwsD r kw)), .sh (.int r), .sh (.int k), .no, .no]) ⟨.no, .no, rfl⟩ (by
    rintro i S hi ⟨s3, s4, rfl⟩
    obtain ⟨hd, hl⟩ := hw i hi
    obtain ⟨S'', i1, s4', i2⟩ := for_inv0 (f := exSs fuel wb_law_are_words_1) (tg := fun S d => some (S.set 4 (.sh d))) (fun b S => ∃ s4, S = [.sh (.lst (kwsD r kw)), .sh (.int r), .sh (.int k), .sh (wD (kw i)), s4]) (xs := (kw i).map fun s : Nat => MP.D.int s) (S := [.sh (.lst (kwsD r kw)), .sh (.int r), .sh (.int k), .sh (wD (kw i)), s4]) ⟨s4, rfl⟩ (by
      rintro a x S hx ⟨s4, rfl⟩
      obtain ⟨t, ht, rfl⟩ := wD_get hx
      have hk := hd t (List.mem_of_getElem? ht)
      refine ⟨_, [.sh (.lst (kwsD r kw)), .sh (.int r), .sh (.int k), .sh (wD (kw i)), .sh (.int t)], rfl, ?_, _, rfl⟩
      have hk2 : (t : Int) < k := by omega
      simp [wb_law_are_words_1, exSs, exS, evE, evEs, args1, hasBo, whole_ok, evCmp, hk2])
    subst i2
    refine ⟨_, [.sh (.lst (kwsD r kw)), .sh (.int r), .sh (.int k), .sh (wD (kw i)), s4'], rfl, ?_, _, _, rfl⟩
    have e4 : evIs (wD (kw i)) .tuple = .ok (.bl true, .sh) := rfl
    have e5 : evBlt .len [wD (kw i)] = .ok (.int (kw i).length, .sh) := by
      show Res.ok (MP.D.int (((kw i).map fun s : Nat => MP.D.int s).length : Nat), Kd.sh) = _
      rw [List.length_map]
    have hl2 : ¬ (60 : Int) < (kw i).length := by omega
    rw [wb_law_are_words_2, ss_go (S1 := [.sh (.lst (kwsD r kw)), .sh (.int r), .sh (.int k), .sh (wD (kw i)), s4]) (by simp [exSs, exS, evE, evEs, args1, evIsi, e4, e5, hasBo, evCmp, hl2, hl]), ss_go (S1 := [.sh (.lst (kwsD r kw)), .sh (.int r), .sh (.int k), .sh (wD (kw i)), s4']) (by
      rw [w_law_are_words_1, exS]
      simp [evI, evEs, evE, args1, hasBo, wD, items]
      exact i1)]
    rw [exSs])
  subst l2
  have e4 : evIs (.lst (kwsD r kw)) .list = .ok (.bl true, .sh) := rfl
  have e5 : evBlt .len [.lst (kwsD r kw)] = .ok (.int r, .sh) := by rw [blt_len_l]; simp [kwsD]
  rw [ss_go (S1 := [.sh (.lst (kwsD r kw)), .sh (.int r), .sh (.int k), .no, .no]) (by simp [exSs, exS, evE, evEs, args1, evIsi, e4, e5, hasBo]),
    ss_go (S1 := [.sh (.lst (kwsD r kw)), .sh (.int r), .sh (.int k), s3, s4]) (by
      rw [w_law_are_words_2, exS]
      simp [evI, evEs, evE, args1, hasBo, items]
      exact l1)]
  simp [exSs, exS, evE]
theorem witnesses_ok {m min : Mac} {r1 r2 : Nat} {k1 k2 : Nat → List Nat} {a b : MP.D} (hs : m_smallest [macD m] = .ok (macD min, false)) (hn : min.n ≤ 1000) (hk : min.k ≤ 1000) (h1 : m_forwards [macD min] = .ok (.tup [a, .lst (kwsD r1 k1)], false)) (h2 : m_forwards [macD min.turn] = .ok (.tup [b, .lst (kwsD r2 k2)], false)) (hr : r2 ≤ 1000) :
    m_witnesses [macD m] = .ok (.tup [.lst (kwsD r1 k1), .lst (kwsD r2 fun i => (k2 i).reverse)], false) := by
  have t1 := turned_ok (m := min) hn hk
  refine mir_ret ?_
  unfold b_witnesses
  show exSs fuel _ [.sh (macD m), .no, .no, .no] = _
  have e : evE c_witnesses_1 [.sh (macD m), .sh (macD min), .no, .no] = .ok (.lst (kwsD r2 fun i => (k2 i).reverse), .fr) := by
    rw [c_witnesses_1, ev_comp (n := r2) (rs := [(.lst (kwsD r2 k2), .sh)]) (fun i => wD (k2 i)) (fun i => wD (k2 i).reverse) (by simp [evEs, evE, args1, hasBo, t1, h2, evSub]) (by simp [hasBo]) (by simp only [args1, List.map]; rfl) (by omega) (fun i hi => ⟨.sh, by decide, by
      simp [ce_witnesses_1, evE, wD, revD]⟩)]
    rfl
  rw [ss_go (S1 := [.sh (macD m), .sh (macD min), .no, .no]) (by simp [exS, evE, evEs, args1, hasBo, hs]),
    ss_go (S1 := [.sh (macD m), .sh (macD min), .sh (.lst (kwsD r2 fun i => (k2 i).reverse)), .no]) (by rw [exS, e]; rfl)]
  simp [exSs, exS, evE, evEs, args1, hasBo, h1, evSub]
/-- the rank of a table whose rows are independent -/
theorem table_rank {r Z C0 S0 : Nat} {v : Nat → Nat → Rat} (ind : Ind r r v) (hr : r ≤ Z) (hZ : Z ≤ 1000) (hf : ∀ i k, i < r → k < r → Fit C0 S0 (v i k)) (c0 : 0 < C0) (s0 : 0 < S0)
    (hx : (1001 * ((2 * Z + 3) ^ Z * S0 ^ (Z + 1) * C0)) * ((1001 * ((2 * Z + 3) ^ Z * S0 ^ (Z + 1) * C0)) * (1001 * ((2 * Z + 3) ^ Z * S0 ^ (Z + 1) * C0))) < 2 ^ 9000) :
    m_law_rank [rowsL r ((List.range r).map v)] = .ok (.int r, false) := by
  have mem : ∀ u ∈ (List.range r).map v, ∀ k, k < r → Fit C0 S0 (u k) := fun u hu k hk => by
    obtain ⟨i, hi, rfl⟩ := List.mem_map.mp hu
    exact hf i k (List.mem_range.mp hi) hk
  obtain ⟨s, k1, r1, c1, e1⟩ := law_rank_ok (n := r) (rows := (List.range r).map v) (X := 1001 * ((2 * Z + 3) ^ Z * S0 ^ (Z + 1) * C0)) (by omega) (by rw [List.length_map, List.length_range]; omega) (fun s hs h u hu => const_scap hs (by omega) (Nat.le_trans (Spn.r_le hs) hr) (fun i k hi hk => mem _ (h i hi) k hk) (mem u hu) c0 s0 hx)
  have a := Ind.le (W := s.R) ind fun i hi => c1 (v i) (List.mem_map.mpr ⟨i, List.mem_range.mpr hi, rfl⟩)
  have b := Spn.r_le k1
  rw [e1]
  have : s.r = r := by omega
  rw [this]
end MP
set_option Elab.async false
set_option linter.all false
set_option maxRecDepth 100000
set_option maxHeartbeats 4000000
namespace WM
theorem idxFrom_lt2 {k : Nat} : ∀ (a b : List Nat) (c d : Nat), a.length = b.length → Word k a → c < d → idxFrom k c a < idxFrom k d b
  | [], [], c, d, _, _, h => h
  | x :: a, y :: b, c, d, hl, hw, h => by
    show idxFrom k (c * k + x + 1) a < idxFrom k (d * k + y + 1) b
    have hx : x < k := hw x (by simp)
    have h1 : (c + 1) * k ≤ d * k := Nat.mul_le_mul_right _ h
    rw [Nat.add_mul] at h1
    exact idxFrom_lt2 a b _ _ (by simpa using hl) (fun s hs => hw s (List.mem_cons_of_mem _ hs)) (by omega)
  | [], _ :: _, _, _, hl, _, _ => by cases hl
  | _ :: _, [], _, _, hl, _, _ => by cases hl
theorem idx_short {k : Nat} {a b : List Nat} (hk : 0 < k) (hw : Word k a) (h : a.length < b.length) : idx k a < idx k b := by
  have e := (List.take_append_drop (b.length - a.length) b).symm
  rw [e, idx_app]
  show idxFrom k 0 a < _
  refine idxFrom_lt2 a _ _ _ (by rw [List.length_drop]; omega) hw ?_
  cases hb : b.take (b.length - a.length) with
  | nil =>
    have h2 := congrArg List.length hb
    rw [List.length_take, List.length_nil] at h2
    omega
  | cons x t =>
    show 0 < idxFrom k (0 * k + x + 1) t
    exact Nat.lt_of_lt_of_le (by omega) (idxFrom_ge hk t _)
end WM
namespace MP
open PySem PySem.Spec PyProof.Rows L2 WM
/-! words in order, as tuples are compared -/
theorem dl_words (k : Nat) : ∀ (a b : List Nat) (c : Nat), a.length = b.length → Word k a → PyProof.Rows.lexLt PyProof.Rows.itemOrd (PySem.W.keyToksAll (toPys (a.map fun s : Nat => MP.D.int s))) (PySem.W.keyToksAll (toPys (b.map fun s : Nat => MP.D.int s))) = true → idxFrom k c a < idxFrom k c b
  | [], [], c, _, _, h => by
    exfalso
    revert h
    show ¬ PyProof.Rows.lexLt PyProof.Rows.itemOrd (PySem.W.keyToksAll []) (PySem.W.keyToksAll []) = true
    rw [lex_irrefl]
    exact Bool.false_ne_true
  | x :: a, y :: b, c, hl, hw, h => by
    have h : PyProof.Rows.lexLt PyProof.Rows.itemOrd (PySem.W.keyToksAll (.int (x : Int) :: toPys (a.map fun s : Nat => MP.D.int s))) (PySem.W.keyToksAll (.int (y : Int) :: toPys (b.map fun s : Nat => MP.D.int s))) = true := h
    have al : PySem.W.alike (.int (x : Int)) (.int (y : Int)) = true := by simp [PySem.W.alike]
    have hx : x < k := hw x (by simp)
    show idxFrom k (c * k + x + 1) a < idxFrom k (c * k + y + 1) b
    by_cases e : x = y
    · subst e
      rw [PySem.W.dataLt_all_yes al (by simp [PyData.eqv])] at h
      exact dl_words k a b _ (by simpa using hl) (fun s hs => hw s (List.mem_cons_of_mem _ hs)) h
    · rw [PySem.W.dataLt_all_no al (by simp [PyData.eqv]; omega), PySem.W.dataLt_int, decide_eq_true_eq] at h
      exact idxFrom_lt2 a b _ _ (by simpa using hl) (fun s hs => hw s (List.mem_cons_of_mem _ hs)) (by omega)
  | [], _ :: _, _, hl, _, _ => by cases hl
  | _ :: _, [], _, hl, _, _ => by cases hl
theorem alike_ints : ∀ a b : List Nat, PySem.W.alikeAll (toPys (a.map fun s : Nat => MP.D.int s)) (toPys (b.map fun s : Nat => MP.D.int s)) = true
  | [], _ => by simp [toPys, PySem.W.alikeAll]
  | x :: a, [] => by simp [toPys, PySem.W.alikeAll]
  | x :: a, y :: b => by
    show PySem.W.alikeAll (.int (x : Int) :: toPys (a.map fun s : Nat => MP.D.int s)) (.int (y : Int) :: toPys (b.map fun s : Nat => MP.D.int s)) = true
    rw [PySem.W.alikeAll, alike_ints a b]
    simp [PySem.W.alike]
theorem depth_ints : ∀ a : List Nat, PyData.depthAll (toPys (a.map fun s : Nat => MP.D.int s)) ≤ 1
  | [] => by simp [toPys, PyData.depthAll]
  | x :: a => by
    have h := depth_ints a
    show PyData.depthAll (.int (x : Int) :: toPys (a.map fun s : Nat => MP.D.int s)) ≤ 1
    simp only [PyData.depthAll, PyData.depth]
    omega
theorem cmp_words {k : Nat} {a b : List Nat} (hk : 0 < k) (ha : Word k a) : ∃ r, evCmp .lt (.tup [.int a.length, wD a]) (.tup [.int b.length, wD b]) = .ok (.bl r, .sh) ∧ (r = true → idx k a < idx k b) := by
  have hl : ∀ c : List Nat, toPy (.tup [.int c.length, wD c]) = .tuple [.int (c.length : Int), .tuple (toPys (c.map fun s : Nat => MP.D.int s))] := fun c => by simp [toPy, toPys, wD]
  have al : PySem.W.alike (.tuple (toPys (a.map fun s : Nat => MP.D.int s))) (.tuple (toPys (b.map fun s : Nat => MP.D.int s))) = true := by rw [PySem.W.alike]; exact alike_ints a b
  have ai : PySem.W.alike (.int (a.length : Int)) (.int (b.length : Int)) = true := by simp [PySem.W.alike]
  have h1 : PySem.W.alike (toPy (.tup [.int a.length, wD a])) (toPy (.tup [.int b.length, wD b])) = true := by
    rw [hl, hl, PySem.W.alike, PySem.W.alikeAll, PySem.W.alikeAll, PySem.W.alikeAll, ai, al]; rfl
  have h2 : ∀ c : List Nat, (toPy (.tup [.int c.length, wD c])).depth ≤ 64 := fun c => by
    have := depth_ints c
    rw [hl]
    simp only [PyData.depth, PyData.depthAll]
    omega
  refine ⟨_, if_pos ⟨h1, h2 a, h2 b⟩, fun h => ?_⟩
  rw [hl, hl, PySem.W.dataLt_tuple] at h
  by_cases e : a.length = b.length
  · rw [PySem.W.dataLt_all_yes ai (by rw [e]; simp [PyData.eqv])] at h
    by_cases ev : PyData.eqv (.tuple (toPys (a.map fun s : Nat => MP.D.int s))) (.tuple (toPys (b.map fun s : Nat => MP.D.int s))) = true
    · rw [PySem.W.dataLt_all_yes al ev, lex_irrefl] at h
      cases h
    · rw [PySem.W.dataLt_all_no al (Bool.eq_false_iff.mpr ev), PySem.W.dataLt_tuple] at h
      exact dl_words k a b 0 e ha h
  · rw [PySem.W.dataLt_all_no ai (by simp [PyData.eqv]; omega), PySem.W.dataLt_int, decide_eq_true_eq] at h
    exact idx_short hk ha (by omega)
end MP
set_option Elab.async false
set_option linter.all false
set_option maxRecDepth 100000
set_option maxHeartbeats 4000000
namespace MP
open PySem PySem.Spec PyProof.Rows L2 WM
noncomputable def b_law_other : List MS := [.set 3 (.blt .len [(.sub (.loc 0) (.int 0))]), .ife (.cmp .eq (.bin .mod (.loc 1) (.int 4)) (.int 0)) [.ret (.call "_law_machine" m_law_machine [(.loc 2), (.bin .mod (.bin .fdiv (.loc 1) (.int 4)) (.int 5)), (.blt .len [(.sub (.loc 0) (.int 1))])])] [], .ife (.cmp .lt (.bin .mod (.loc 1) (.int 4)) (.int 3)) [.ret (.call "_law_kin" m_law_kin [(.loc 0), (.loc 2), (.bin .mod (.bin .fdiv (.loc 1) (.int 4)) (.int 3))])] [], .own 4 (.blt .list [(.sub (.loc 0) (.int 0))]), .ife (.cmp .gt (.loc 3) (.int 0)) [.sto 4 (.bin .mod (.loc 2) (.loc 3)) (.call "_law_fraction" m_law_fraction [(.bin .fdiv (.loc 2) (.int 7))])] [], .ret (.tup [(.blt .tuple [(.loc 4)]), (.sub (.loc 0) (.int 1)), (.sub (.loc 0) (.int 2))])]
noncomputable def m_law_other : Fn := mirror 5 fuel b_law_other
noncomputable def wb_law_proper_rows_1 : List MS := [.ife (.or (.not (.isi (.loc 2) .list)) (.not (.call "_law_proper_row" m_law_proper_row [(.blt .tuple [(.loc 2)]), (.loc 1)]))) [.ret (.bl false)] []]
noncomputable def w_law_proper_rows_1 : MS := .forI 2 .val [(.loc 0)] wb_law_proper_rows_1
noncomputable def b_law_proper_rows : List MS := [.ife (.not (.isi (.loc 0) .list)) [.ret (.bl false)] [], w_law_proper_rows_1, .ret (.bl true)]
noncomputable def m_law_proper_rows : Fn := mirror 3 fuel b_law_proper_rows
noncomputable def b_law_wide : List MS := [.set 2 (.call "_law_cell_at" m_law_cell_at [(.loc 0), (.int 2)]), .set 3 (.call "_law_machine" m_law_machine [(.call "_law_cell_at" m_law_cell_at [(.loc 0), (.int 1)]), (.bin .add (.int 1) (.bin .mod (.loc 2) (.int 3))), (.loc 1)]), .set 4 (.call "_law_kin" m_law_kin [(.loc 3), (.bin .mul (.int 2) (.bin .mod (.call "_law_cell_at" m_law_cell_at [(.loc 0), (.int 1)]) (.bin .pow (.int 10) (.int 9)))), (.bin .add (.int 5) (.bin .mod (.bin .fdiv (.loc 2) (.int 3)) (.int 6)))]), .set 5 (.call "_law_kin" m_law_kin [(.loc 3), (.bin .mul (.int 2) (.bin .mod (.call "_law_cell_at" m_law_cell_at [(.loc 0), (.int 3)]) (.bin .pow (.int 10) (.int 9)))), (.bin .add (.int 5) (.bin .mod (.bin .fdiv (.loc 2) (.int 18)) (.int 6)))]), .own 6 (.blt .list [(.sub (.loc 5) (.int 2))]), .ife (.cmp .eq (.bin .mod (.bin .fdiv (.loc 2) (.int 108)) (.int 2)) (.int 1)) [.set 7 (.bin .mod (.bin .fdiv (.call "_law_cell_at" m_law_cell_at [(.loc 0), (.int 3)]) (.int 7)) (.blt .len [(.loc 6)])), .sto 6 (.loc 7) (.call "_law_plus" m_law_plus [(.sub (.loc 6) (.loc 7)), (.tup [(.int 1), (.int 1)])])] [], .ret (.tup [(.loc 4), (.tup [(.sub (.loc 5) (.int 0)), (.sub (.loc 5) (.int 1)), (.blt .tuple [(.loc 6)])])])]
noncomputable def m_law_wide : Fn := mirror 8 fuel b_law_wide
theorem fit_one (D : Nat) (h : 0 < D) : Fit D D 1 := ⟨h, (D : Int), by rw [Rat.one_mul]; rfl, Nat.le_of_eq (Int.natAbs_natCast D)⟩
theorem proper_rows_ok {n r : Nat} {R : Nat → Nat → Rat} (h : ∀ i k, i < r → k < n → (R i k).den < 2 ^ 9000) : m_law_proper_rows [.lst ((List.range r).map fun i => rL n (R i)), .int n] = .ok (.bl true, false) := by
  refine mir_ret ?_
  unfold b_law_proper_rows
  obtain ⟨S', l1, s2, l2⟩ := for_tab (f := exSs fuel wb_law_proper_rows_1) (tg := fun S d => some (S.set 2 (.sh d))) (fun j S => ∃ s2, S = [.sh (.lst ((List.range r).map fun i => rL n (R i))), .sh (.int n), s2]) (fun i => rL n (R i)) (n := r) (S := [.sh (.lst ((List.range r).map fun i => rL n (R i))), .sh (.int n), .no]) ⟨.no, rfl⟩ (by
    rintro j S hj ⟨s2, rfl⟩
    have e := proper_row_den (fun k hk => h j k hj hk)
    have e4 : evIs (rL n (R j)) .list = .ok (.bl true, .sh) := rfl
    refine ⟨_, [.sh (.lst ((List.range r).map fun i => rL n (R i))), .sh (.int n), .sh (rL n (R j))], rfl, ?_, _, rfl⟩
    simp [wb_law_proper_rows_1, exSs, exS, evE, evEs, args1, hasBo, e4, ev_tupleL, e])
  subst l2
  have e4 : evIs (.lst ((List.range r).map fun i => rL n (R i))) .list = .ok (.bl true, .sh) := rfl
  rw [ss_go (S1 := [.sh (.lst ((List.range r).map fun i => rL n (R i))), .sh (.int n), .no]) (by simp [exSs, exS, evE, evEs, args1, e4, hasBo]), ss_go (S1 := [.sh (.lst ((List.range r).map fun i => rL n (R i))), .sh (.int n), s2]) (by
    rw [w_law_proper_rows_1, exS]
    simp [evI, evEs, evE, args1, hasBo, items]
    exact l1)]
  simp [exSs, exS, evE]
/-- two machines of the law, and what is known of them -/
structure Pr (p q : Mac) : Prop where
  hk : p.k = q.k
  k0 : 0 < p.k
  k3 : p.k ≤ 3
  nn : p.n + q.n ≤ 26
  look : Look p q
  told : ∀ ws s kw, LInv (p.apart q) ws ws.length s kw → m_law_shown [macD p, macD q, .lst (rowsD (p.n + q.n) s)] = .ok (.bl true, false)
  prop : ∀ ws s kw, LInv (p.apart q) ws ws.length s kw → m_law_proper_rows [.lst (rowsD (p.n + q.n) s), .int ((p.n + q.n : Nat) : Int)] = .ok (.bl true, false)
  wp : ∀ w, Word p.k w → w.length ≤ 25 → m_law_weight [macD p, wD w] = .ok (fr (p.wt w), false)
  wq : ∀ w, Word q.k w → w.length ≤ 25 → m_law_weight [macD q, wD w] = .ok (fr (q.wt w), false)
theorem Pr.of {p q : Mac} {Z D N G E M A B : Nat} (c : LNum Z D N G E M A B) (hk : p.k = q.k) (k3 : p.k ≤ 3) (h : Shp (p.apart q) Z D N G E M A B) (nn : p.n + q.n ≤ 26)
    (wp : ∀ w, Word p.k w → w.length ≤ 25 → m_law_weight [macD p, wD w] = .ok (fr (p.wt w), false)) (wq : ∀ w, Word q.k w → w.length ≤ 25 → m_law_weight [macD q, wD w] = .ok (fr (q.wt w), false)) : Pr p q where
  hk := hk
  k0 := h.k0
  k3 := k3
  nn := nn
  look := look_shp c hk h
  told := fun ws s kw I => told_shp c hk h I
  prop := fun ws s kw I => proper_rows_ok fun i k hi hk => by
    have hr := h.rk _ _ _ _ I.drop
    have hm : kw i ∈ ws := by
      obtain ⟨j, _, e⟩ := I.kat i hi
      exact List.mem_of_getElem? e
    have hl : (kw i).length ≤ Z := Nat.le_trans (I.wl _ hm) hr
    rw [I.R i hi]
    refine Nat.lt_of_le_of_lt (h.row _ (I.dig _ hm) hl k hk).den_le (Nat.lt_of_le_of_lt (lnK_le c.g hl) (Nat.lt_of_le_of_lt ?_ c.c1))
    have e0 := c.E0
    have : lnK Z D E ≤ lnK Z D E * E := Nat.le_mul_of_pos_right _ e0
    have k0 : 0 < lnK Z D E := Nat.mul_pos c.D0 (Nat.pow_pos e0)
    exact Nat.le_trans this (Nat.le_mul_of_pos_right _ (Nat.mul_pos k0 e0))
  wp := wp
  wq := wq
/-! sizes -/
theorem weigh_25 {m : Mac} {w : List Nat} (hn : m.n ≤ 13) (hl : w.length ≤ 25) (sg : Word m.k w) (h : MFit m kD kN kE kM kD (kN + kD)) : Weigh m w (kD * kE ^ 25) (kN * ((13 * kM + 1) * kE) ^ 25) kE kM kD (kN + kD) :=
  weigh_of (nb := 13) (len := 25) hn hl sg (by decide) h.F h.T h.L
    ⟨by decide +kernel, Nat.lt_of_lt_of_le (m := 2 ^ 9000) (by decide +kernel) (Nat.pow_le_pow_right (by decide) (by decide)), Nat.lt_of_lt_of_le (m := 2 ^ 9000) (by decide +kernel) (Nat.pow_le_pow_right (by decide) (by decide)), Nat.lt_of_lt_of_le (m := 2 ^ 10) (by decide) (Nat.pow_le_pow_right (by decide) (by decide))⟩
    ⟨by decide +kernel, Nat.lt_of_lt_of_le (m := 2 ^ 9000) (by decide +kernel) (Nat.pow_le_pow_right (by decide) (by decide)), Nat.lt_of_lt_of_le (m := 2 ^ 9000) (by decide +kernel) (Nat.pow_le_pow_right (by decide) (by decide)), Nat.lt_of_lt_of_le (m := 2 ^ 10) (by decide) (Nat.pow_le_pow_right (by decide) (by decide))⟩ (by decide)
theorem KFit.more {m : Mac} (h : KFit 3 m) : MFit m kD kN kE kM kD (kN + kD) := ⟨h.F, h.T, fun i hi => (h.L i hi).mono (Nat.le_add_right _ _)⟩
theorem wt_25 {m : Mac} (hn : m.n ≤ 13) (h : MFit m kD kN kE kM kD (kN + kD)) (w : List Nat) (sg : Word m.k w) (hl : w.length ≤ 25) : m_law_weight [macD m, wD w] = .ok (fr (m.wt w), false) := law_weight_ok (weigh_25 hn hl sg h)
theorem MFit.k3 {m : Mac} (h : MFit m 6 24 6 24 6 24) : KFit 3 m := KFit.up (KFit.up (KFit.up h))
theorem num_small : LNum 8 6 24 (8 * 24) 6 24 6 24 := ⟨by decide, by decide, by decide, by decide, by decide, by decide +kernel, by decide +kernel, by decide +kernel, by decide +kernel, by decide +kernel, by decide +kernel, by decide +kernel, by decide +kernel⟩
theorem shp_small {p q : Mac} (hk : p.k = q.k) (k0 : 0 < p.k) (hk1 : p.k ≤ 100) (hp : p.n ≤ 4) (hq : q.n ≤ 4) (fp : MFit p 6 24 6 24 6 24) (fq : MFit q 6 24 6 24 6 24) : Shp (p.apart q) 8 6 24 (8 * 24) 6 24 6 24 := by
  have f : MFit (p.apart q) 6 24 6 24 6 24 := MFit.apart (by decide) (by decide) (by decide) fp fq hk
  have hn : (p.apart q).n ≤ 8 := by show p.n + q.n ≤ 8; omega
  exact ⟨by omega, hk1, k0, fun ws n s kw I => Nat.le_trans (Spn.r_le I.ok) hn, fun w hw hl i hi => (Mac.run_fit (p.apart q) f.T (by decide) w hw (p.apart q).F 6 24 (by decide) f.F i hi).mono (Nat.mul_le_mul_left _ (Nat.pow_le_pow_left (Nat.mul_le_mul_right _ hn) _)), f.T, f.L⟩
theorem pr_small {p q : Mac} (hk : p.k = q.k) (k0 : 0 < p.k) (hk1 : p.k ≤ 3) (hp : p.n ≤ 4) (hq : q.n ≤ 4) (fp : MFit p 6 24 6 24 6 24) (fq : MFit q 6 24 6 24 6 24) : Pr p q :=
  Pr.of num_small hk hk1 (shp_small hk k0 (by omega) hp hq fp fq) (by omega) (wt_25 (by omega) fp.k3.more) (wt_25 (by omega) fq.k3.more)
theorem num_wide : LNum 3 kD kN (26 * kM) kE kM kD (kN + kD) := ⟨by decide, by decide, by decide, by decide, by decide, by decide +kernel, by decide +kernel, by decide +kernel, by decide +kernel, by decide +kernel, by decide +kernel, by decide +kernel, by decide +kernel⟩
theorem rk_hang2 {m p q : Mac} {Z : Nat} (hp : HangM m p) (hq : HangM m q) (hd : m.n ≤ Z) : ∀ (ws : List (List Nat)) (n : Nat) (s : Spn) (kw : Nat → List Nat), LInv { p.apart q with L := Mac.zero } ws n s kw → s.r ≤ Z := fun ws n s kw I => by
  refine Nat.le_trans (Ind.hang (d := m.n) (U := fun i => m.row (kw i)) I.ok.ind fun k hk => ?_) hd
  have hk : k < p.n + q.n := hk
  have e : ∀ i, i < s.r → s.R i k = Mac.cat p.n (p.row (kw i)) (q.row (kw i)) k := fun i hi => by
    have h1 : s.R i = (p.sum { q with L := fun i => - q.L i }).row (kw i) := I.R i hi
    rw [h1, Mac.sum_row]; rfl
  by_cases hkp : k < p.n
  · obtain ⟨g, hg⟩ := hp k hkp
    exact ⟨g, fun i hi => by rw [e i hi, Mac.cat_lo hkp, hg]⟩
  · obtain ⟨j, rfl⟩ : ∃ j, k = p.n + j := ⟨k - p.n, by omega⟩
    obtain ⟨g, hg⟩ := hq j (by omega)
    exact ⟨g, fun i hi => by rw [e i hi, Mac.cat_hi, hg]⟩
theorem pr_wide {m p q : Mac} (hk : p.k = q.k) (k0 : 0 < p.k) (hk1 : p.k ≤ 3) (hm : m.n ≤ 3) (hp : p.n ≤ 13) (hq : q.n ≤ 13) (ap : HangM m p) (aq : HangM m q) (fp : KFit 3 p) (fq : MFit q kD kN kE kM kD (kN + kD)) : Pr p q := by
  have f : MFit (p.apart q) kD kN kE kM kD (kN + kD) := MFit.apart (by decide) (by decide) (by decide) fp.more fq hk
  have hn : (p.apart q).n ≤ 26 := by show p.n + q.n ≤ 26; omega
  refine Pr.of num_wide hk hk1 ⟨by omega, (by omega : p.k ≤ 100), k0, rk_hang2 ap aq hm, fun w hw hl i hi => (Mac.run_fit (p.apart q) f.T (by decide) w hw (p.apart q).F kD kN (by decide) f.F i hi).mono (Nat.mul_le_mul_left _ (Nat.pow_le_pow_left (Nat.mul_le_mul_right _ hn) _)), f.T, f.L⟩ (by omega) (wt_25 hp fp.more) (wt_25 hq fq)
/-! the machines of the law -/
theorem other_ok {p : Mac} (fp : MFit p 6 24 6 24 6 24) (hn : p.n ≤ 4) (k0 : 0 < p.k) (k3 : p.k ≤ 3) (c d : Int) : ∃ q : Mac, Pr p q ∧ m_law_other [macD p, .int c, .int d] = .ok (macD q, false) := by
  have b1 := fmod_lt' (w := c) (m := 4) (by decide)
  have b2 := fmod_lt' (w := c.fdiv 4) (m := 5) (by decide)
  have b3 := fmod_lt' (w := c.fdiv 4) (m := 3) (by decide)
  obtain ⟨n5, h5⟩ : ∃ n : Nat, (c.fdiv 4).fmod 5 = n := ⟨((c.fdiv 4).fmod 5).toNat, by omega⟩
  obtain ⟨n3, h3⟩ : ∃ n : Nat, (c.fdiv 4).fmod 3 = n := ⟨((c.fdiv 4).fmod 3).toNat, by omega⟩
  have m1 : evBin .mod (.int c) (.int 4) = .ok (.int (c.fmod 4), .sh) := ev_mod (by decide)
  have m2 : evBin .fdiv (.int c) (.int 4) = .ok (.int (c.fdiv 4), .sh) := ev_fdiv (by decide) (by decide +kernel)
  have m3 : evBin .mod (.int (c.fdiv 4)) (.int 5) = .ok (.int n5, .sh) := by rw [← h5]; exact ev_mod (by decide)
  have m4 : evBin .mod (.int (c.fdiv 4)) (.int 3) = .ok (.int n3, .sh) := by rw [← h3]; exact ev_mod (by decide)
  have m5 : evBin .fdiv (.int d) (.int 7) = .ok (.int (d.fdiv 7), .sh) := ev_fdiv (by decide) (by decide +kernel)
  have g1 : exS fuel (.set 3 (.blt .len [(.sub (.loc 0) (.int 0))])) [.sh (macD p), .sh (.int c), .sh (.int d), .no, .no] = .nx [.sh (macD p), .sh (.int c), .sh (.int d), .sh (.int p.n), .no] := by simp [exS, evE, evEs, mac_0, args1, rT_len]
  by_cases z0 : c.fmod 4 = 0
  · refine ⟨drawn d n5 p.k, pr_small rfl k0 k3 hn (show n5 ≤ 4 by omega) fp (MFit.drawn d n5 p.k), mir_ret ?_⟩
    have e1 := law_machine_ok d n5 p.k (by omega) (by omega)
    unfold b_law_other
    show exSs fuel _ [.sh (macD p), .sh (.int c), .sh (.int d), .no, .no] = _
    rw [ss_go g1]
    refine ss_ret ?_
    simp [exSs, exS, evE, evEs, args1, hasBo, m1, m2, m3, z0, mac_1, steps_len, e1]
  · by_cases z1 : c.fmod 4 < 3
    · obtain ⟨q, q1, q2, q3, q4, q5, e2⟩ := kin_full (m := p) (c := d) (more := n3) fp (by omega) (by omega)
      have fp3 : KFit 3 p := fp.k3
      refine ⟨q, Pr.of num_kin q2.symm k3 (shp_kin (p := p) (q := q) (d := p.n + n3) q2.symm k0 (by omega) (by omega) fp3 q3 q5 (by omega) (by omega)) (by omega) (wt_25 (by omega) fp3.more) (wt_25 (by omega) q3.more), mir_ret ?_⟩
      unfold b_law_other
      show exSs fuel _ [.sh (macD p), .sh (.int c), .sh (.int d), .no, .no] = _
      rw [ss_go g1, ss_go (S1 := [.sh (macD p), .sh (.int c), .sh (.int d), .sh (.int p.n), .no]) (by simp [exSs, exS, evE, evEs, args1, hasBo, m1, z0])]
      refine ss_ret ?_
      simp [exSs, exS, evE, evEs, evCmp, args1, hasBo, m1, m2, m4, z1, e2]
    · have gA : ∀ a b : SV, exS fuel (.ife (.cmp .eq (.bin .mod (.loc 1) (.int 4)) (.int 0)) [.ret (.call "_law_machine" m_law_machine [(.loc 2), (.bin .mod (.bin .fdiv (.loc 1) (.int 4)) (.int 5)), (.blt .len [(.sub (.loc 0) (.int 1))])])] []) [.sh (macD p), .sh (.int c), .sh (.int d), a, b] = .nx [.sh (macD p), .sh (.int c), .sh (.int d), a, b] := fun a b => by simp [exSs, exS, evE, evEs, args1, hasBo, m1, z0]
      have gB : ∀ a b : SV, exS fuel (.ife (.cmp .lt (.bin .mod (.loc 1) (.int 4)) (.int 3)) [.ret (.call "_law_kin" m_law_kin [(.loc 0), (.loc 2), (.bin .mod (.bin .fdiv (.loc 1) (.int 4)) (.int 3))])] []) [.sh (macD p), .sh (.int c), .sh (.int d), a, b] = .nx [.sh (macD p), .sh (.int c), .sh (.int d), a, b] := fun a b => by simp [exSs, exS, evE, evEs, evCmp, args1, hasBo, m1, z1]
      have gC : ∀ a b : SV, exS fuel (.own 4 (.blt .list [(.sub (.loc 0) (.int 0))])) [.sh (macD p), .sh (.int c), .sh (.int d), a, b] = .nx [.sh (macD p), .sh (.int c), .sh (.int d), a, .ow (tabs p.n p.F)] := fun a b => by simp [exS, evE, evEs, args1, mac_0, evBlt, rT]
      by_cases zn : p.n = 0
      · refine ⟨p, pr_small rfl k0 k3 hn hn fp fp, mir_ret ?_⟩
        have m9 : evCmp .gt (.int (p.n : Int)) (.int 0) = .ok (.bl false, .sh) := by rw [zn]; rfl
        unfold b_law_other
        show exSs fuel _ [.sh (macD p), .sh (.int c), .sh (.int d), .no, .no] = _
        rw [ss_go g1, ss_go (gA _ _), ss_go (gB _ _), ss_go (gC _ _), ss_go (S1 := [.sh (macD p), .sh (.int c), .sh (.int d), .sh (.int p.n), .ow (tabs p.n p.F)]) (by simp [exSs, exS, evE, evEs, m9])]
        have h1 := mac_1 p
        have h2 := mac_2 p
        have h3 : evBlt .tuple [.lst (tabs p.n p.F)] = .ok (rT p.n p.F, .sh) := rfl
        have h4 : MP.D.tup [rT p.n p.F, MP.D.tup ((List.range p.k).map fun s => sT p.n p.n (p.T s)), rT p.n p.L] = macD p := rfl
        simp [exSs, exS, evE, evEs, args1, hasBo, h1, h2, h3, h4]
      · have hz : (p.n : Int) ≠ 0 := by omega
        have bj := fmod_lt' (w := d) (m := p.n) (by omega)
        obtain ⟨j, hj⟩ : ∃ j : Nat, d.fmod p.n = j := ⟨(d.fmod p.n).toNat, by omega⟩
        rw [hj] at bj
        have hjn : j < p.n := by omega
        have m6 : evBin .mod (.int d) (.int p.n) = .ok (.int j, .sh) := by rw [← hj]; exact ev_mod hz
        obtain ⟨q, hq⟩ : ∃ q : Mac, { p with F := fun i => if i = j then fracQ (d.fdiv 7) else p.F i } = q := ⟨_, rfl⟩
        have qn : q.n = p.n := by rw [← hq]
        have qk : q.k = p.k := by rw [← hq]
        have fq : MFit q 6 24 6 24 6 24 := by
          rw [← hq]
          exact ⟨fun i hi => by
            show Fit 6 24 (if i = j then fracQ (d.fdiv 7) else p.F i)
            split
            · exact frac_fit _
            · exact fp.F i hi, fp.T, fp.L⟩
        refine ⟨q, pr_small qk.symm k0 k3 hn (by omega) fp fq, mir_ret ?_⟩
        have e1 := law_fraction_ok (d.fdiv 7)
        have m9 : evCmp .gt (.int (p.n : Int)) (.int 0) = .ok (.bl true, .sh) := by
          simp [evCmp]; omega
        have ix : ixN (tabs p.n p.F).length (j : Int) = some j := ixN_nat (by rw [tabs_len]; exact hjn)
        have st : (tabs p.n p.F).set j (fr (fracQ (d.fdiv 7))) = tabs q.n q.F := by
          rw [qn]
          exact tabs_set p.n p.F j _ q.F (fun k _ hk => by rw [← hq]; exact if_neg hk) (by rw [← hq]; exact if_pos rfl)
        unfold b_law_other
        show exSs fuel _ [.sh (macD p), .sh (.int c), .sh (.int d), .no, .no] = _
        rw [ss_go g1, ss_go (gA _ _), ss_go (gB _ _), ss_go (gC _ _), ss_go (S1 := [.sh (macD p), .sh (.int c), .sh (.int d), .sh (.int p.n), .ow (tabs q.n q.F)]) (by simp [exSs, exS, evE, evEs, args1, hasBo, m9, m5, m6, e1, ix, st])]
        have h1 := mac_1 p
        have h2 := mac_2 p
        have h3 : evBlt .tuple [.lst (tabs q.n q.F)] = .ok (rT q.n q.F, .sh) := rfl
        have h4 : MP.D.tup [rT q.n q.F, MP.D.tup ((List.range p.k).map fun s => sT p.n p.n (p.T s)), rT p.n p.L] = macD q := by
          rw [← hq]; rfl
        simp [exSs, exS, evE, evEs, args1, hasBo, h1, h2, h3, h4]
theorem wide_ok (ns : List Int) (k : Nat) (k0 : 0 < k) (k3 : k ≤ 3) : ∃ p q : Mac, Pr p q ∧ p.k = k ∧ m_law_wide [.scr ns, .int k] = .ok (.tup [macD p, macD q], false) := by
  obtain ⟨c1, h1⟩ : ∃ c, m_law_cell_at [.scr ns, .int 1] = .ok (.int c, false) := ⟨_, cell_at_ok ns 1⟩
  obtain ⟨c2, h2⟩ : ∃ c, m_law_cell_at [.scr ns, .int 2] = .ok (.int c, false) := ⟨_, cell_at_ok ns 2⟩
  obtain ⟨c3, h3⟩ : ∃ c, m_law_cell_at [.scr ns, .int 3] = .ok (.int c, false) := ⟨_, cell_at_ok ns 3⟩
  have b1 := fmod_lt' (w := c2) (m := 3) (by decide)
  have b2 := fmod_lt' (w := c2.fdiv 3) (m := 6) (by decide)
  have b3 := fmod_lt' (w := c2.fdiv 18) (m := 6) (by decide)
  have b4 := fmod_lt' (w := c2.fdiv 108) (m := 2) (by decide)
  obtain ⟨n, hn⟩ : ∃ n : Nat, 1 + c2.fmod 3 = n := ⟨(1 + c2.fmod 3).toNat, by omega⟩
  obtain ⟨a, ha⟩ : ∃ n : Nat, 5 + (c2.fdiv 3).fmod 6 = n := ⟨(5 + (c2.fdiv 3).fmod 6).toNat, by omega⟩
  obtain ⟨b, hb⟩ : ∃ n : Nat, 5 + (c2.fdiv 18).fmod 6 = n := ⟨(5 + (c2.fdiv 18).fmod 6).toNat, by omega⟩
  have m1 : evBin .mod (.int c2) (.int 3) = .ok (.int (c2.fmod 3), .sh) := ev_mod (by decide)
  have m2 : evBin .fdiv (.int c2) (.int 3) = .ok (.int (c2.fdiv 3), .sh) := ev_fdiv (by decide) (by decide +kernel)
  have m3 : evBin .mod (.int (c2.fdiv 3)) (.int 6) = .ok (.int ((c2.fdiv 3).fmod 6), .sh) := ev_mod (by decide)
  have m4 : evBin .fdiv (.int c2) (.int 18) = .ok (.int (c2.fdiv 18), .sh) := ev_fdiv (by decide) (by decide +kernel)
  have m5 : evBin .mod (.int (c2.fdiv 18)) (.int 6) = .ok (.int ((c2.fdiv 18).fmod 6), .sh) := ev_mod (by decide)
  have m6 : evBin .fdiv (.int c2) (.int 108) = .ok (.int (c2.fdiv 108), .sh) := ev_fdiv (by decide) (by decide +kernel)
  have m7 : evBin .mod (.int (c2.fdiv 108)) (.int 2) = .ok (.int ((c2.fdiv 108).fmod 2), .sh) := ev_mod (by decide)
  have m8 : evBin .pow (.int 10) (.int 9) = .ok (.int 1000000000, .sh) := by simp [evBin]
  have m9 : ∀ c : Int, evBin .mod (.int c) (.int 1000000000) = .ok (.int (c.fmod 1000000000), .sh) := fun c => ev_mod (by decide)
  have m10 : evBin .fdiv (.int c3) (.int 7) = .ok (.int (c3.fdiv 7), .sh) := ev_fdiv (by decide) (by decide +kernel)
  have m12 : ∀ c : Int, evBin .mul (.int 2) (.int (c.fmod 1000000000)) = .ok (.int (2 * c.fmod 1000000000), .sh) := fun c => by
    have b := fmod_lt' (w := c) (m := 1000000000) (by decide)
    exact if_pos (.inr (Nat.lt_of_lt_of_le (m := 2 ^ 32) (by omega) (by decide)))
  have ev2 : ∀ c : Int, (2 * c).fmod 2 = 0 := fun c => by rw [Int.fmod_eq_emod_of_nonneg _ (by decide)]; omega
  have e1 := law_machine_ok c1 n k (by omega) (by omega)
  have fm := MFit.drawn c1 n k
  have p1 : (drawn c1 n k).n = n := rfl
  have p3 : (drawn c1 n k).k = k := rfl
  generalize drawn c1 n k = m at *
  obtain ⟨p, q1, q2, q3, q4, q5, q6, e2⟩ := kin_more (m := m) (c := 2 * c1.fmod 1000000000) (more := a) fm (by omega) (by omega)
  obtain ⟨q, r1, r2, r3, r4, r5, r6, e3⟩ := kin_more (m := m) (c := 2 * c3.fmod 1000000000) (more := b) fm (by omega) (by omega)
  have qn0 : q.n ≠ 0 := by omega
  have hz : (q.n : Int) ≠ 0 := by omega
  have x0 := mac_0 q
  have x1 := mac_1 q
  have x2 := mac_2 q
  have g4 : evBlt .list [rT q.n q.L] = .ok (.lst (tabs q.n q.L), .fr) := rfl
  have start : ∀ R, exSs fuel (b_law_wide.drop 5) [.sh (.scr ns), .sh (.int k), .sh (.int c2), .sh (macD m), .sh (macD p), .sh (macD q), .ow (tabs q.n q.L), .no] = R → exSs fuel b_law_wide [.sh (.scr ns), .sh (.int k), .no, .no, .no, .no, .no, .no] = R := fun R h => by
    rw [b_law_wide] at h ⊢
    rw [ss_go (S1 := [.sh (.scr ns), .sh (.int k), .sh (.int c2), .no, .no, .no, .no, .no]) (by simp [exS, evE, evEs, args1, hasBo, h2]),
      ss_go (S1 := [.sh (.scr ns), .sh (.int k), .sh (.int c2), .sh (macD m), .no, .no, .no, .no]) (by simp [exS, evE, evEs, args1, hasBo, h1, m1, hn, e1]),
      ss_go (S1 := [.sh (.scr ns), .sh (.int k), .sh (.int c2), .sh (macD m), .sh (macD p), .no, .no, .no]) (by simp [exS, evE, evEs, args1, hasBo, h1, m2, m3, m8, m9, m12, ha, e2]),
      ss_go (S1 := [.sh (.scr ns), .sh (.int k), .sh (.int c2), .sh (macD m), .sh (macD p), .sh (macD q), .no, .no]) (by simp [exS, evE, evEs, args1, hasBo, h3, m4, m5, m8, m9, m12, hb, e3]),
      ss_go (S1 := [.sh (.scr ns), .sh (.int k), .sh (.int c2), .sh (macD m), .sh (macD p), .sh (macD q), .ow (tabs q.n q.L), .no]) (by simp [exS, evE, evEs, args1, x2, g4])]
    exact h
  by_cases z : (c2.fdiv 108).fmod 2 = 1
  · have bj := fmod_lt' (w := c3.fdiv 7) (m := q.n) (by omega)
    obtain ⟨j, hj⟩ : ∃ j : Nat, (c3.fdiv 7).fmod q.n = j := ⟨((c3.fdiv 7).fmod q.n).toNat, by omega⟩
    rw [hj] at bj
    have hjn : j < q.n := by omega
    have m11 : evBin .mod (.int (c3.fdiv 7)) (.int q.n) = .ok (.int j, .sh) := by rw [← hj]; exact ev_mod hz
    obtain ⟨o, ho⟩ : ∃ o : Mac, { q with L := fun i => if i = j then q.L j + 1 else q.L i } = o := ⟨_, rfl⟩
    have on : o.n = q.n := by rw [← ho]
    have ok : o.k = q.k := by rw [← ho]
    have fo : MFit o kD kN kE kM kD (kN + kD) := by
      rw [← ho]
      exact ⟨r3.F, r3.T, fun i hi => by
        show Fit kD (kN + kD) (if i = j then q.L j + 1 else q.L i)
        split
        · exact (r3.L j hjn).add (fit_one kD (by decide))
        · exact (r3.L i hi).mono (Nat.le_add_right _ _)⟩
    have ao : HangM m o := by rw [← ho]; exact r6 (ev2 _)
    refine ⟨p, o, pr_wide (m := m) (by omega) (by omega) (by omega) (by omega) (by omega) (by omega) (q6 (ev2 _)) ao q3 fo, by omega, mir_ret (start _ ?_)⟩
    have zq : Sz (q.L j) := by
      have f := r3.L j hjn
      exact (Sml.of (X := 2 ^ 100) f (by decide +kernel) (by decide +kernel)).sz (pow_up (a := 100 + 1) (by decide +kernel) (by decide))
    have pl : m_law_plus [fr (q.L j), fr 1] = .ok (fr (q.L j + 1), false) := law_plus_ok _ _ zq ⟨by decide, by decide⟩ (by
      show (q.L j).den * 1 < _
      rw [Nat.mul_one]
      exact Nat.lt_of_le_of_lt (r3.L j hjn).den_le (by decide +kernel))
    have one : MP.D.tup [.int 1, .int 1] = fr 1 := rfl
    have lk : evBlt .len [.lst (tabs q.n q.L)] = .ok (.int q.n, .sh) := rL_len q.n q.L
    have sb : evSub (.lst (tabs q.n q.L)) (.int j) = .ok (fr (q.L j), .sh) := (rL_sq q.n q.L).sub (tabs_get hjn)
    have ix : ixN (tabs q.n q.L).length (j : Int) = some j := ixN_nat (by rw [tabs_len]; exact hjn)
    have st : (tabs q.n q.L).set j (fr (q.L j + 1)) = tabs o.n o.L := by
      rw [on]
      exact tabs_set q.n q.L j _ o.L (fun k _ hk => by rw [← ho]; exact if_neg hk) (by rw [← ho]; exact if_pos rfl)
    have h3' : evBlt .tuple [.lst (tabs o.n o.L)] = .ok (rT o.n o.L, .sh) := rfl
    have h4 : MP.D.tup [rT q.n q.F, MP.D.tup ((List.range q.k).map fun s => sT q.n q.n (q.T s)), rT o.n o.L] = macD o := by
      rw [← ho]; rfl
    show exSs fuel (List.drop 5 b_law_wide) _ = _
    rw [b_law_wide, List.drop_succ_cons, List.drop_succ_cons, List.drop_succ_cons, List.drop_succ_cons, List.drop_succ_cons, List.drop_zero]
    rw [ss_go (S1 := [.sh (.scr ns), .sh (.int k), .sh (.int c2), .sh (macD m), .sh (macD p), .sh (macD q), .ow (tabs o.n o.L), .sh (.int j)]) (by simp [exSs, exS, evE, evEs, args1, hasBo, m6, m7, z, h3, m10, lk, m11, sb, one, pl, ix, st])]
    simp [exSs, exS, evE, evEs, args1, hasBo, x0, x1, h3', h4]
  · refine ⟨p, q, pr_wide (m := m) (by omega) (by omega) (by omega) (by omega) (by omega) (by omega) (q6 (ev2 _)) (r6 (ev2 _)) q3 r3.more, by omega, mir_ret (start _ ?_)⟩
    have h3' : evBlt .tuple [.lst (tabs q.n q.L)] = .ok (rT q.n q.L, .sh) := rfl
    have h4 : MP.D.tup [rT q.n q.F, MP.D.tup ((List.range q.k).map fun s => sT q.n q.n (q.T s)), rT q.n q.L] = macD q := rfl
    rw [b_law_wide, List.drop_succ_cons, List.drop_succ_cons, List.drop_succ_cons, List.drop_succ_cons, List.drop_succ_cons, List.drop_zero]
    rw [ss_go (S1 := [.sh (.scr ns), .sh (.int k), .sh (.int c2), .sh (macD m), .sh (macD p), .sh (macD q), .ow (tabs q.n q.L), .no]) (by simp [exSs, exS, evE, evEs, args1, hasBo, m6, m7, z])]
    simp [exSs, exS, evE, evEs, args1, hasBo, x0, x1, h3', h4]
end MP
set_option Elab.async false
set_option linter.all false
set_option maxRecDepth 100000
set_option maxHeartbeats 4000000
namespace MP
open PySem PySem.Spec PyProof.Rows L2 WM
noncomputable def wb_law_1 : List MS := [.set 8 (.call "_law_word" m_law_word [(.call "_law_cell_at" m_law_cell_at [(.loc 0), (.bin .add (.int 4) (.loc 7))]), (.loc 1), (.int 4)]), .ife (.and (.cmp .lt (.tup [(.blt .len [(.loc 8)]), (.loc 8)]) (.tup [(.blt .len [(.loc 5)]), (.loc 5)])) (.cmp .ne (.call "_law_weight" m_law_weight [(.loc 2), (.loc 8)]) (.call "_law_weight" m_law_weight [(.loc 3), (.loc 8)]))) [.ret (.bl false)] []]
noncomputable def w_law_1 : MS := .forI 7 .range1 [(.int 3)] wb_law_1
noncomputable def b_law : List MS := [.set 1 (.bin .add (.int 1) (.bin .mod (.call "_law_cell_at" m_law_cell_at [(.loc 0), (.int 0)]) (.int 3))), .set 2 (.call "_law_machine" m_law_machine [(.call "_law_cell_at" m_law_cell_at [(.loc 0), (.int 1)]), (.bin .mod (.bin .fdiv (.call "_law_cell_at" m_law_cell_at [(.loc 0), (.int 0)]) (.int 3)) (.int 5)), (.loc 1)]), .set 3 (.call "_law_other" m_law_other [(.loc 2), (.call "_law_cell_at" m_law_cell_at [(.loc 0), (.int 2)]), (.call "_law_cell_at" m_law_cell_at [(.loc 0), (.int 3)])]), .ife (.cmp .eq (.bin .mod (.bin .fdiv (.call "_law_cell_at" m_law_cell_at [(.loc 0), (.int 0)]) (.int 3)) (.int 12)) (.int 5)) [.unp [2, 3] (.call "_law_wide" m_law_wide [(.loc 0), (.loc 1)])] [], .set 4 (.bin .add (.blt .len [(.sub (.loc 2) (.int 0))]) (.blt .len [(.sub (.loc 3) (.int 0))])), .set 5 (.call "parting" m_parting [(.loc 2), (.loc 3)]), .own 6 (.call "rows_for" m_rows_for [(.loc 2), (.loc 3)]), .ife (.isN false (.loc 5)) [.ife (.or (.not (.call "_law_proper_rows" m_law_proper_rows [(.loc 6), (.loc 4)])) (.not (.call "_law_shown" m_law_shown [(.loc 2), (.loc 3), (.loc 6)]))) [.ret (.bl false)] [], .app 6 (.lst []), .ret (.call "_law_shown" m_law_shown [(.loc 2), (.loc 3), (.call "rows_for" m_rows_for [(.loc 2), (.loc 3)])])] [], .ife (.or (.isN true (.loc 6)) (.or (.not (.isi (.loc 5) .tuple)) (.cmp .gt (.blt .len [(.loc 5)]) (.blt .max [(.int 0), (.bin .sub (.loc 4) (.int 1))])))) [.ret (.bl false)] [], .ife (.cmp .eq (.call "_law_weight" m_law_weight [(.loc 2), (.loc 5)]) (.call "_law_weight" m_law_weight [(.loc 3), (.loc 5)])) [.ret (.bl false)] [], w_law_1, .ret (.bl true)]
noncomputable def m_law : Fn := mirror 9 fuel b_law
theorem rest_ok {p q : Mac} (P : Pr p q) (ns : List Int) : exSs fuel (b_law.drop 4) [.sh (.scr ns), .sh (.int p.k), .sh (macD p), .sh (macD q), .no, .no, .no, .no, .no] = .ret (.bl true) false := by
  rw [b_law, List.drop_succ_cons, List.drop_succ_cons, List.drop_succ_cons, List.drop_succ_cons, List.drop_zero]
  have x0 := mac_0 p
  have y0 := mac_0 q
  obtain ⟨M, hM⟩ : ∃ M : Int, ((p.n + q.n : Nat) : Int) = M := ⟨_, rfl⟩
  have nn : (p.n : Int) + q.n = M := by omega
  have start : ∀ {R : SRes} {ms : List MS} (dd : MP.D), m_parting [macD p, macD q] = .ok (dd, false) → exSs fuel ms [.sh (.scr ns), .sh (.int p.k), .sh (macD p), .sh (macD q), .sh (.int M), .sh dd, .no, .no, .no] = R → exSs fuel (.set 4 (.bin .add (.blt .len [(.sub (.loc 2) (.int 0))]) (.blt .len [(.sub (.loc 3) (.int 0))])) :: .set 5 (.call "parting" m_parting [(.loc 2), (.loc 3)]) :: ms) [.sh (.scr ns), .sh (.int p.k), .sh (macD p), .sh (macD q), .no, .no, .no, .no, .no] = R := fun dd h1 h2 => by
    rw [ss_go (S1 := [.sh (.scr ns), .sh (.int p.k), .sh (macD p), .sh (macD q), .sh (.int M), .no, .no, .no, .no]) (by simp [exS, evE, evEs, args1, x0, y0, rT_len, nn]),
      ss_go (S1 := [.sh (.scr ns), .sh (.int p.k), .sh (macD p), .sh (macD q), .sh (.int M), .sh dd, .no, .no, .no]) (by simp [exS, evE, evEs, args1, hasBo, h1])]
    exact h2
  rcases P.look with ⟨u, hu, hl, hne, hlt, hlf⟩ | ⟨hall, ws, s, kw, I, hlf⟩
  · have l2 := rows_for_word hlf
    refine start _ (parting_of hlf) ?_
    have hul : u.length ≤ 25 := by have := P.nn; omega
    have huq : Word q.k u := by rw [← P.hk]; exact hu
    have w1 := P.wp u hu hul
    have w2 := P.wq u huq hul
    have lu := wD_len u
    have i1 : evIs (wD u) .tuple = .ok (.bl true, .sh) := rfl
    obtain ⟨mm, hmm⟩ : ∃ x : Int, (if M - 1 > 0 then M - 1 else 0) = x := ⟨_, rfl⟩
    have i2 : evCmp .gt (.int (u.length : Int)) (.int mm) = .ok (.bl false, .sh) := by
      have : ¬ ((u.length : Int) > mm) := by rw [← hmm]; split <;> omega
      simp only [evCmp, decide_eq_false this]
    have mx : evBlt .max [.int 0, .int (M - 1)] = .ok (.int mm, .sh) := by rw [← hmm]; rfl
    obtain ⟨S', l1, s7, s8, e8⟩ := for_rng (f := exSs fuel wb_law_1) (tg := fun S d => some (S.set 7 (.sh d))) (fun t S => ∃ s7 s8, S = [.sh (.scr ns), .sh (.int p.k), .sh (macD p), .sh (macD q), .sh (.int M), .sh (wD u), .sh .non, s7, s8]) (n := 3)
      (S := [.sh (.scr ns), .sh (.int p.k), .sh (macD p), .sh (macD q), .sh (.int M), .sh (wD u), .sh .non, .no, .no]) ⟨.no, .no, rfl⟩ (by
      rintro t S ht ⟨s7, s8, rfl⟩
      obtain ⟨c, hc⟩ : ∃ c, m_law_cell_at [.scr ns, .int (4 + t)] = .ok (.int c, false) := by
        have := cell_at_ok ns (4 + t)
        exact ⟨_, by simpa using this⟩
      have e3 : m_law_word [.int c, .int p.k, .int 4] = .ok (wD (drawnW c p.k 4), false) := law_word_ok c p.k 4 P.k0 (by omega)
      have hs : Word p.k (drawnW c p.k 4) := drawnW_lt c 4 P.k0
      have hl4 : (drawnW c p.k 4).length ≤ 4 := drawnW_len c p.k 4
      generalize drawnW c p.k 4 = w at *
      have v1 := P.wp w hs (by omega)
      have v2 := P.wq w (by rw [← P.hk]; exact hs) (by omega)
      have lw := wD_len w
      obtain ⟨r, hr, hr2⟩ := cmp_words (k := p.k) (a := w) (b := u) P.k0 hs
      refine ⟨_, [.sh (.scr ns), .sh (.int p.k), .sh (macD p), .sh (macD q), .sh (.int M), .sh (wD u), .sh .non, .sh (.int t), .sh (wD w)], rfl, ?_, _, _, rfl⟩
      rw [wb_law_1, ss_go (S1 := [.sh (.scr ns), .sh (.int p.k), .sh (macD p), .sh (macD q), .sh (.int M), .sh (wD u), .sh .non, .sh (.int t), .sh (wD w)]) (by simp [exS, evE, evEs, args1, hasBo, hc, e3])]
      cases r with
      | false => simp [exSs, exS, evE, evEs, args1, hasBo, lw, lu, hr]
      | true =>
        have ew := hlt w hs (hr2 rfl)
        simp [exSs, exS, evE, evEs, args1, hasBo, lw, lu, hr, v1, v2, ew])
    subst e8
    have hi3 : items .range1 [.int 3] = .ok ((List.range 3).map fun i : Nat => MP.D.int i) := items_rng 3 (by decide)
    rw [ss_go (S1 := [.sh (.scr ns), .sh (.int p.k), .sh (macD p), .sh (macD q), .sh (.int M), .sh (wD u), .sh .non, .no, .no]) (by simp [exS, evE, evEs, args1, hasBo, l2]),
      ss_go (S1 := [.sh (.scr ns), .sh (.int p.k), .sh (macD p), .sh (macD q), .sh (.int M), .sh (wD u), .sh .non, .no, .no]) (by simp [exSs, exS, evE, evEs, args1, hasBo, wD]),
      ss_go (S1 := [.sh (.scr ns), .sh (.int p.k), .sh (macD p), .sh (macD q), .sh (.int M), .sh (wD u), .sh .non, .no, .no]) (by simp [exSs, exS, evE, evEs, args1, hasBo, i1, lu, i2, mx]),
      ss_go (S1 := [.sh (.scr ns), .sh (.int p.k), .sh (macD p), .sh (macD q), .sh (.int M), .sh (wD u), .sh .non, .no, .no]) (by simp [exSs, exS, evE, evEs, args1, hasBo, w1, w2, hne]),
      ss_go (S1 := [.sh (.scr ns), .sh (.int p.k), .sh (macD p), .sh (macD q), .sh (.int M), .sh (wD u), .sh .non, s7, s8]) (by
        rw [w_law_1, exS]
        simp only [evI, evEs, evE, Res.bind, args1, List.map, hasBo, List.any, hi3]
        simp only [Bool.or_false, decide_eq_true_eq, bindS_ok]
        exact l1)]
    simp [exSs, exS, evE]
  · have l2 := rows_for_non hlf
    refine start _ (parting_of hlf) ?_
    have t1 := P.told ws s kw I
    have t2 := P.prop ws s kw I
    rw [hM] at t2
    generalize hR : rowsD (p.n + q.n) s = R at *
    have hlen : R.length < 16777216 := by
      rw [← hR]
      show ((List.range s.r).map _).length < _
      rw [List.length_map, List.length_range]
      have h1 : s.r ≤ p.n + q.n := Spn.r_le I.ok
      have := P.nn
      omega
    rw [ss_go (S1 := [.sh (.scr ns), .sh (.int p.k), .sh (macD p), .sh (macD q), .sh (.int M), .sh .non, .ow R, .no, .no]) (by simp [exS, evE, evEs, args1, hasBo, l2])]
    refine ss_ret ?_
    have c : evE (.isN false (.loc 5)) [.sh (.scr ns), .sh (.int p.k), .sh (macD p), .sh (macD q), .sh (.int M), .sh .non, .ow R, .no, .no] = .ok (.bl true, .sh) := by simp [evE]
    rw [exS, c]
    show exSs fuel _ _ = _
    rw [ss_go (S1 := [.sh (.scr ns), .sh (.int p.k), .sh (macD p), .sh (macD q), .sh (.int M), .sh .non, .ow R, .no, .no]) (by simp [exSs, exS, evE, evEs, args1, hasBo, t1, t2, noR, noL]),
      ss_go (S1 := [.sh (.scr ns), .sh (.int p.k), .sh (macD p), .sh (macD q), .sh (.int M), .sh .non, .ow (R ++ [.lst []]), .no, .no]) (by simp [exS, evE, evEs, args1, hasBo, hlen])]
    simp [exSs, exS, evE, evEs, args1, hasBo, t1, l2]
theorem law_true (ns : List Int) (h : ns.length ≤ 63) : m_law [.scr ns] = .ok (.bl true, false) := by
  obtain ⟨c0, h0⟩ : ∃ c, m_law_cell_at [.scr ns, .int 0] = .ok (.int c, false) := ⟨_, cell_at_ok ns 0⟩
  obtain ⟨c1, h1⟩ : ∃ c, m_law_cell_at [.scr ns, .int 1] = .ok (.int c, false) := ⟨_, cell_at_ok ns 1⟩
  obtain ⟨c2, h2⟩ : ∃ c, m_law_cell_at [.scr ns, .int 2] = .ok (.int c, false) := ⟨_, cell_at_ok ns 2⟩
  obtain ⟨c3, h3⟩ : ∃ c, m_law_cell_at [.scr ns, .int 3] = .ok (.int c, false) := ⟨_, cell_at_ok ns 3⟩
  have b0 := fmod_lt' (w := c0) (m := 3) (by decide)
  have b1 := fmod_lt' (w := c0.fdiv 3) (m := 5) (by decide)
  obtain ⟨k, hk⟩ : ∃ n : Nat, 1 + c0.fmod 3 = n := ⟨(1 + c0.fmod 3).toNat, by omega⟩
  obtain ⟨n1, hn1⟩ : ∃ n : Nat, (c0.fdiv 3).fmod 5 = n := ⟨((c0.fdiv 3).fmod 5).toNat, by omega⟩
  have m1 : evBin .mod (.int c0) (.int 3) = .ok (.int (c0.fmod 3), .sh) := ev_mod (by decide)
  have m2 : evBin .fdiv (.int c0) (.int 3) = .ok (.int (c0.fdiv 3), .sh) := ev_fdiv (by decide) (by decide +kernel)
  have m3 : evBin .mod (.int (c0.fdiv 3)) (.int 5) = .ok (.int n1, .sh) := by rw [← hn1]; exact ev_mod (by decide)
  have m4 : evBin .mod (.int (c0.fdiv 3)) (.int 12) = .ok (.int ((c0.fdiv 3).fmod 12), .sh) := ev_mod (by decide)
  have e1 := law_machine_ok c1 n1 k (by omega) (by omega)
  have fp := MFit.drawn c1 n1 k
  have p1 : (drawn c1 n1 k).n = n1 := rfl
  have p3 : (drawn c1 n1 k).k = k := rfl
  generalize drawn c1 n1 k = p at *
  obtain ⟨q, P, e2⟩ := other_ok (p := p) fp (by omega) (by omega) (by omega) c2 c3
  have qk : q.k = p.k := P.hk.symm
  have key : ∃ p' q', Pr p' q' ∧ p'.k = k ∧ exSs fuel (b_law.take 4) [.sh (.scr ns), .no, .no, .no, .no, .no, .no, .no, .no] = .nx [.sh (.scr ns), .sh (.int k), .sh (macD p'), .sh (macD q'), .no, .no, .no, .no, .no] := by
    rw [b_law, List.take_succ_cons, List.take_succ_cons, List.take_succ_cons, List.take_succ_cons, List.take_zero,
      ss_go (S1 := [.sh (.scr ns), .sh (.int k), .no, .no, .no, .no, .no, .no, .no]) (by simp [exS, evE, evEs, args1, hasBo, h0, m1, hk]),
      ss_go (S1 := [.sh (.scr ns), .sh (.int k), .sh (macD p), .no, .no, .no, .no, .no, .no]) (by simp [exS, evE, evEs, args1, hasBo, h0, h1, m2, m3, e1]),
      ss_go (S1 := [.sh (.scr ns), .sh (.int k), .sh (macD p), .sh (macD q), .no, .no, .no, .no, .no]) (by simp [exS, evE, evEs, args1, hasBo, h2, h3, e2])]
    by_cases z : (c0.fdiv 3).fmod 12 = 5
    · obtain ⟨p', q', P', pk, e⟩ := wide_ok ns k (by omega) (by omega)
      exact ⟨p', q', P', pk, by simp [exSs, exS, evE, evEs, args1, hasBo, h0, m2, m4, z, e, tgU, setAll]⟩
    · exact ⟨p, q, P, p3, by simp [exSs, exS, evE, evEs, args1, hasBo, h0, m2, m4, z]⟩
  obtain ⟨p', q', P', rfl, e⟩ := key
  refine mir_ret ?_
  show exSs fuel b_law [.sh (.scr ns), .no, .no, .no, .no, .no, .no, .no, .no] = _
  rw [← List.take_append_drop 4 b_law, exSs_app, e]
  exact rest_ok P' ns
end MP
namespace WS
open PySem PySem.Spec PyProof.Rows L2 MP
def topS (i : Nat) : Stmt := PySem.Challenge.pw_wordscales_k09_whole_alike_or_parted.main.body.getD i (.Pass ⟨0, 0, 0, 0⟩)
abbrev s_lowest : Stmt := topS 4
theorem sc_lowest : FnScope ["top", "bottom", "a", "b", "c"] ["top", "bottom"] (defScope s_lowest) := ⟨rfl, rfl, rfl, by decide +kernel, rfl, by decide +kernel, by decide +kernel⟩
theorem ck_lowest : chkSs ["top", "bottom", "a", "b", "c"] b_lowest (defScope s_lowest) (defBody s_lowest) = true := by decide +kernel
abbrev s_plus : Stmt := topS 5
theorem sc_plus : FnScope ["one", "other"] ["one", "other"] (defScope s_plus) := ⟨rfl, rfl, rfl, by decide +kernel, rfl, by decide +kernel, by decide +kernel⟩
theorem ck_plus : chkSs ["one", "other"] b_plus (defScope s_plus) (defBody s_plus) = true := by decide +kernel
abbrev s_minus : Stmt := topS 6
theorem sc_minus : FnScope ["one", "other"] ["one", "other"] (defScope s_minus) := ⟨rfl, rfl, rfl, by decide +kernel, rfl, by decide +kernel, by decide +kernel⟩
theorem ck_minus : chkSs ["one", "other"] b_minus (defScope s_minus) (defBody s_minus) = true := by decide +kernel
abbrev s_times : Stmt := topS 7
theorem sc_times : FnScope ["one", "other"] ["one", "other"] (defScope s_times) := ⟨rfl, rfl, rfl, by decide +kernel, rfl, by decide +kernel, by decide +kernel⟩
theorem ck_times : chkSs ["one", "other"] b_times (defScope s_times) (defBody s_times) = true := by decide +kernel
abbrev s_over : Stmt := topS 8
theorem sc_over : FnScope ["one", "other"] ["one", "other"] (defScope s_over) := ⟨rfl, rfl, rfl, by decide +kernel, rfl, by decide +kernel, by decide +kernel⟩
theorem ck_over : chkSs ["one", "other"] b_over (defScope s_over) (defBody s_over) = true := by decide +kernel
abbrev s_dot : Stmt := topS 9
theorem sc_dot : FnScope ["one", "other", "total", "k"] ["one", "other"] (defScope s_dot) := ⟨rfl, rfl, rfl, by decide +kernel, rfl, by decide +kernel, by decide +kernel⟩
theorem ck_dot : chkSs ["one", "other", "total", "k"] b_dot (defScope s_dot) (defBody s_dot) = true := by decide +kernel
abbrev s_column : Stmt := topS 14
theorem sc_column : FnScope ["step", "b", "row"] ["step", "b"] (defScope s_column) := ⟨rfl, rfl, rfl, by decide +kernel, rfl, by decide +kernel, by decide +kernel⟩
theorem ck_column : chkSs ["step", "b", "row"] b_column (defScope s_column) (defBody s_column) = true := by decide +kernel
abbrev s_led : Stmt := topS 15
theorem sc_led : FnScope ["row", "step", "b"] ["row", "step"] (defScope s_led) := ⟨rfl, rfl, rfl, by decide +kernel, rfl, by decide +kernel, by decide +kernel⟩
theorem ck_led : chkSs ["row", "step", "b"] b_led (defScope s_led) (defBody s_led) = true := by decide +kernel
abbrev s_see_signs : Stmt := topS 17
theorem sc_see_signs : FnScope ["one", "other"] ["one", "other"] (defScope s_see_signs) := ⟨rfl, rfl, rfl, by decide +kernel, rfl, by decide +kernel, by decide +kernel⟩
theorem ck_see_signs : chkSs ["one", "other"] b_see_signs (defScope s_see_signs) (defBody s_see_signs) = true := by decide +kernel
abbrev s_noughts : Stmt := topS 18
theorem sc_noughts : FnScope ["many", "k"] ["many"] (defScope s_noughts) := ⟨rfl, rfl, rfl, by decide +kernel, rfl, by decide +kernel, by decide +kernel⟩
theorem ck_noughts : chkSs ["many", "k"] b_noughts (defScope s_noughts) (defBody s_noughts) = true := by decide +kernel
abbrev s_side_by_side : Stmt := topS 19
theorem sc_side_by_side : FnScope ["one", "other", "rows", "row"] ["one", "other"] (defScope s_side_by_side) := ⟨rfl, rfl, rfl, by decide +kernel, rfl, by decide +kernel, by decide +kernel⟩
theorem ck_side_by_side : chkSs ["one", "other", "rows", "row"] b_side_by_side (defScope s_side_by_side) (defBody s_side_by_side) = true := by decide +kernel
abbrev s_pivot_of : Stmt := topS 21
theorem sc_pivot_of : FnScope ["row", "k"] ["row"] (defScope s_pivot_of) := ⟨rfl, rfl, rfl, by decide +kernel, rfl, by decide +kernel, by decide +kernel⟩
theorem ck_pivot_of : chkSs ["row", "k"] b_pivot_of (defScope s_pivot_of) (defBody s_pivot_of) = true := by decide +kernel
abbrev s_Span_init : Stmt := inClass (topS 22) 0
theorem sc_Span_init : FnScope ["self"] ["self"] (defScope s_Span_init) := ⟨rfl, rfl, rfl, by decide +kernel, rfl, by decide +kernel, by decide +kernel⟩
theorem ck_Span_init : chkIni ["self"] (defScope s_Span_init) (defBody s_Span_init) = true := by decide +kernel
abbrev s_Span_split : Stmt := inClass (topS 22) 1
theorem sc_Span_split : FnScope ["self", "row", "rest", "parts", "pivot", "base", "mixed", "factor", "j", "known", "k"] ["self", "row"] (defScope s_Span_split) := ⟨rfl, rfl, rfl, by decide +kernel, rfl, by decide +kernel, by decide +kernel⟩
theorem ck_Span_split : chkSs ["self", "row", "rest", "parts", "pivot", "base", "mixed", "factor", "j", "known", "k"] b_Span_split (defScope s_Span_split) (defBody s_Span_split) = true := by decide +kernel
abbrev s_Span_put : Stmt := inClass (topS 22) 3
theorem sc_Span_put : FnScope ["self", "row", "rest", "parts", "pivot", "mixed", "part"] ["self", "row"] (defScope s_Span_put) := ⟨rfl, rfl, rfl, by decide +kernel, rfl, by decide +kernel, by decide +kernel⟩
theorem ck_Span_put : chkPut ["self", "row", "rest", "parts", "pivot", "mixed", "part"] (defScope s_Span_put) e2_put e4_put (defBody s_Span_put) = true := by decide +kernel
abbrev s_apart : Stmt := topS 24
theorem sc_apart : FnScope ["one", "other", "steps", "k", "part"] ["one", "other"] (defScope s_apart) := ⟨rfl, rfl, rfl, by decide +kernel, rfl, by decide +kernel, by decide +kernel⟩
theorem ck_apart : chkSs ["one", "other", "steps", "k", "part"] b_apart (defScope s_apart) (defBody s_apart) = true := by decide +kernel
abbrev s_looked_for : Stmt := topS 25
theorem sc_looked_for : FnScope ["one", "other", "both", "span", "line", "at", "word", "row", "sign"] ["one", "other"] (defScope s_looked_for) := ⟨rfl, rfl, rfl, by decide +kernel, rfl, by decide +kernel, by decide +kernel⟩
theorem ck_looked_for : chkSs ["one", "other", "both", "span", "line", "at", "word", "row", "sign"] b_looked_for (defScope s_looked_for) (defBody s_looked_for) = true := by decide +kernel
abbrev s_parting : Stmt := topS 26
theorem sc_parting : FnScope ["one", "other"] ["one", "other"] (defScope s_parting) := ⟨rfl, rfl, rfl, by decide +kernel, rfl, by decide +kernel, by decide +kernel⟩
theorem ck_parting : chkSs ["one", "other"] b_parting (defScope s_parting) (defBody s_parting) = true := by decide +kernel
abbrev s_rows_for : Stmt := topS 27
theorem sc_rows_for : FnScope ["one", "other", "word", "rows"] ["one", "other"] (defScope s_rows_for) := ⟨rfl, rfl, rfl, by decide +kernel, rfl, by decide +kernel, by decide +kernel⟩
theorem ck_rows_for : chkSs ["one", "other", "word", "rows"] b_rows_for (defScope s_rows_for) (defBody s_rows_for) = true := by decide +kernel
abbrev s_law_cell_at : Stmt := topS 29
theorem sc_law_cell_at : FnScope ["script", "k"] ["script", "k"] (defScope s_law_cell_at) := ⟨rfl, rfl, rfl, by decide +kernel, rfl, by decide +kernel, by decide +kernel⟩
theorem ck_law_cell_at : chkSs ["script", "k"] b_law_cell_at (defScope s_law_cell_at) (defBody s_law_cell_at) = true := by decide +kernel
abbrev s_law_whole : Stmt := topS 30
theorem sc_law_whole : FnScope ["found"] ["found"] (defScope s_law_whole) := ⟨rfl, rfl, rfl, by decide +kernel, rfl, by decide +kernel, by decide +kernel⟩
theorem ck_law_whole : chkSs ["found"] b_law_whole (defScope s_law_whole) (defBody s_law_whole) = true := by decide +kernel
abbrev s_law_low : Stmt := topS 31
theorem sc_law_low : FnScope ["top", "bottom", "a", "b", "rest"] ["top", "bottom"] (defScope s_law_low) := ⟨rfl, rfl, rfl, by decide +kernel, rfl, by decide +kernel, by decide +kernel⟩
theorem ck_law_low : chkSs ["top", "bottom", "a", "b", "rest"] b_law_low (defScope s_law_low) (defBody s_law_low) = true := by decide +kernel
abbrev s_law_plus : Stmt := topS 32
theorem sc_law_plus : FnScope ["one", "other"] ["one", "other"] (defScope s_law_plus) := ⟨rfl, rfl, rfl, by decide +kernel, rfl, by decide +kernel, by decide +kernel⟩
theorem ck_law_plus : chkSs ["one", "other"] b_law_plus (defScope s_law_plus) (defBody s_law_plus) = true := by decide +kernel
abbrev s_law_times : Stmt := topS 33
theorem sc_law_times : FnScope ["one", "other"] ["one", "other"] (defScope s_law_times) := ⟨rfl, rfl, rfl, by decide +kernel, rfl, by decide +kernel, by decide +kernel⟩
theorem ck_law_times : chkSs ["one", "other"] b_law_times (defScope s_law_times) (defBody s_law_times) = true := by decide +kernel
abbrev s_law_dot : Stmt := topS 34
theorem sc_law_dot : FnScope ["one", "other", "total", "k"] ["one", "other"] (defScope s_law_dot) := ⟨rfl, rfl, rfl, by decide +kernel, rfl, by decide +kernel, by decide +kernel⟩
theorem ck_law_dot : chkSs ["one", "other", "total", "k"] b_law_dot (defScope s_law_dot) (defBody s_law_dot) = true := by decide +kernel
abbrev s_law_fraction : Stmt := topS 35
theorem sc_law_fraction : FnScope ["cell"] ["cell"] (defScope s_law_fraction) := ⟨rfl, rfl, rfl, by decide +kernel, rfl, by decide +kernel, by decide +kernel⟩
theorem ck_law_fraction : chkSs ["cell"] b_law_fraction (defScope s_law_fraction) (defBody s_law_fraction) = true := by decide +kernel
abbrev s_law_machine : Stmt := topS 36
theorem sc_law_machine : FnScope ["cell", "rooms", "signs", "out", "k", "steps", "sign", "rows", "a", "at"] ["cell", "rooms", "signs"] (defScope s_law_machine) := ⟨rfl, rfl, rfl, by decide +kernel, rfl, by decide +kernel, by decide +kernel⟩
theorem ck_law_machine : chkSs ["cell", "rooms", "signs", "out", "k", "steps", "sign", "rows", "a", "at"] b_law_machine (defScope s_law_machine) (defBody s_law_machine) = true := by decide +kernel
abbrev s_law_word : Stmt := topS 37
theorem sc_law_word : FnScope ["cell", "signs", "most", "word", "k"] ["cell", "signs", "most"] (defScope s_law_word) := ⟨rfl, rfl, rfl, by decide +kernel, rfl, by decide +kernel, by decide +kernel⟩
theorem ck_law_word : chkSs ["cell", "signs", "most", "word", "k"] b_law_word (defScope s_law_word) (defBody s_law_word) = true := by decide +kernel
abbrev s_law_led : Stmt := topS 38
theorem sc_law_led : FnScope ["row", "step", "out", "b", "a"] ["row", "step"] (defScope s_law_led) := ⟨rfl, rfl, rfl, by decide +kernel, rfl, by decide +kernel, by decide +kernel⟩
theorem ck_law_led : chkSs ["row", "step", "out", "b", "a"] b_law_led (defScope s_law_led) (defBody s_law_led) = true := by decide +kernel
abbrev s_law_row : Stmt := topS 39
theorem sc_law_row : FnScope ["machine", "word", "row", "sign"] ["machine", "word"] (defScope s_law_row) := ⟨rfl, rfl, rfl, by decide +kernel, rfl, by decide +kernel, by decide +kernel⟩
theorem ck_law_row : chkSs ["machine", "word", "row", "sign"] b_law_row (defScope s_law_row) (defBody s_law_row) = true := by decide +kernel
abbrev s_law_weight : Stmt := topS 40
theorem sc_law_weight : FnScope ["machine", "word"] ["machine", "word"] (defScope s_law_weight) := ⟨rfl, rfl, rfl, by decide +kernel, rfl, by decide +kernel, by decide +kernel⟩
theorem ck_law_weight : chkSs ["machine", "word"] b_law_weight (defScope s_law_weight) (defBody s_law_weight) = true := by decide +kernel
abbrev s_law_proper : Stmt := topS 41
theorem sc_law_proper : FnScope ["part"] ["part"] (defScope s_law_proper) := ⟨rfl, rfl, rfl, by decide +kernel, rfl, by decide +kernel, by decide +kernel⟩
theorem ck_law_proper : chkSs ["part"] b_law_proper (defScope s_law_proper) (defBody s_law_proper) = true := by decide +kernel
abbrev s_law_proper_row : Stmt := topS 42
theorem sc_law_proper_row : FnScope ["row", "many", "part"] ["row", "many"] (defScope s_law_proper_row) := ⟨rfl, rfl, rfl, by decide +kernel, rfl, by decide +kernel, by decide +kernel⟩
theorem ck_law_proper_row : chkSs ["row", "many", "part"] b_law_proper_row (defScope s_law_proper_row) (defBody s_law_proper_row) = true := by decide +kernel
abbrev s_law_beside : Stmt := topS 44
theorem sc_law_beside : FnScope ["one", "other", "left", "right", "steps", "k", "rows", "row"] ["one", "other"] (defScope s_law_beside) := ⟨rfl, rfl, rfl, by decide +kernel, rfl, by decide +kernel, by decide +kernel⟩
theorem ck_law_beside : chkSs ["one", "other", "left", "right", "steps", "k", "rows", "row"] b_law_beside (defScope s_law_beside) (defBody s_law_beside) = true := by decide +kernel
abbrev s_law_turned_row : Stmt := topS 45
theorem sc_law_turned_row : FnScope ["row", "i", "j", "c", "out"] ["row", "i", "j", "c"] (defScope s_law_turned_row) := ⟨rfl, rfl, rfl, by decide +kernel, rfl, by decide +kernel, by decide +kernel⟩
theorem ck_law_turned_row : chkSs ["row", "i", "j", "c", "out"] b_law_turned_row (defScope s_law_turned_row) (defBody s_law_turned_row) = true := by decide +kernel
abbrev s_law_mixed : Stmt := topS 46
theorem sc_law_mixed : FnScope ["machine", "i", "j", "c", "less", "first", "last", "steps", "step", "rows", "row", "b"] ["machine", "i", "j", "c"] (defScope s_law_mixed) := ⟨rfl, rfl, rfl, by decide +kernel, rfl, by decide +kernel, by decide +kernel⟩
theorem ck_law_mixed : chkSs ["machine", "i", "j", "c", "less", "first", "last", "steps", "step", "rows", "row", "b"] b_law_mixed (defScope s_law_mixed) (defBody s_law_mixed) = true := by decide +kernel
abbrev s_law_kin : Stmt := topS 47
theorem sc_law_kin : FnScope ["machine", "cell", "more", "rooms", "signs", "idle", "none", "k", "i", "j"] ["machine", "cell", "more"] (defScope s_law_kin) := ⟨rfl, rfl, rfl, by decide +kernel, rfl, by decide +kernel, by decide +kernel⟩
theorem ck_law_kin : chkSs ["machine", "cell", "more", "rooms", "signs", "idle", "none", "k", "i", "j"] b_law_kin (defScope s_law_kin) (defBody s_law_kin) = true := by decide +kernel
abbrev s_law_over : Stmt := topS 49
theorem sc_law_over : FnScope ["part"] ["part"] (defScope s_law_over) := ⟨rfl, rfl, rfl, by decide +kernel, rfl, by decide +kernel, by decide +kernel⟩
theorem ck_law_over : chkSs ["part"] b_law_over (defScope s_law_over) (defBody s_law_over) = true := by decide +kernel
abbrev s_law_rank : Stmt := topS 48
theorem sc_law_rank : FnScope ["rows", "left", "done", "k", "at", "base", "r", "part", "less", "row", "c"] ["rows"] (defScope s_law_rank) := ⟨rfl, rfl, rfl, by decide +kernel, rfl, by decide +kernel, by decide +kernel⟩
theorem ck_law_rank : chkSs ["rows", "left", "done", "k", "at", "base", "r", "part", "less", "row", "c"] b_law_rank (defScope s_law_rank) (defBody s_law_rank) = true := by decide +kernel
abbrev s_law_in_span : Stmt := topS 50
theorem sc_law_in_span : FnScope ["rows", "row", "part"] ["rows", "row"] (defScope s_law_in_span) := ⟨rfl, rfl, rfl, by decide +kernel, rfl, by decide +kernel, by decide +kernel⟩
theorem ck_law_in_span : chkSs ["rows", "row", "part"] b_law_in_span (defScope s_law_in_span) (defBody s_law_in_span) = true := by decide +kernel
abbrev s_law_both : Stmt := topS 51
theorem sc_law_both : FnScope ["one", "other", "less", "part"] ["one", "other"] (defScope s_law_both) := ⟨rfl, rfl, rfl, by decide +kernel, rfl, by decide +kernel, by decide +kernel⟩
theorem ck_law_both : chkSs ["one", "other", "less", "part"] b_law_both (defScope s_law_both) (defBody s_law_both) = true := by decide +kernel
abbrev s_law_shown : Stmt := topS 52
theorem sc_law_shown : FnScope ["one", "other", "rows", "both", "known", "row", "step"] ["one", "other", "rows"] (defScope s_law_shown) := ⟨rfl, rfl, rfl, by decide +kernel, rfl, by decide +kernel, by decide +kernel⟩
theorem ck_law_shown : chkSs ["one", "other", "rows", "both", "known", "row", "step"] b_law_shown (defScope s_law_shown) (defBody s_law_shown) = true := by decide +kernel
abbrev s_law_other : Stmt := topS 53
theorem sc_law_other : FnScope ["one", "cell", "second", "rooms", "first"] ["one", "cell", "second"] (defScope s_law_other) := ⟨rfl, rfl, rfl, by decide +kernel, rfl, by decide +kernel, by decide +kernel⟩
theorem ck_law_other : chkSs ["one", "cell", "second", "rooms", "first"] b_law_other (defScope s_law_other) (defBody s_law_other) = true := by decide +kernel
abbrev s_law_proper_rows : Stmt := topS 54
theorem sc_law_proper_rows : FnScope ["rows", "many", "row"] ["rows", "many"] (defScope s_law_proper_rows) := ⟨rfl, rfl, rfl, by decide +kernel, rfl, by decide +kernel, by decide +kernel⟩
theorem ck_law_proper_rows : chkSs ["rows", "many", "row"] b_law_proper_rows (defScope s_law_proper_rows) (defBody s_law_proper_rows) = true := by decide +kernel
abbrev s_law_wide : Stmt := topS 55
theorem sc_law_wide : FnScope ["script", "signs", "cell", "base", "one", "other", "last", "at"] ["script", "signs"] (defScope s_law_wide) := ⟨rfl, rfl, rfl, by decide +kernel, rfl, by decide +kernel, by decide +kernel⟩
theorem ck_law_wide : chkSs ["script", "signs", "cell", "base", "one", "other", "last", "at"] b_law_wide (defScope s_law_wide) (defBody s_law_wide) = true := by decide +kernel
abbrev s_law : Stmt := topS 56
theorem sc_law : FnScope ["script", "signs", "one", "other", "many", "word", "rows", "k", "near"] ["script"] (defScope s_law) := ⟨rfl, rfl, rfl, by decide +kernel, rfl, by decide +kernel, by decide +kernel⟩
theorem ck_law : chkSs ["script", "signs", "one", "other", "many", "word", "rows", "k", "near"] b_law (defScope s_law) (defBody s_law) = true := by decide +kernel
def spLaw (K : PySem.W.Frag) : Sp := fun vs H Q _ => ∃ (a : Addr) (ns : List Int), vs = [.ref a] ∧ SqL K H a (ns.map V.int) ∧ ns.length ≤ 63 ∧ ∀ H', Q (.bl true) H'
set_option maxHeartbeats 0 in
theorem all_mk {l : PySem.W.OpenLaw} {w : World} {K : PySem.W.Frag} {h : Heap} {mg : Str → Option Value} {fa : Addr} {f1 f2 f3 f4 f5 f6 f7 f8 f9 f10 f11 f12 f13 f14 f15 f16 f17 f18 f19 f20 f21 f22 f23 f24 f25 f26 f27 f28 f29 f30 f31 f32 f33 f34 f35 f36 f37 f38 f39 f40 f41 f42 f43 f44 f45 f46 e_Span : Addr} (X : K.In h) (G : h.Ns mainGlobals mg) (hfa : mg "law" = some (.ref fa))
    (x_Span : PySem.W.nsIn K mainGlobals "Span" = some (some (.ref e_Span))) (pg : PySem.W.plainGet K e_Span Str.empty = true) (hd : PySem.W.hasDictIn K e_Span = true) (po : PySem.W.plainOver K e_Span = true) (sa : PySem.W.findIn K (.ref e_Span) "__setattr__" = some (some (.builtin "object.__setattr__"))) (mk : PySem.W.makesIn K e_Span = true) (kc : PySem.W.keepIn K (.ref e_Span) = true) (nR : PySem.W.findIn K (.ref e_Span) "rows" = some none) (nC : PySem.W.findIn K (.ref e_Span) "cleared" = some none)
    {od1 an1 : Option Addr} {sl1 : Array (Option Value)} {oc1 kV1 dc1 pm1 cd1 ct1 : Value}
    (a1 : PySem.W.nsIn K mainGlobals "lowest" = some (some (.ref f1)))
    (l1 : K.lookup f1 = some ⟨oc1, od1, .func (PySem.W.fnOf "lowest" "lowest" (defArgs s_lowest) (defBody s_lowest) (defScope s_lowest) .none kV1 dc1 pm1 an1 cd1 ct1), sl1⟩)
    (c1 : PySem.W.codeIn K cd1 "lowest" = true) (k1 : PySem.W.keepIn K (.ref f1) = true)
    {od2 an2 : Option Addr} {sl2 : Array (Option Value)} {oc2 kV2 dc2 pm2 cd2 ct2 : Value}
    (a2 : PySem.W.nsIn K mainGlobals "plus" = some (some (.ref f2)))
    (l2 : K.lookup f2 = some ⟨oc2, od2, .func (PySem.W.fnOf "plus" "plus" (defArgs s_plus) (defBody s_plus) (defScope s_plus) .none kV2 dc2 pm2 an2 cd2 ct2), sl2⟩)
    (c2 : PySem.W.codeIn K cd2 "plus" = true) (k2 : PySem.W.keepIn K (.ref f2) = true)
    {od3 an3 : Option Addr} {sl3 : Array (Option Value)} {oc3 kV3 dc3 pm3 cd3 ct3 : Value}
    (a3 : PySem.W.nsIn K mainGlobals "minus" = some (some (.ref f3)))
    (l3 : K.lookup f3 = some ⟨oc3, od3, .func (PySem.W.fnOf "minus" "minus" (defArgs s_minus) (defBody s_minus) (defScope s_minus) .none kV3 dc3 pm3 an3 cd3 ct3), sl3⟩)
    (c3 : PySem.W.codeIn K cd3 "minus" = true) (k3 : PySem.W.keepIn K (.ref f3) = true)
    {od4 an4 : Option Addr} {sl4 : Array (Option Value)} {oc4 kV4 dc4 pm4 cd4 ct4 : Value}
    (a4 : PySem.W.nsIn K mainGlobals "times" = some (some (.ref f4)))
    (l4 : K.lookup f4 = some ⟨oc4, od4, .func (PySem.W.fnOf "times" "times" (defArgs s_times) (defBody s_times) (defScope s_times) .none kV4 dc4 pm4 an4 cd4 ct4), sl4⟩)
    (c4 : PySem.W.codeIn K cd4 "times" = true) (k4 : PySem.W.keepIn K (.ref f4) = true)
    {od5 an5 : Option Addr} {sl5 : Array (Option Value)} {oc5 kV5 dc5 pm5 cd5 ct5 : Value}
    (a5 : PySem.W.nsIn K mainGlobals "over" = some (some (.ref f5)))
    (l5 : K.lookup f5 = some ⟨oc5, od5, .func (PySem.W.fnOf "over" "over" (defArgs s_over) (defBody s_over) (defScope s_over) .none kV5 dc5 pm5 an5 cd5 ct5), sl5⟩)
    (c5 : PySem.W.codeIn K cd5 "over" = true) (k5 : PySem.W.keepIn K (.ref f5) = true)
    {od6 an6 : Option Addr} {sl6 : Array (Option Value)} {oc6 kV6 dc6 pm6 cd6 ct6 : Value}
    (a6 : PySem.W.nsIn K mainGlobals "dot" = some (some (.ref f6)))
    (l6 : K.lookup f6 = some ⟨oc6, od6, .func (PySem.W.fnOf "dot" "dot" (defArgs s_dot) (defBody s_dot) (defScope s_dot) .none kV6 dc6 pm6 an6 cd6 ct6), sl6⟩)
    (c6 : PySem.W.codeIn K cd6 "dot" = true) (k6 : PySem.W.keepIn K (.ref f6) = true)
    {od7 an7 : Option Addr} {sl7 : Array (Option Value)} {oc7 kV7 dc7 pm7 cd7 ct7 : Value}
    (a7 : PySem.W.nsIn K mainGlobals "column" = some (some (.ref f7)))
    (l7 : K.lookup f7 = some ⟨oc7, od7, .func (PySem.W.fnOf "column" "column" (defArgs s_column) (defBody s_column) (defScope s_column) .none kV7 dc7 pm7 an7 cd7 ct7), sl7⟩)
    (c7 : PySem.W.codeIn K cd7 "column" = true) (k7 : PySem.W.keepIn K (.ref f7) = true)
    {od8 an8 : Option Addr} {sl8 : Array (Option Value)} {oc8 kV8 dc8 pm8 cd8 ct8 : Value}
    (a8 : PySem.W.nsIn K mainGlobals "led" = some (some (.ref f8)))
    (l8 : K.lookup f8 = some ⟨oc8, od8, .func (PySem.W.fnOf "led" "led" (defArgs s_led) (defBody s_led) (defScope s_led) .none kV8 dc8 pm8 an8 cd8 ct8), sl8⟩)
    (c8 : PySem.W.codeIn K cd8 "led" = true) (k8 : PySem.W.keepIn K (.ref f8) = true)
    {od9 an9 : Option Addr} {sl9 : Array (Option Value)} {oc9 kV9 dc9 pm9 cd9 ct9 : Value}
    (a9 : PySem.W.nsIn K mainGlobals "see_signs" = some (some (.ref f9)))
    (l9 : K.lookup f9 = some ⟨oc9, od9, .func (PySem.W.fnOf "see_signs" "see_signs" (defArgs s_see_signs) (defBody s_see_signs) (defScope s_see_signs) .none kV9 dc9 pm9 an9 cd9 ct9), sl9⟩)
    (c9 : PySem.W.codeIn K cd9 "see_signs" = true) (k9 : PySem.W.keepIn K (.ref f9) = true)
    {od10 an10 : Option Addr} {sl10 : Array (Option Value)} {oc10 kV10 dc10 pm10 cd10 ct10 : Value}
    (a10 : PySem.W.nsIn K mainGlobals "noughts" = some (some (.ref f10)))
    (l10 : K.lookup f10 = some ⟨oc10, od10, .func (PySem.W.fnOf "noughts" "noughts" (defArgs s_noughts) (defBody s_noughts) (defScope s_noughts) .none kV10 dc10 pm10 an10 cd10 ct10), sl10⟩)
    (c10 : PySem.W.codeIn K cd10 "noughts" = true) (k10 : PySem.W.keepIn K (.ref f10) = true)
    {od11 an11 : Option Addr} {sl11 : Array (Option Value)} {oc11 kV11 dc11 pm11 cd11 ct11 : Value}
    (a11 : PySem.W.nsIn K mainGlobals "side_by_side" = some (some (.ref f11)))
    (l11 : K.lookup f11 = some ⟨oc11, od11, .func (PySem.W.fnOf "side_by_side" "side_by_side" (defArgs s_side_by_side) (defBody s_side_by_side) (defScope s_side_by_side) .none kV11 dc11 pm11 an11 cd11 ct11), sl11⟩)
    (c11 : PySem.W.codeIn K cd11 "side_by_side" = true) (k11 : PySem.W.keepIn K (.ref f11) = true)
    {od12 an12 : Option Addr} {sl12 : Array (Option Value)} {oc12 kV12 dc12 pm12 cd12 ct12 : Value}
    (a12 : PySem.W.nsIn K mainGlobals "pivot_of" = some (some (.ref f12)))
    (l12 : K.lookup f12 = some ⟨oc12, od12, .func (PySem.W.fnOf "pivot_of" "pivot_of" (defArgs s_pivot_of) (defBody s_pivot_of) (defScope s_pivot_of) .none kV12 dc12 pm12 an12 cd12 ct12), sl12⟩)
    (c12 : PySem.W.codeIn K cd12 "pivot_of" = true) (k12 : PySem.W.keepIn K (.ref f12) = true)
    {od13 an13 : Option Addr} {sl13 : Array (Option Value)} {oc13 kV13 dc13 pm13 cd13 ct13 : Value}
    (a13 : PySem.W.findIn K (.ref e_Span) "__init__" = some (some (.ref f13))) (i13 : PySem.W.isFn K (.ref f13) = true)
    (l13 : K.lookup f13 = some ⟨oc13, od13, .func (PySem.W.fnOf "__init__" "Span.__init__" (defArgs s_Span_init) (defBody s_Span_init) (defScope s_Span_init) .none kV13 dc13 pm13 an13 cd13 ct13), sl13⟩)
    (c13 : PySem.W.codeIn K cd13 "Span.__init__" = true) (k13 : PySem.W.keepIn K (.ref f13) = true)
    {od14 an14 : Option Addr} {sl14 : Array (Option Value)} {oc14 kV14 dc14 pm14 cd14 ct14 : Value}
    (a14 : PySem.W.findIn K (.ref e_Span) "split" = some (some (.ref f14))) (i14 : PySem.W.isFn K (.ref f14) = true)
    (l14 : K.lookup f14 = some ⟨oc14, od14, .func (PySem.W.fnOf "split" "Span.split" (defArgs s_Span_split) (defBody s_Span_split) (defScope s_Span_split) .none kV14 dc14 pm14 an14 cd14 ct14), sl14⟩)
    (c14 : PySem.W.codeIn K cd14 "Span.split" = true) (k14 : PySem.W.keepIn K (.ref f14) = true)
    {od15 an15 : Option Addr} {sl15 : Array (Option Value)} {oc15 kV15 dc15 pm15 cd15 ct15 : Value}
    (a15 : PySem.W.findIn K (.ref e_Span) "put" = some (some (.ref f15))) (i15 : PySem.W.isFn K (.ref f15) = true)
    (l15 : K.lookup f15 = some ⟨oc15, od15, .func (PySem.W.fnOf "put" "Span.put" (defArgs s_Span_put) (defBody s_Span_put) (defScope s_Span_put) .none kV15 dc15 pm15 an15 cd15 ct15), sl15⟩)
    (c15 : PySem.W.codeIn K cd15 "Span.put" = true) (k15 : PySem.W.keepIn K (.ref f15) = true)
    {od16 an16 : Option Addr} {sl16 : Array (Option Value)} {oc16 kV16 dc16 pm16 cd16 ct16 : Value}
    (a16 : PySem.W.nsIn K mainGlobals "apart" = some (some (.ref f16)))
    (l16 : K.lookup f16 = some ⟨oc16, od16, .func (PySem.W.fnOf "apart" "apart" (defArgs s_apart) (defBody s_apart) (defScope s_apart) .none kV16 dc16 pm16 an16 cd16 ct16), sl16⟩)
    (c16 : PySem.W.codeIn K cd16 "apart" = true) (k16 : PySem.W.keepIn K (.ref f16) = true)
    {od17 an17 : Option Addr} {sl17 : Array (Option Value)} {oc17 kV17 dc17 pm17 cd17 ct17 : Value}
    (a17 : PySem.W.nsIn K mainGlobals "looked_for" = some (some (.ref f17)))
    (l17 : K.lookup f17 = some ⟨oc17, od17, .func (PySem.W.fnOf "looked_for" "looked_for" (defArgs s_looked_for) (defBody s_looked_for) (defScope s_looked_for) .none kV17 dc17 pm17 an17 cd17 ct17), sl17⟩)
    (c17 : PySem.W.codeIn K cd17 "looked_for" = true) (k17 : PySem.W.keepIn K (.ref f17) = true)
    {od18 an18 : Option Addr} {sl18 : Array (Option Value)} {oc18 kV18 dc18 pm18 cd18 ct18 : Value}
    (a18 : PySem.W.nsIn K mainGlobals "parting" = some (some (.ref f18)))
    (l18 : K.lookup f18 = some ⟨oc18, od18, .func (PySem.W.fnOf "parting" "parting" (defArgs s_parting) (defBody s_parting) (defScope s_parting) .none kV18 dc18 pm18 an18 cd18 ct18), sl18⟩)
    (c18 : PySem.W.codeIn K cd18 "parting" = true) (k18 : PySem.W.keepIn K (.ref f18) = true)
    {od19 an19 : Option Addr} {sl19 : Array (Option Value)} {oc19 kV19 dc19 pm19 cd19 ct19 : Value}
    (a19 : PySem.W.nsIn K mainGlobals "rows_for" = some (some (.ref f19)))
    (l19 : K.lookup f19 = some ⟨oc19, od19, .func (PySem.W.fnOf "rows_for" "rows_for" (defArgs s_rows_for) (defBody s_rows_for) (defScope s_rows_for) .none kV19 dc19 pm19 an19 cd19 ct19), sl19⟩)
    (c19 : PySem.W.codeIn K cd19 "rows_for" = true) (k19 : PySem.W.keepIn K (.ref f19) = true)
    {od20 an20 : Option Addr} {sl20 : Array (Option Value)} {oc20 kV20 dc20 pm20 cd20 ct20 : Value}
    (a20 : PySem.W.nsIn K mainGlobals "_law_cell_at" = some (some (.ref f20)))
    (l20 : K.lookup f20 = some ⟨oc20, od20, .func (PySem.W.fnOf "_law_cell_at" "_law_cell_at" (defArgs s_law_cell_at) (defBody s_law_cell_at) (defScope s_law_cell_at) .none kV20 dc20 pm20 an20 cd20 ct20), sl20⟩)
    (c20 : PySem.W.codeIn K cd20 "_law_cell_at" = true) (k20 : PySem.W.keepIn K (.ref f20) = true)
    {od21 an21 : Option Addr} {sl21 : Array (Option Value)} {oc21 kV21 dc21 pm21 cd21 ct21 : Value}
    (a21 : PySem.W.nsIn K mainGlobals "_law_whole" = some (some (.ref f21)))
    (l21 : K.lookup f21 = some ⟨oc21, od21, .func (PySem.W.fnOf "_law_whole" "_law_whole" (defArgs s_law_whole) (defBody s_law_whole) (defScope s_law_whole) .none kV21 dc21 pm21 an21 cd21 ct21), sl21⟩)
    (c21 : PySem.W.codeIn K cd21 "_law_whole" = true) (k21 : PySem.W.keepIn K (.ref f21) = true)
    {od22 an22 : Option Addr} {sl22 : Array (Option Value)} {oc22 kV22 dc22 pm22 cd22 ct22 : Value}
    (a22 : PySem.W.nsIn K mainGlobals "_law_low" = some (some (.ref f22)))
    (l22 : K.lookup f22 = some ⟨oc22, od22, .func (PySem.W.fnOf "_law_low" "_law_low" (defArgs s_law_low) (defBody s_law_low) (defScope s_law_low) .none kV22 dc22 pm22 an22 cd22 ct22), sl22⟩)
    (c22 : PySem.W.codeIn K cd22 "_law_low" = true) (k22 : PySem.W.keepIn K (.ref f22) = true)
    {od23 an23 : Option Addr} {sl23 : Array (Option Value)} {oc23 kV23 dc23 pm23 cd23 ct23 : Value}
    (a23 : PySem.W.nsIn K mainGlobals "_law_plus" = some (some (.ref f23)))
    (l23 : K.lookup f23 = some ⟨oc23, od23, .func (PySem.W.fnOf "_law_plus" "_law_plus" (defArgs s_law_plus) (defBody s_law_plus) (defScope s_law_plus) .none kV23 dc23 pm23 an23 cd23 ct23), sl23⟩)
    (c23 : PySem.W.codeIn K cd23 "_law_plus" = true) (k23 : PySem.W.keepIn K (.ref f23) = true)
    {od24 an24 : Option Addr} {sl24 : Array (Option Value)} {oc24 kV24 dc24 pm24 cd24 ct24 : Value}
    (a24 : PySem.W.nsIn K mainGlobals "_law_times" = some (some (.ref f24)))
    (l24 : K.lookup f24 = some ⟨oc24, od24, .func (PySem.W.fnOf "_law_times" "_law_times" (defArgs s_law_times) (defBody s_law_times) (defScope s_law_times) .none kV24 dc24 pm24 an24 cd24 ct24), sl24⟩)
    (c24 : PySem.W.codeIn K cd24 "_law_times" = true) (k24 : PySem.W.keepIn K (.ref f24) = true)
    {od25 an25 : Option Addr} {sl25 : Array (Option Value)} {oc25 kV25 dc25 pm25 cd25 ct25 : Value}
    (a25 : PySem.W.nsIn K mainGlobals "_law_dot" = some (some (.ref f25)))
    (l25 : K.lookup f25 = some ⟨oc25, od25, .func (PySem.W.fnOf "_law_dot" "_law_dot" (defArgs s_law_dot) (defBody s_law_dot) (defScope s_law_dot) .none kV25 dc25 pm25 an25 cd25 ct25), sl25⟩)
    (c25 : PySem.W.codeIn K cd25 "_law_dot" = true) (k25 : PySem.W.keepIn K (.ref f25) = true)
    {od26 an26 : Option Addr} {sl26 : Array (Option Value)} {oc26 kV26 dc26 pm26 cd26 ct26 : Value}
    (a26 : PySem.W.nsIn K mainGlobals "_law_fraction" = some (some (.ref f26)))
    (l26 : K.lookup f26 = some ⟨oc26, od26, .func (PySem.W.fnOf "_law_fraction" "_law_fraction" (defArgs s_law_fraction) (defBody s_law_fraction) (defScope s_law_fraction) .none kV26 dc26 pm26 an26 cd26 ct26), sl26⟩)
    (c26 : PySem.W.codeIn K cd26 "_law_fraction" = true) (k26 : PySem.W.keepIn K (.ref f26) = true)
    {od27 an27 : Option Addr} {sl27 : Array (Option Value)} {oc27 kV27 dc27 pm27 cd27 ct27 : Value}
    (a27 : PySem.W.nsIn K mainGlobals "_law_machine" = some (some (.ref f27)))
    (l27 : K.lookup f27 = some ⟨oc27, od27, .func (PySem.W.fnOf "_law_machine" "_law_machine" (defArgs s_law_machine) (defBody s_law_machine) (defScope s_law_machine) .none kV27 dc27 pm27 an27 cd27 ct27), sl27⟩)
    (c27 : PySem.W.codeIn K cd27 "_law_machine" = true) (k27 : PySem.W.keepIn K (.ref f27) = true)
    {od28 an28 : Option Addr} {sl28 : Array (Option Value)} {oc28 kV28 dc28 pm28 cd28 ct28 : Value}
    (a28 : PySem.W.nsIn K mainGlobals "_law_word" = some (some (.ref f28)))
    (l28 : K.lookup f28 = some ⟨oc28, od28, .func (PySem.W.fnOf "_law_word" "_law_word" (defArgs s_law_word) (defBody s_law_word) (defScope s_law_word) .none kV28 dc28 pm28 an28 cd28 ct28), sl28⟩)
    (c28 : PySem.W.codeIn K cd28 "_law_word" = true) (k28 : PySem.W.keepIn K (.ref f28) = true)
    {od29 an29 : Option Addr} {sl29 : Array (Option Value)} {oc29 kV29 dc29 pm29 cd29 ct29 : Value}
    (a29 : PySem.W.nsIn K mainGlobals "_law_led" = some (some (.ref f29)))
    (l29 : K.lookup f29 = some ⟨oc29, od29, .func (PySem.W.fnOf "_law_led" "_law_led" (defArgs s_law_led) (defBody s_law_led) (defScope s_law_led) .none kV29 dc29 pm29 an29 cd29 ct29), sl29⟩)
    (c29 : PySem.W.codeIn K cd29 "_law_led" = true) (k29 : PySem.W.keepIn K (.ref f29) = true)
    {od30 an30 : Option Addr} {sl30 : Array (Option Value)} {oc30 kV30 dc30 pm30 cd30 ct30 : Value}
    (a30 : PySem.W.nsIn K mainGlobals "_law_row" = some (some (.ref f30)))
    (l30 : K.lookup f30 = some ⟨oc30, od30, .func (PySem.W.fnOf "_law_row" "_law_row" (defArgs s_law_row) (defBody s_law_row) (defScope s_law_row) .none kV30 dc30 pm30 an30 cd30 ct30), sl30⟩)
    (c30 : PySem.W.codeIn K cd30 "_law_row" = true) (k30 : PySem.W.keepIn K (.ref f30) = true)
    {od31 an31 : Option Addr} {sl31 : Array (Option Value)} {oc31 kV31 dc31 pm31 cd31 ct31 : Value}
    (a31 : PySem.W.nsIn K mainGlobals "_law_weight" = some (some (.ref f31)))
    (l31 : K.lookup f31 = some ⟨oc31, od31, .func (PySem.W.fnOf "_law_weight" "_law_weight" (defArgs s_law_weight) (defBody s_law_weight) (defScope s_law_weight) .none kV31 dc31 pm31 an31 cd31 ct31), sl31⟩)
    (c31 : PySem.W.codeIn K cd31 "_law_weight" = true) (k31 : PySem.W.keepIn K (.ref f31) = true)
    {od32 an32 : Option Addr} {sl32 : Array (Option Value)} {oc32 kV32 dc32 pm32 cd32 ct32 : Value}
    (a32 : PySem.W.nsIn K mainGlobals "_law_proper" = some (some (.ref f32)))
    (l32 : K.lookup f32 = some ⟨oc32, od32, .func (PySem.W.fnOf "_law_proper" "_law_proper" (defArgs s_law_proper) (defBody s_law_proper) (defScope s_law_proper) .none kV32 dc32 pm32 an32 cd32 ct32), sl32⟩)
    (c32 : PySem.W.codeIn K cd32 "_law_proper" = true) (k32 : PySem.W.keepIn K (.ref f32) = true)
    {od33 an33 : Option Addr} {sl33 : Array (Option Value)} {oc33 kV33 dc33 pm33 cd33 ct33 : Value}
    (a33 : PySem.W.nsIn K mainGlobals "_law_proper_row" = some (some (.ref f33)))
    (l33 : K.lookup f33 = some ⟨oc33, od33, .func (PySem.W.fnOf "_law_proper_row" "_law_proper_row" (defArgs s_law_proper_row) (defBody s_law_proper_row) (defScope s_law_proper_row) .none kV33 dc33 pm33 an33 cd33 ct33), sl33⟩)
    (c33 : PySem.W.codeIn K cd33 "_law_proper_row" = true) (k33 : PySem.W.keepIn K (.ref f33) = true)
    {od34 an34 : Option Addr} {sl34 : Array (Option Value)} {oc34 kV34 dc34 pm34 cd34 ct34 : Value}
    (a34 : PySem.W.nsIn K mainGlobals "_law_beside" = some (some (.ref f34)))
    (l34 : K.lookup f34 = some ⟨oc34, od34, .func (PySem.W.fnOf "_law_beside" "_law_beside" (defArgs s_law_beside) (defBody s_law_beside) (defScope s_law_beside) .none kV34 dc34 pm34 an34 cd34 ct34), sl34⟩)
    (c34 : PySem.W.codeIn K cd34 "_law_beside" = true) (k34 : PySem.W.keepIn K (.ref f34) = true)
    {od35 an35 : Option Addr} {sl35 : Array (Option Value)} {oc35 kV35 dc35 pm35 cd35 ct35 : Value}
    (a35 : PySem.W.nsIn K mainGlobals "_law_turned_row" = some (some (.ref f35)))
    (l35 : K.lookup f35 = some ⟨oc35, od35, .func (PySem.W.fnOf "_law_turned_row" "_law_turned_row" (defArgs s_law_turned_row) (defBody s_law_turned_row) (defScope s_law_turned_row) .none kV35 dc35 pm35 an35 cd35 ct35), sl35⟩)
    (c35 : PySem.W.codeIn K cd35 "_law_turned_row" = true) (k35 : PySem.W.keepIn K (.ref f35) = true)
    {od36 an36 : Option Addr} {sl36 : Array (Option Value)} {oc36 kV36 dc36 pm36 cd36 ct36 : Value}
    (a36 : PySem.W.nsIn K mainGlobals "_law_mixed" = some (some (.ref f36)))
    (l36 : K.lookup f36 = some ⟨oc36, od36, .func (PySem.W.fnOf "_law_mixed" "_law_mixed" (defArgs s_law_mixed) (defBody s_law_mixed) (defScope s_law_mixed) .none kV36 dc36 pm36 an36 cd36 ct36), sl36⟩)
    (c36 : PySem.W.codeIn K cd36 "_law_mixed" = true) (k36 : PySem.W.keepIn K (.ref f36) = true)
    {od37 an37 : Option Addr} {sl37 : Array (Option Value)} {oc37 kV37 dc37 pm37 cd37 ct37 : Value}
    (a37 : PySem.W.nsIn K mainGlobals "_law_kin" = some (some (.ref f37)))
    (l37 : K.lookup f37 = some ⟨oc37, od37, .func (PySem.W.fnOf "_law_kin" "_law_kin" (defArgs s_law_kin) (defBody s_law_kin) (defScope s_law_kin) .none kV37 dc37 pm37 an37 cd37 ct37), sl37⟩)
    (c37 : PySem.W.codeIn K cd37 "_law_kin" = true) (k37 : PySem.W.keepIn K (.ref f37) = true)
    {od38 an38 : Option Addr} {sl38 : Array (Option Value)} {oc38 kV38 dc38 pm38 cd38 ct38 : Value}
    (a38 : PySem.W.nsIn K mainGlobals "_law_over" = some (some (.ref f38)))
    (l38 : K.lookup f38 = some ⟨oc38, od38, .func (PySem.W.fnOf "_law_over" "_law_over" (defArgs s_law_over) (defBody s_law_over) (defScope s_law_over) .none kV38 dc38 pm38 an38 cd38 ct38), sl38⟩)
    (c38 : PySem.W.codeIn K cd38 "_law_over" = true) (k38 : PySem.W.keepIn K (.ref f38) = true)
    {od39 an39 : Option Addr} {sl39 : Array (Option Value)} {oc39 kV39 dc39 pm39 cd39 ct39 : Value}
    (a39 : PySem.W.nsIn K mainGlobals "_law_rank" = some (some (.ref f39)))
    (l39 : K.lookup f39 = some ⟨oc39, od39, .func (PySem.W.fnOf "_law_rank" "_law_rank" (defArgs s_law_rank) (defBody s_law_rank) (defScope s_law_rank) .none kV39 dc39 pm39 an39 cd39 ct39), sl39⟩)
    (c39 : PySem.W.codeIn K cd39 "_law_rank" = true) (k39 : PySem.W.keepIn K (.ref f39) = true)
    {od40 an40 : Option Addr} {sl40 : Array (Option Value)} {oc40 kV40 dc40 pm40 cd40 ct40 : Value}
    (a40 : PySem.W.nsIn K mainGlobals "_law_in_span" = some (some (.ref f40)))
    (l40 : K.lookup f40 = some ⟨oc40, od40, .func (PySem.W.fnOf "_law_in_span" "_law_in_span" (defArgs s_law_in_span) (defBody s_law_in_span) (defScope s_law_in_span) .none kV40 dc40 pm40 an40 cd40 ct40), sl40⟩)
    (c40 : PySem.W.codeIn K cd40 "_law_in_span" = true) (k40 : PySem.W.keepIn K (.ref f40) = true)
    {od41 an41 : Option Addr} {sl41 : Array (Option Value)} {oc41 kV41 dc41 pm41 cd41 ct41 : Value}
    (a41 : PySem.W.nsIn K mainGlobals "_law_both" = some (some (.ref f41)))
    (l41 : K.lookup f41 = some ⟨oc41, od41, .func (PySem.W.fnOf "_law_both" "_law_both" (defArgs s_law_both) (defBody s_law_both) (defScope s_law_both) .none kV41 dc41 pm41 an41 cd41 ct41), sl41⟩)
    (c41 : PySem.W.codeIn K cd41 "_law_both" = true) (k41 : PySem.W.keepIn K (.ref f41) = true)
    {od42 an42 : Option Addr} {sl42 : Array (Option Value)} {oc42 kV42 dc42 pm42 cd42 ct42 : Value}
    (a42 : PySem.W.nsIn K mainGlobals "_law_shown" = some (some (.ref f42)))
    (l42 : K.lookup f42 = some ⟨oc42, od42, .func (PySem.W.fnOf "_law_shown" "_law_shown" (defArgs s_law_shown) (defBody s_law_shown) (defScope s_law_shown) .none kV42 dc42 pm42 an42 cd42 ct42), sl42⟩)
    (c42 : PySem.W.codeIn K cd42 "_law_shown" = true) (k42 : PySem.W.keepIn K (.ref f42) = true)
    {od43 an43 : Option Addr} {sl43 : Array (Option Value)} {oc43 kV43 dc43 pm43 cd43 ct43 : Value}
    (a43 : PySem.W.nsIn K mainGlobals "_law_other" = some (some (.ref f43)))
    (l43 : K.lookup f43 = some ⟨oc43, od43, .func (PySem.W.fnOf "_law_other" "_law_other" (defArgs s_law_other) (defBody s_law_other) (defScope s_law_other) .none kV43 dc43 pm43 an43 cd43 ct43), sl43⟩)
    (c43 : PySem.W.codeIn K cd43 "_law_other" = true) (k43 : PySem.W.keepIn K (.ref f43) = true)
    {od44 an44 : Option Addr} {sl44 : Array (Option Value)} {oc44 kV44 dc44 pm44 cd44 ct44 : Value}
    (a44 : PySem.W.nsIn K mainGlobals "_law_proper_rows" = some (some (.ref f44)))
    (l44 : K.lookup f44 = some ⟨oc44, od44, .func (PySem.W.fnOf "_law_proper_rows" "_law_proper_rows" (defArgs s_law_proper_rows) (defBody s_law_proper_rows) (defScope s_law_proper_rows) .none kV44 dc44 pm44 an44 cd44 ct44), sl44⟩)
    (c44 : PySem.W.codeIn K cd44 "_law_proper_rows" = true) (k44 : PySem.W.keepIn K (.ref f44) = true)
    {od45 an45 : Option Addr} {sl45 : Array (Option Value)} {oc45 kV45 dc45 pm45 cd45 ct45 : Value}
    (a45 : PySem.W.nsIn K mainGlobals "_law_wide" = some (some (.ref f45)))
    (l45 : K.lookup f45 = some ⟨oc45, od45, .func (PySem.W.fnOf "_law_wide" "_law_wide" (defArgs s_law_wide) (defBody s_law_wide) (defScope s_law_wide) .none kV45 dc45 pm45 an45 cd45 ct45), sl45⟩)
    (c45 : PySem.W.codeIn K cd45 "_law_wide" = true) (k45 : PySem.W.keepIn K (.ref f45) = true)
    {od46 an46 : Option Addr} {sl46 : Array (Option Value)} {oc46 kV46 dc46 pm46 cd46 ct46 : Value}
    (a46 : PySem.W.nsIn K mainGlobals "law" = some (some (.ref f46)))
    (l46 : K.lookup f46 = some ⟨oc46, od46, .func (PySem.W.fnOf "law" "law" (defArgs s_law) (defBody s_law) (defScope s_law) .none kV46 dc46 pm46 an46 cd46 ct46), sl46⟩)
    (c46 : PySem.W.codeIn K cd46 "law" = true) (k46 : PySem.W.keepIn K (.ref f46) = true)
    (z_len : PySem.W.nsIn K mainGlobals "len" = some none)
    (z_abs : PySem.W.nsIn K mainGlobals "abs" = some none)
    (z_list : PySem.W.nsIn K mainGlobals "list" = some none)
    (z_tuple : PySem.W.nsIn K mainGlobals "tuple" = some none)
    (z_str : PySem.W.nsIn K mainGlobals "str" = some none)
    (z_int : PySem.W.nsIn K mainGlobals "int" = some none)
    (z_bool : PySem.W.nsIn K mainGlobals "bool" = some none)
    (z_max : PySem.W.nsIn K mainGlobals "max" = some none)
    (z_min : PySem.W.nsIn K mainGlobals "min" = some none)
    (z_isinstance : PySem.W.nsIn K mainGlobals "isinstance" = some none)
    (z_range : PySem.W.nsIn K mainGlobals "range" = some none)
    (z_reversed : PySem.W.nsIn K mainGlobals "reversed" = some none)
    {q_NOUGHT : Addr} {do_NOUGHT : Option Addr} {ds_NOUGHT : Array (Option Value)} {dn_NOUGHT : Nat} {t0_NOUGHT : Tok} {t1_NOUGHT : Tok}
    (y_NOUGHT : PySem.W.nsIn K mainGlobals "NOUGHT" = some (some (.ref q_NOUGHT)))
    (yl_NOUGHT : K.lookup q_NOUGHT = some ⟨.type "tuple", do_NOUGHT, .seq #[.int 0 t0_NOUGHT, .int 1 t1_NOUGHT] dn_NOUGHT, ds_NOUGHT⟩)
    {q_ONE : Addr} {do_ONE : Option Addr} {ds_ONE : Array (Option Value)} {dn_ONE : Nat} {t0_ONE : Tok} {t1_ONE : Tok}
    (y_ONE : PySem.W.nsIn K mainGlobals "ONE" = some (some (.ref q_ONE)))
    (yl_ONE : K.lookup q_ONE = some ⟨.type "tuple", do_ONE, .seq #[.int 1 t0_ONE, .int 1 t1_ONE] dn_ONE, ds_ONE⟩)
    {e_Unlike : Addr} (x_Unlike : PySem.W.nsIn K mainGlobals "Unlike" = some (some (.ref e_Unlike)))
    (xe_Unlike : PySem.W.excIn K e_Unlike [.type "ValueError", .type "Exception", .type "BaseException", .type "object"] "ValueError.__new__" = true) (xk_Unlike : PySem.W.keepIn K (.ref e_Unlike) = true)
    (xs_Unlike : PySem.W.subIn K (.ref e_Unlike) (.type "BaseException") = some true) (xt_Unlike : PySem.W.typeIn K (.ref e_Unlike) = some (.type "type")) :
    ∃ fd : FuncData, (∀ (s : Shared) (v : Value), BindsTo s fd ⟨[v], []⟩ [("script", v)]) ∧ ∀ base : Heap, K.In base → base.Ns mainGlobals mg → FnOk l.prog w K mg base (L2.CX l.prog w) 7 fa fd ["script"] (spLaw K) := by
  have e := hfa.symm.trans (PySem.W.mg_of X G a46)
  cases e
  have hb : BltOk mg := ⟨PySem.W.mg_none_of X G z_len, PySem.W.mg_none_of X G z_abs, PySem.W.mg_none_of X G z_list, PySem.W.mg_none_of X G z_tuple, PySem.W.mg_none_of X G z_str, PySem.W.mg_none_of X G z_int, PySem.W.mg_none_of X G z_bool, PySem.W.mg_none_of X G z_max, PySem.W.mg_none_of X G z_min, PySem.W.mg_none_of X G z_isinstance, PySem.W.mg_none_of X G z_range, PySem.W.mg_none_of X G z_reversed⟩
  refine ⟨PySem.W.fnOf "law" "law" (defArgs s_law) (defBody s_law) (defScope s_law) .none kV46 dc46 pm46 an46 cd46 ct46, fun s v => .of_eq rfl, fun base _ _ => ?_⟩
  generalize hcl : (fun c : Str => (mg c).getD .none) = cl
  have gl_NOUGHT : GoodGl K mg ("NOUGHT", (.tup [(.int 0), (.int 1)])) := ⟨.ref q_NOUGHT, _, PySem.W.mg_of X G y_NOUGHT, rfl, fun G => .tup (xs := [.int 0, .int 1]) (.inr ⟨_, _, _, yl_NOUGHT, rfl, rfl, by show 2 ≤ sizeLine; decide, .cons ⟨_, rfl⟩ (.cons ⟨_, rfl⟩ (.nil))⟩) (.cons (.int _) (.cons (.int _) .nil))⟩
  have gl_ONE : GoodGl K mg ("ONE", (.tup [(.int 1), (.int 1)])) := ⟨.ref q_ONE, _, PySem.W.mg_of X G y_ONE, rfl, fun G => .tup (xs := [.int 1, .int 1]) (.inr ⟨_, _, _, yl_ONE, rfl, rfl, by show 2 ≤ sizeLine; decide, .cons ⟨_, rfl⟩ (.cons ⟨_, rfl⟩ (.nil))⟩) (.cons (.int _) (.cons (.int _) .nil))⟩
  have ge_Unlike : GoodEx K mg cl (.rais "Unlike") := ⟨e_Unlike, by rw [← hcl]; show (mg "Unlike").getD .none = _; rw [PySem.W.mg_of X G x_Unlike]; rfl, PySem.W.mg_of X G x_Unlike, xe_Unlike, xk_Unlike, xs_Unlike, xt_Unlike⟩
  have hC : SpanC K e_Span := ⟨x_Span, ⟨pg, hd, po, sa⟩, nR, nC⟩
  have g_lowest : GoodFn l.prog w K mg base cl 1 (.fn "lowest" 2 m_lowest) := ⟨f1, _, _, PySem.W.mg_of X G a1, fn_sound (fun_mk (st := s_lowest) l1 c1 k1) sc_lowest hb ck_lowest trivial trivial trivial, k1, (fun_mk (st := s_lowest) l1 c1 k1).binds (ps := ["top", "bottom"]) fun _ _ _ _ _ _ us hl => match us, hl with | [_, _], _ => rfl⟩
  have g_plus : GoodFn l.prog w K mg base cl 2 (.fn "plus" 2 m_plus) := ⟨f2, _, _, PySem.W.mg_of X G a2, fn_sound (fun_mk (st := s_plus) l2 c2 k2) sc_plus hb ck_plus ⟨g_lowest.up (by decide), trivial⟩ trivial trivial, k2, (fun_mk (st := s_plus) l2 c2 k2).binds (ps := ["one", "other"]) fun _ _ _ _ _ _ us hl => match us, hl with | [_, _], _ => rfl⟩
  have g_minus : GoodFn l.prog w K mg base cl 2 (.fn "minus" 2 m_minus) := ⟨f3, _, _, PySem.W.mg_of X G a3, fn_sound (fun_mk (st := s_minus) l3 c3 k3) sc_minus hb ck_minus ⟨g_lowest.up (by decide), trivial⟩ trivial trivial, k3, (fun_mk (st := s_minus) l3 c3 k3).binds (ps := ["one", "other"]) fun _ _ _ _ _ _ us hl => match us, hl with | [_, _], _ => rfl⟩
  have g_times : GoodFn l.prog w K mg base cl 2 (.fn "times" 2 m_times) := ⟨f4, _, _, PySem.W.mg_of X G a4, fn_sound (fun_mk (st := s_times) l4 c4 k4) sc_times hb ck_times ⟨g_lowest.up (by decide), trivial⟩ trivial trivial, k4, (fun_mk (st := s_times) l4 c4 k4).binds (ps := ["one", "other"]) fun _ _ _ _ _ _ us hl => match us, hl with | [_, _], _ => rfl⟩
  have g_over : GoodFn l.prog w K mg base cl 2 (.fn "over" 2 m_over) := ⟨f5, _, _, PySem.W.mg_of X G a5, fn_sound (fun_mk (st := s_over) l5 c5 k5) sc_over hb ck_over ⟨g_lowest.up (by decide), trivial⟩ trivial trivial, k5, (fun_mk (st := s_over) l5 c5 k5).binds (ps := ["one", "other"]) fun _ _ _ _ _ _ us hl => match us, hl with | [_, _], _ => rfl⟩
  have g_dot : GoodFn l.prog w K mg base cl 3 (.fn "dot" 2 m_dot) := ⟨f6, _, _, PySem.W.mg_of X G a6, fn_sound (fun_mk (st := s_dot) l6 c6 k6) sc_dot hb ck_dot ⟨g_plus.up (by decide), g_times.up (by decide), trivial⟩ ⟨gl_NOUGHT, trivial⟩ trivial, k6, (fun_mk (st := s_dot) l6 c6 k6).binds (ps := ["one", "other"]) fun _ _ _ _ _ _ us hl => match us, hl with | [_, _], _ => rfl⟩
  have g_column : GoodFn l.prog w K mg base cl 1 (.fn "column" 2 m_column) := ⟨f7, _, _, PySem.W.mg_of X G a7, fn_sound (fun_mk (st := s_column) l7 c7 k7) sc_column hb ck_column trivial trivial trivial, k7, (fun_mk (st := s_column) l7 c7 k7).binds (ps := ["step", "b"]) fun _ _ _ _ _ _ us hl => match us, hl with | [_, _], _ => rfl⟩
  have g_led : GoodFn l.prog w K mg base cl 4 (.fn "led" 2 m_led) := ⟨f8, _, _, PySem.W.mg_of X G a8, fn_sound (fun_mk (st := s_led) l8 c8 k8) sc_led hb ck_led ⟨g_dot.up (by decide), g_column.up (by decide), trivial⟩ trivial trivial, k8, (fun_mk (st := s_led) l8 c8 k8).binds (ps := ["row", "step"]) fun _ _ _ _ _ _ us hl => match us, hl with | [_, _], _ => rfl⟩
  have g_see_signs : GoodFn l.prog w K mg base cl 1 (.fn "see_signs" 2 m_see_signs) := ⟨f9, _, _, PySem.W.mg_of X G a9, fn_sound (fun_mk (st := s_see_signs) l9 c9 k9) sc_see_signs hb ck_see_signs trivial trivial ⟨ge_Unlike, trivial⟩, k9, (fun_mk (st := s_see_signs) l9 c9 k9).binds (ps := ["one", "other"]) fun _ _ _ _ _ _ us hl => match us, hl with | [_, _], _ => rfl⟩
  have g_noughts : GoodFn l.prog w K mg base cl 1 (.fn "noughts" 1 m_noughts) := ⟨f10, _, _, PySem.W.mg_of X G a10, fn_sound (fun_mk (st := s_noughts) l10 c10 k10) sc_noughts hb ck_noughts trivial ⟨gl_NOUGHT, trivial⟩ trivial, k10, (fun_mk (st := s_noughts) l10 c10 k10).binds (ps := ["many"]) fun _ _ _ _ _ _ us hl => match us, hl with | [_], _ => rfl⟩
  have g_side_by_side : GoodFn l.prog w K mg base cl 2 (.fn "side_by_side" 2 m_side_by_side) := ⟨f11, _, _, PySem.W.mg_of X G a11, fn_sound (fun_mk (st := s_side_by_side) l11 c11 k11) sc_side_by_side hb ck_side_by_side ⟨g_noughts.up (by decide), g_noughts.up (by decide), trivial⟩ trivial trivial, k11, (fun_mk (st := s_side_by_side) l11 c11 k11).binds (ps := ["one", "other"]) fun _ _ _ _ _ _ us hl => match us, hl with | [_, _], _ => rfl⟩
  have g_pivot_of : GoodFn l.prog w K mg base cl 1 (.fn "pivot_of" 1 m_pivot_of) := ⟨f12, _, _, PySem.W.mg_of X G a12, fn_sound (fun_mk (st := s_pivot_of) l12 c12 k12) sc_pivot_of hb ck_pivot_of trivial trivial trivial, k12, (fun_mk (st := s_pivot_of) l12 c12 k12).binds (ps := ["row"]) fun _ _ _ _ _ _ us hl => match us, hl with | [_], _ => rfl⟩
  have g_Span_init : GoodFn l.prog w K mg base cl 2 .ini := ⟨e_Span, f13, _, _, 1, by decide, PySem.W.mg_of X G x_Span, hC, ⟨mk, a13, i13, kc⟩, fn_init (fun_mk (st := s_Span_init) l13 c13 k13) sc_Span_init hC hb ck_Span_init, (fun_mk (st := s_Span_init) l13 c13 k13).binds (ps := ["self"]) fun _ _ _ _ _ _ us hl => match us, hl with | [_], _ => rfl⟩
  have g_Span_split : GoodFn l.prog w K mg base cl 3 (.mt "split" 2 m_Span_split) := ⟨e_Span, f14, _, _, hC, ⟨a14, i14, k14⟩, fun r c => spF_no r c (by decide +kernel) (by decide +kernel), fn_sound (fun_mk (st := s_Span_split) l14 c14 k14) sc_Span_split hb ck_Span_split ⟨g_over.up (by decide), g_minus.up (by decide), g_times.up (by decide), g_plus.up (by decide), g_times.up (by decide), trivial⟩ ⟨gl_NOUGHT, trivial⟩ trivial, (fun_mk (st := s_Span_split) l14 c14 k14).binds (ps := ["self", "row"]) fun _ _ _ _ _ _ us hl => match us, hl with | [_, _], _ => rfl⟩
  have g_Span_put : GoodFn l.prog w K mg base cl 4 (.put g_put) := ⟨e_Span, f15, _, _, hC, ⟨a15, i15, k15⟩, fn_put (fun_mk (st := s_Span_put) l15 c15 k15) rfl sc_Span_put hb ck_Span_put (g_Span_split.up (by decide)) ⟨g_pivot_of.up (by decide), trivial⟩ trivial ⟨g_minus.up (by decide), trivial⟩ ⟨gl_NOUGHT, gl_ONE, trivial⟩, (fun_mk (st := s_Span_put) l15 c15 k15).binds (ps := ["self", "row"]) fun _ _ _ _ _ _ us hl => match us, hl with | [_, _], _ => rfl⟩
  have g_apart : GoodFn l.prog w K mg base cl 3 (.fn "apart" 2 m_apart) := ⟨f16, _, _, PySem.W.mg_of X G a16, fn_sound (fun_mk (st := s_apart) l16 c16 k16) sc_apart hb ck_apart ⟨g_side_by_side.up (by decide), g_minus.up (by decide), trivial⟩ ⟨gl_NOUGHT, trivial⟩ trivial, k16, (fun_mk (st := s_apart) l16 c16 k16).binds (ps := ["one", "other"]) fun _ _ _ _ _ _ us hl => match us, hl with | [_, _], _ => rfl⟩
  have g_looked_for : GoodFn l.prog w K mg base cl 5 (.fn "looked_for" 2 m_looked_for) := ⟨f17, _, _, PySem.W.mg_of X G a17, fn_sound (fun_mk (st := s_looked_for) l17 c17 k17) sc_looked_for hb ck_looked_for ⟨g_see_signs.up (by decide), g_apart.up (by decide), g_Span_init.up (by decide), g_dot.up (by decide), g_Span_put.up (by decide), g_led.up (by decide), trivial⟩ trivial trivial, k17, (fun_mk (st := s_looked_for) l17 c17 k17).binds (ps := ["one", "other"]) fun _ _ _ _ _ _ us hl => match us, hl with | [_, _], _ => rfl⟩
  have g_parting : GoodFn l.prog w K mg base cl 6 (.fn "parting" 2 m_parting) := ⟨f18, _, _, PySem.W.mg_of X G a18, fn_sound (fun_mk (st := s_parting) l18 c18 k18) sc_parting hb ck_parting ⟨g_looked_for.up (by decide), trivial⟩ trivial trivial, k18, (fun_mk (st := s_parting) l18 c18 k18).binds (ps := ["one", "other"]) fun _ _ _ _ _ _ us hl => match us, hl with | [_, _], _ => rfl⟩
  have g_rows_for : GoodFn l.prog w K mg base cl 6 (.fn "rows_for" 2 m_rows_for) := ⟨f19, _, _, PySem.W.mg_of X G a19, fn_sound (fun_mk (st := s_rows_for) l19 c19 k19) sc_rows_for hb ck_rows_for ⟨g_looked_for.up (by decide), trivial⟩ trivial trivial, k19, (fun_mk (st := s_rows_for) l19 c19 k19).binds (ps := ["one", "other"]) fun _ _ _ _ _ _ us hl => match us, hl with | [_, _], _ => rfl⟩
  have g_law_cell_at : GoodFn l.prog w K mg base cl 1 (.fn "_law_cell_at" 2 m_law_cell_at) := ⟨f20, _, _, PySem.W.mg_of X G a20, fn_sound (fun_mk (st := s_law_cell_at) l20 c20 k20) sc_law_cell_at hb ck_law_cell_at trivial trivial trivial, k20, (fun_mk (st := s_law_cell_at) l20 c20 k20).binds (ps := ["script", "k"]) fun _ _ _ _ _ _ us hl => match us, hl with | [_, _], _ => rfl⟩
  have g_law_whole : GoodFn l.prog w K mg base cl 1 (.fn "_law_whole" 1 m_law_whole) := ⟨f21, _, _, PySem.W.mg_of X G a21, fn_sound (fun_mk (st := s_law_whole) l21 c21 k21) sc_law_whole hb ck_law_whole trivial trivial trivial, k21, (fun_mk (st := s_law_whole) l21 c21 k21).binds (ps := ["found"]) fun _ _ _ _ _ _ us hl => match us, hl with | [_], _ => rfl⟩
  have g_law_low : GoodFn l.prog w K mg base cl 1 (.fn "_law_low" 2 m_law_low) := ⟨f22, _, _, PySem.W.mg_of X G a22, fn_sound (fun_mk (st := s_law_low) l22 c22 k22) sc_law_low hb ck_law_low trivial trivial trivial, k22, (fun_mk (st := s_law_low) l22 c22 k22).binds (ps := ["top", "bottom"]) fun _ _ _ _ _ _ us hl => match us, hl with | [_, _], _ => rfl⟩
  have g_law_plus : GoodFn l.prog w K mg base cl 2 (.fn "_law_plus" 2 m_law_plus) := ⟨f23, _, _, PySem.W.mg_of X G a23, fn_sound (fun_mk (st := s_law_plus) l23 c23 k23) sc_law_plus hb ck_law_plus ⟨g_law_low.up (by decide), trivial⟩ trivial trivial, k23, (fun_mk (st := s_law_plus) l23 c23 k23).binds (ps := ["one", "other"]) fun _ _ _ _ _ _ us hl => match us, hl with | [_, _], _ => rfl⟩
  have g_law_times : GoodFn l.prog w K mg base cl 2 (.fn "_law_times" 2 m_law_times) := ⟨f24, _, _, PySem.W.mg_of X G a24, fn_sound (fun_mk (st := s_law_times) l24 c24 k24) sc_law_times hb ck_law_times ⟨g_law_low.up (by decide), trivial⟩ trivial trivial, k24, (fun_mk (st := s_law_times) l24 c24 k24).binds (ps := ["one", "other"]) fun _ _ _ _ _ _ us hl => match us, hl with | [_, _], _ => rfl⟩
  have g_law_dot : GoodFn l.prog w K mg base cl 3 (.fn "_law_dot" 2 m_law_dot) := ⟨f25, _, _, PySem.W.mg_of X G a25, fn_sound (fun_mk (st := s_law_dot) l25 c25 k25) sc_law_dot hb ck_law_dot ⟨g_law_plus.up (by decide), g_law_times.up (by decide), trivial⟩ trivial trivial, k25, (fun_mk (st := s_law_dot) l25 c25 k25).binds (ps := ["one", "other"]) fun _ _ _ _ _ _ us hl => match us, hl with | [_, _], _ => rfl⟩
  have g_law_fraction : GoodFn l.prog w K mg base cl 2 (.fn "_law_fraction" 1 m_law_fraction) := ⟨f26, _, _, PySem.W.mg_of X G a26, fn_sound (fun_mk (st := s_law_fraction) l26 c26 k26) sc_law_fraction hb ck_law_fraction ⟨g_law_low.up (by decide), trivial⟩ trivial trivial, k26, (fun_mk (st := s_law_fraction) l26 c26 k26).binds (ps := ["cell"]) fun _ _ _ _ _ _ us hl => match us, hl with | [_], _ => rfl⟩
  have g_law_machine : GoodFn l.prog w K mg base cl 3 (.fn "_law_machine" 3 m_law_machine) := ⟨f27, _, _, PySem.W.mg_of X G a27, fn_sound (fun_mk (st := s_law_machine) l27 c27 k27) sc_law_machine hb ck_law_machine ⟨g_law_fraction.up (by decide), trivial⟩ trivial trivial, k27, (fun_mk (st := s_law_machine) l27 c27 k27).binds (ps := ["cell", "rooms", "signs"]) fun _ _ _ _ _ _ us hl => match us, hl with | [_, _, _], _ => rfl⟩
  have g_law_word : GoodFn l.prog w K mg base cl 1 (.fn "_law_word" 3 m_law_word) := ⟨f28, _, _, PySem.W.mg_of X G a28, fn_sound (fun_mk (st := s_law_word) l28 c28 k28) sc_law_word hb ck_law_word trivial trivial trivial, k28, (fun_mk (st := s_law_word) l28 c28 k28).binds (ps := ["cell", "signs", "most"]) fun _ _ _ _ _ _ us hl => match us, hl with | [_, _, _], _ => rfl⟩
  have g_law_led : GoodFn l.prog w K mg base cl 4 (.fn "_law_led" 2 m_law_led) := ⟨f29, _, _, PySem.W.mg_of X G a29, fn_sound (fun_mk (st := s_law_led) l29 c29 k29) sc_law_led hb ck_law_led ⟨g_law_dot.up (by decide), trivial⟩ trivial trivial, k29, (fun_mk (st := s_law_led) l29 c29 k29).binds (ps := ["row", "step"]) fun _ _ _ _ _ _ us hl => match us, hl with | [_, _], _ => rfl⟩
  have g_law_row : GoodFn l.prog w K mg base cl 5 (.fn "_law_row" 2 m_law_row) := ⟨f30, _, _, PySem.W.mg_of X G a30, fn_sound (fun_mk (st := s_law_row) l30 c30 k30) sc_law_row hb ck_law_row ⟨g_law_led.up (by decide), trivial⟩ trivial trivial, k30, (fun_mk (st := s_law_row) l30 c30 k30).binds (ps := ["machine", "word"]) fun _ _ _ _ _ _ us hl => match us, hl with | [_, _], _ => rfl⟩
  have g_law_weight : GoodFn l.prog w K mg base cl 6 (.fn "_law_weight" 2 m_law_weight) := ⟨f31, _, _, PySem.W.mg_of X G a31, fn_sound (fun_mk (st := s_law_weight) l31 c31 k31) sc_law_weight hb ck_law_weight ⟨g_law_dot.up (by decide), g_law_row.up (by decide), trivial⟩ trivial trivial, k31, (fun_mk (st := s_law_weight) l31 c31 k31).binds (ps := ["machine", "word"]) fun _ _ _ _ _ _ us hl => match us, hl with | [_, _], _ => rfl⟩
  have g_law_proper : GoodFn l.prog w K mg base cl 2 (.fn "_law_proper" 1 m_law_proper) := ⟨f32, _, _, PySem.W.mg_of X G a32, fn_sound (fun_mk (st := s_law_proper) l32 c32 k32) sc_law_proper hb ck_law_proper ⟨g_law_whole.up (by decide), g_law_whole.up (by decide), g_law_low.up (by decide), trivial⟩ trivial trivial, k32, (fun_mk (st := s_law_proper) l32 c32 k32).binds (ps := ["part"]) fun _ _ _ _ _ _ us hl => match us, hl with | [_], _ => rfl⟩
  have g_law_proper_row : GoodFn l.prog w K mg base cl 3 (.fn "_law_proper_row" 2 m_law_proper_row) := ⟨f33, _, _, PySem.W.mg_of X G a33, fn_sound (fun_mk (st := s_law_proper_row) l33 c33 k33) sc_law_proper_row hb ck_law_proper_row ⟨g_law_proper.up (by decide), trivial⟩ trivial trivial, k33, (fun_mk (st := s_law_proper_row) l33 c33 k33).binds (ps := ["row", "many"]) fun _ _ _ _ _ _ us hl => match us, hl with | [_, _], _ => rfl⟩
  have g_law_beside : GoodFn l.prog w K mg base cl 1 (.fn "_law_beside" 2 m_law_beside) := ⟨f34, _, _, PySem.W.mg_of X G a34, fn_sound (fun_mk (st := s_law_beside) l34 c34 k34) sc_law_beside hb ck_law_beside trivial trivial trivial, k34, (fun_mk (st := s_law_beside) l34 c34 k34).binds (ps := ["one", "other"]) fun _ _ _ _ _ _ us hl => match us, hl with | [_, _], _ => rfl⟩
  have g_law_turned_row : GoodFn l.prog w K mg base cl 3 (.fn "_law_turned_row" 4 m_law_turned_row) := ⟨f35, _, _, PySem.W.mg_of X G a35, fn_sound (fun_mk (st := s_law_turned_row) l35 c35 k35) sc_law_turned_row hb ck_law_turned_row ⟨g_law_plus.up (by decide), g_law_times.up (by decide), trivial⟩ trivial trivial, k35, (fun_mk (st := s_law_turned_row) l35 c35 k35).binds (ps := ["row", "i", "j", "c"]) fun _ _ _ _ _ _ us hl => match us, hl with | [_, _, _, _], _ => rfl⟩
  have g_law_mixed : GoodFn l.prog w K mg base cl 4 (.fn "_law_mixed" 4 m_law_mixed) := ⟨f36, _, _, PySem.W.mg_of X G a36, fn_sound (fun_mk (st := s_law_mixed) l36 c36 k36) sc_law_mixed hb ck_law_mixed ⟨g_law_turned_row.up (by decide), g_law_turned_row.up (by decide), g_law_turned_row.up (by decide), g_law_plus.up (by decide), g_law_times.up (by decide), trivial⟩ trivial trivial, k36, (fun_mk (st := s_law_mixed) l36 c36 k36).binds (ps := ["machine", "i", "j", "c"]) fun _ _ _ _ _ _ us hl => match us, hl with | [_, _, _, _], _ => rfl⟩
  have g_law_kin : GoodFn l.prog w K mg base cl 5 (.fn "_law_kin" 3 m_law_kin) := ⟨f37, _, _, PySem.W.mg_of X G a37, fn_sound (fun_mk (st := s_law_kin) l37 c37 k37) sc_law_kin hb ck_law_kin ⟨g_law_machine.up (by decide), g_law_beside.up (by decide), g_law_beside.up (by decide), g_law_mixed.up (by decide), g_law_fraction.up (by decide), trivial⟩ trivial trivial, k37, (fun_mk (st := s_law_kin) l37 c37 k37).binds (ps := ["machine", "cell", "more"]) fun _ _ _ _ _ _ us hl => match us, hl with | [_, _, _], _ => rfl⟩
  have g_law_over : GoodFn l.prog w K mg base cl 1 (.fn "_law_over" 1 m_law_over) := ⟨f38, _, _, PySem.W.mg_of X G a38, fn_sound (fun_mk (st := s_law_over) l38 c38 k38) sc_law_over hb ck_law_over trivial trivial trivial, k38, (fun_mk (st := s_law_over) l38 c38 k38).binds (ps := ["part"]) fun _ _ _ _ _ _ us hl => match us, hl with | [_], _ => rfl⟩
  have g_law_rank : GoodFn l.prog w K mg base cl 3 (.fn "_law_rank" 1 m_law_rank) := ⟨f39, _, _, PySem.W.mg_of X G a39, fn_sound (fun_mk (st := s_law_rank) l39 c39 k39) sc_law_rank hb ck_law_rank ⟨g_law_times.up (by decide), g_law_over.up (by decide), g_law_plus.up (by decide), g_law_times.up (by decide), trivial⟩ trivial trivial, k39, (fun_mk (st := s_law_rank) l39 c39 k39).binds (ps := ["rows"]) fun _ _ _ _ _ _ us hl => match us, hl with | [_], _ => rfl⟩
  have g_law_in_span : GoodFn l.prog w K mg base cl 4 (.fn "_law_in_span" 2 m_law_in_span) := ⟨f40, _, _, PySem.W.mg_of X G a40, fn_sound (fun_mk (st := s_law_in_span) l40 c40 k40) sc_law_in_span hb ck_law_in_span ⟨g_law_rank.up (by decide), g_law_rank.up (by decide), trivial⟩ trivial trivial, k40, (fun_mk (st := s_law_in_span) l40 c40 k40).binds (ps := ["rows", "row"]) fun _ _ _ _ _ _ us hl => match us, hl with | [_, _], _ => rfl⟩
  have g_law_both : GoodFn l.prog w K mg base cl 2 (.fn "_law_both" 2 m_law_both) := ⟨f41, _, _, PySem.W.mg_of X G a41, fn_sound (fun_mk (st := s_law_both) l41 c41 k41) sc_law_both hb ck_law_both ⟨g_law_beside.up (by decide), trivial⟩ trivial trivial, k41, (fun_mk (st := s_law_both) l41 c41 k41).binds (ps := ["one", "other"]) fun _ _ _ _ _ _ us hl => match us, hl with | [_, _], _ => rfl⟩
  have g_law_shown : GoodFn l.prog w K mg base cl 5 (.fn "_law_shown" 3 m_law_shown) := ⟨f42, _, _, PySem.W.mg_of X G a42, fn_sound (fun_mk (st := s_law_shown) l42 c42 k42) sc_law_shown hb ck_law_shown ⟨g_law_both.up (by decide), g_law_in_span.up (by decide), g_law_dot.up (by decide), g_law_in_span.up (by decide), g_law_led.up (by decide), trivial⟩ trivial trivial, k42, (fun_mk (st := s_law_shown) l42 c42 k42).binds (ps := ["one", "other", "rows"]) fun _ _ _ _ _ _ us hl => match us, hl with | [_, _, _], _ => rfl⟩
  have g_law_other : GoodFn l.prog w K mg base cl 6 (.fn "_law_other" 3 m_law_other) := ⟨f43, _, _, PySem.W.mg_of X G a43, fn_sound (fun_mk (st := s_law_other) l43 c43 k43) sc_law_other hb ck_law_other ⟨g_law_machine.up (by decide), g_law_kin.up (by decide), g_law_fraction.up (by decide), trivial⟩ trivial trivial, k43, (fun_mk (st := s_law_other) l43 c43 k43).binds (ps := ["one", "cell", "second"]) fun _ _ _ _ _ _ us hl => match us, hl with | [_, _, _], _ => rfl⟩
  have g_law_proper_rows : GoodFn l.prog w K mg base cl 4 (.fn "_law_proper_rows" 2 m_law_proper_rows) := ⟨f44, _, _, PySem.W.mg_of X G a44, fn_sound (fun_mk (st := s_law_proper_rows) l44 c44 k44) sc_law_proper_rows hb ck_law_proper_rows ⟨g_law_proper_row.up (by decide), trivial⟩ trivial trivial, k44, (fun_mk (st := s_law_proper_rows) l44 c44 k44).binds (ps := ["rows", "many"]) fun _ _ _ _ _ _ us hl => match us, hl with | [_, _], _ => rfl⟩
  have g_law_wide : GoodFn l.prog w K mg base cl 6 (.fn "_law_wide" 2 m_law_wide) := ⟨f45, _, _, PySem.W.mg_of X G a45, fn_sound (fun_mk (st := s_law_wide) l45 c45 k45) sc_law_wide hb ck_law_wide ⟨g_law_cell_at.up (by decide), g_law_machine.up (by decide), g_law_cell_at.up (by decide), g_law_kin.up (by decide), g_law_cell_at.up (by decide), g_law_kin.up (by decide), g_law_cell_at.up (by decide), g_law_cell_at.up (by decide), g_law_plus.up (by decide), trivial⟩ trivial trivial, k45, (fun_mk (st := s_law_wide) l45 c45 k45).binds (ps := ["script", "signs"]) fun _ _ _ _ _ _ us hl => match us, hl with | [_, _], _ => rfl⟩
  refine (fn_sound (n := fuel) (cl := cl) (fun_mk (st := s_law) l46 c46 k46) sc_law hb ck_law ⟨g_law_cell_at.up (by decide), g_law_machine.up (by decide), g_law_cell_at.up (by decide), g_law_cell_at.up (by decide), g_law_other.up (by decide), g_law_cell_at.up (by decide), g_law_cell_at.up (by decide), g_law_cell_at.up (by decide), g_law_wide.up (by decide), g_parting.up (by decide), g_rows_for.up (by decide), g_law_proper_rows.up (by decide), g_law_shown.up (by decide), g_law_shown.up (by decide), g_rows_for.up (by decide), g_law_weight.up (by decide), g_law_weight.up (by decide), g_law_word.up (by decide), g_law_cell_at.up (by decide), g_law_weight.up (by decide), g_law_weight.up (by decide), trivial⟩ trivial trivial).imp fun vs H Q E h => ?_
  obtain ⟨a, ns, rfl, hS, hlen, q⟩ := h
  refine ⟨rfl, H, [.scr ns], Same.refl _, .cons (.scr hS) .nil, ?_⟩
  have z := law_true ns hlen
  unfold m_law at z
  show (match MP.mirror 9 fuel b_law [.scr ns] with | .ok r => _ | .exc c => _ | .stuck => _)
  rw [z]
  intro v G' H' E' r
  cases (show Rep K G' v (.bl true) from r)
  exact q H'
theorem walk {l : PySem.W.OpenLaw} {q : Program} {loose : List Str} {XP : (Str → Option Value) → Heap → Prop} {YP : World → Heap → Prop} {d : DefRec} {K : Params → PySem.W.Frag} (hn : l.most = some 63) (hdf : d.params.defaults = [])
    (hY : ∀ (w : World) (h : Heap), YP w h → (K w.params).In h)
    (F : ∀ (w : World) (mg : Str → Option Value) (fa : Addr) (h : Heap), (K w.params).In h → h.Ns mainGlobals mg → mg d.name = some (.ref fa) →
      ∃ fd : FuncData, (∀ (s : Shared) (u : Value), BindsTo s fd ⟨[u], []⟩ [("script", u)]) ∧ ∀ base : Heap, (K w.params).In base → base.Ns mainGlobals mg → FnOk l.prog w (K w.params) mg base (L2.CX l.prog w) 7 fa fd ["script"] (spLaw (K w.params))) :
    PySem.W.WalkO q loose XP YP l.row.toRowW d [] (fun f vs => PySem.call f vs) :=
  L2.walk_of (n := 63) (k := 7) (x := "script") (CX := fun w => L2.CX l.prog w) (sp := fun w => spLaw (K w.params)) hn (by decide) hdf ⟨rfl, by decide, by decide⟩ hY F (fun _ _ a ns hl _ hS => ⟨a, ns, rfl, hS, hl, fun _ => rfl⟩) fun _ _ _ _ _ z => by
    obtain ⟨_, _, _, _, _, _, _, _, _, _, _, _, z⟩ := z
    exact z
end WS
open PySem PySem.W PyProof.Rows
set_option maxRecDepth 100000 in
set_option maxHeartbeats 0 in
theorem PySem.Challenge.cw_wordscales_k09_whole_alike_or_parted_holds : PySem.Challenge.rw_wordscales_k09_whole_alike_or_parted.Holds := by
  w_on; o_law; k_head; (case hw => w_witness2)
  k_fill
  refine WS.walk (l := PySem.Challenge.rw_wordscales_k09_whole_alike_or_parted) rfl rfl (fun w h Y => PySem.W.kIn_of Y) ?F
  case F =>
    intro w mg fa h KX G hmg
    refine' WS.all_mk KX G hmg ?x_Span ?pg ?hd ?po ?sa ?mk ?kc ?nR ?nC ?a1 ?l1 ?c1 ?k1 ?a2 ?l2 ?c2 ?k2 ?a3 ?l3 ?c3 ?k3 ?a4 ?l4 ?c4 ?k4 ?a5 ?l5 ?c5 ?k5 ?a6 ?l6 ?c6 ?k6 ?a7 ?l7 ?c7 ?k7 ?a8 ?l8 ?c8 ?k8 ?a9 ?l9 ?c9 ?k9 ?a10 ?l10 ?c10 ?k10 ?a11 ?l11 ?c11 ?k11 ?a12 ?l12 ?c12 ?k12 ?a13 ?i13 ?l13 ?c13 ?k13 ?a14 ?i14 ?l14 ?c14 ?k14 ?a15 ?i15 ?l15 ?c15 ?k15 ?a16 ?l16 ?c16 ?k16 ?a17 ?l17 ?c17 ?k17 ?a18 ?l18 ?c18 ?k18 ?a19 ?l19 ?c19 ?k19 ?a20 ?l20 ?c20 ?k20 ?a21 ?l21 ?c21 ?k21 ?a22 ?l22 ?c22 ?k22 ?a23 ?l23 ?c23 ?k23 ?a24 ?l24 ?c24 ?k24 ?a25 ?l25 ?c25 ?k25 ?a26 ?l26 ?c26 ?k26 ?a27 ?l27 ?c27 ?k27 ?a28 ?l28 ?c28 ?k28 ?a29 ?l29 ?c29 ?k29 ?a30 ?l30 ?c30 ?k30 ?a31 ?l31 ?c31 ?k31 ?a32 ?l32 ?c32 ?k32 ?a33 ?l33 ?c33 ?k33 ?a34 ?l34 ?c34 ?k34 ?a35 ?l35 ?c35 ?k35 ?a36 ?l36 ?c36 ?k36 ?a37 ?l37 ?c37 ?k37 ?a38 ?l38 ?c38 ?k38 ?a39 ?l39 ?c39 ?k39 ?a40 ?l40 ?c40 ?k40 ?a41 ?l41 ?c41 ?k41 ?a42 ?l42 ?c42 ?k42 ?a43 ?l43 ?c43 ?k43 ?a44 ?l44 ?c44 ?k44 ?a45 ?l45 ?c45 ?k45 ?a46 ?l46 ?c46 ?k46 ?z_len ?z_abs ?z_list ?z_tuple ?z_str ?z_int ?z_bool ?z_max ?z_min ?z_isinstance ?z_range ?z_reversed ?y_NOUGHT ?yl_NOUGHT ?y_ONE ?yl_ONE ?x_Unlike ?xe_Unlike ?xk_Unlike ?xs_Unlike ?xt_Unlike
    (case x_Span => k_is)
    (case pg => k_is)
    (case hd => k_is)
    (case po => k_is)
    (case sa => k_is)
    (case mk => k_is)
    (case kc => k_is)
    (case nR => k_is)
    (case nC => k_is)
    (case a1 => k_is)
    (case l1 => k_is)
    (case c1 => k_is)
    (case k1 => k_is)
    (case a2 => k_is)
    (case l2 => k_is)
    (case c2 => k_is)
    (case k2 => k_is)
    (case a3 => k_is)
    (case l3 => k_is)
    (case c3 => k_is)
    (case k3 => k_is)
    (case a4 => k_is)
    (case l4 => k_is)
    (case c4 => k_is)
    (case k4 => k_is)
    (case a5 => k_is)
    (case l5 => k_is)
    (case c5 => k_is)
    (case k5 => k_is)
    (case a6 => k_is)
    (case l6 => k_is)
    (case c6 => k_is)
    (case k6 => k_is)
    (case a7 => k_is)
    (case l7 => k_is)
    (case c7 => k_is)
    (case k7 => k_is)
    (case a8 => k_is)
    (case l8 => k_is)
    (case c8 => k_is)
    (case k8 => k_is)
    (case a9 => k_is)
    (case l9 => k_is)
    (case c9 => k_is)
    (case k9 => k_is)
    (case a10 => k_is)
    (case l10 => k_is)
    (case c10 => k_is)
    (case k10 => k_is)
    (case a11 => k_is)
    (case l11 => k_is)
    (case c11 => k_is)
    (case k11 => k_is)
    (case a12 => k_is)
    (case l12 => k_is)
    (case c12 => k_is)
    (case k12 => k_is)
    (case a13 => k_is)
    (case i13 => k_is)
    (case l13 => k_is)
    (case c13 => k_is)
    (case k13 => k_is)
    (case a14 => k_is)
    (case i14 => k_is)
    (case l14 => k_is)
    (case c14 => k_is)
    (case k14 => k_is)
    (case a15 => k_is)
    (case i15 => k_is)
    (case l15 => k_is)
    (case c15 => k_is)
    (case k15 => k_is)
    (case a16 => k_is)
    (case l16 => k_is)
    (case c16 => k_is)
    (case k16 => k_is)
    (case a17 => k_is)
    (case l17 => k_is)
    (case c17 => k_is)
    (case k17 => k_is)
    (case a18 => k_is)
    (case l18 => k_is)
    (case c18 => k_is)
    (case k18 => k_is)
    (case a19 => k_is)
    (case l19 => k_is)
    (case c19 => k_is)
    (case k19 => k_is)
    (case a20 => k_is)
    (case l20 => k_is)
    (case c20 => k_is)
    (case k20 => k_is)
    (case a21 => k_is)
    (case l21 => k_is)
    (case c21 => k_is)
    (case k21 => k_is)
    (case a22 => k_is)
    (case l22 => k_is)
    (case c22 => k_is)
    (case k22 => k_is)
    (case a23 => k_is)
    (case l23 => k_is)
    (case c23 => k_is)
    (case k23 => k_is)
    (case a24 => k_is)
    (case l24 => k_is)
    (case c24 => k_is)
    (case k24 => k_is)
    (case a25 => k_is)
    (case l25 => k_is)
    (case c25 => k_is)
    (case k25 => k_is)
    (case a26 => k_is)
    (case l26 => k_is)
    (case c26 => k_is)
    (case k26 => k_is)
    (case a27 => k_is)
    (case l27 => k_is)
    (case c27 => k_is)
    (case k27 => k_is)
    (case a28 => k_is)
    (case l28 => k_is)
    (case c28 => k_is)
    (case k28 => k_is)
    (case a29 => k_is)
    (case l29 => k_is)
    (case c29 => k_is)
    (case k29 => k_is)
    (case a30 => k_is)
    (case l30 => k_is)
    (case c30 => k_is)
    (case k30 => k_is)
    (case a31 => k_is)
    (case l31 => k_is)
    (case c31 => k_is)
    (case k31 => k_is)
    (case a32 => k_is)
    (case l32 => k_is)
    (case c32 => k_is)
    (case k32 => k_is)
    (case a33 => k_is)
    (case l33 => k_is)
    (case c33 => k_is)
    (case k33 => k_is)
    (case a34 => k_is)
    (case l34 => k_is)
    (case c34 => k_is)
    (case k34 => k_is)
    (case a35 => k_is)
    (case l35 => k_is)
    (case c35 => k_is)
    (case k35 => k_is)
    (case a36 => k_is)
    (case l36 => k_is)
    (case c36 => k_is)
    (case k36 => k_is)
    (case a37 => k_is)
    (case l37 => k_is)
    (case c37 => k_is)
    (case k37 => k_is)
    (case a38 => k_is)
    (case l38 => k_is)
    (case c38 => k_is)
    (case k38 => k_is)
    (case a39 => k_is)
    (case l39 => k_is)
    (case c39 => k_is)
    (case k39 => k_is)
    (case a40 => k_is)
    (case l40 => k_is)
    (case c40 => k_is)
    (case k40 => k_is)
    (case a41 => k_is)
    (case l41 => k_is)
    (case c41 => k_is)
    (case k41 => k_is)
    (case a42 => k_is)
    (case l42 => k_is)
    (case c42 => k_is)
    (case k42 => k_is)
    (case a43 => k_is)
    (case l43 => k_is)
    (case c43 => k_is)
    (case k43 => k_is)
    (case a44 => k_is)
    (case l44 => k_is)
    (case c44 => k_is)
    (case k44 => k_is)
    (case a45 => k_is)
    (case l45 => k_is)
    (case c45 => k_is)
    (case k45 => k_is)
    (case a46 => k_is)
    (case l46 => k_is)
    (case c46 => k_is)
    (case k46 => k_is)
    (case z_len => k_is)
    (case z_abs => k_is)
    (case z_list => k_is)
    (case z_tuple => k_is)
    (case z_str => k_is)
    (case z_int => k_is)
    (case z_bool => k_is)
    (case z_max => k_is)
    (case z_min => k_is)
    (case z_isinstance => k_is)
    (case z_range => k_is)
    (case z_reversed => k_is)
    (case y_NOUGHT => k_is)
    (case yl_NOUGHT => k_is)
    (case y_ONE => k_is)
    (case yl_ONE => k_is)
    (case x_Unlike => k_is)
    (case xe_Unlike => k_exc)
    (case xk_Unlike => k_is)
    (case xs_Unlike => k_is)
    (case xt_Unlike => k_is)

