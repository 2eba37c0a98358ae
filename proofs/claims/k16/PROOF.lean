import PyProof.Rows.All
import Wide.All
import OpenK.AllK
import Wide.FinOn
import HandS.ForMost
import HandS.ForExc
import HandS.Wide
import HandS.TupAny
import HandS.IsInst
import HandS.Rev
import HandS.Conv
import KE.KAsSuite
import KE.LtData
import HandS.WordsExc
import HandS.More
import HandS.TryOnly
import HandS.ExcIs
import KE.RegKIsAll
import PySem.Challenge.RW_wordscales_k16_notes_refused
set_option Elab.async false
set_option linter.all false
set_option maxRecDepth 100000
set_option maxHeartbeats 4000000
/-! tuple(reversed(t)), t a tuple -/
namespace MP
open PySem PySem.Spec PyProof.Rows L2 RT
theorem nolen_rt : typeLookup (.type "reversed") "__len__" = pure none := by rw [typeLookup_type, builtinLookup_eq_fast]; kernel_rfl
theorem hint_rt : typeLookup (.type "reversed") "__length_hint__" = pure (some (.builtin "reversed.__length_hint__")) := by rw [typeLookup_type, builtinLookup_eq_fast]; kernel_rfl
theorem slot_rt_hint : Slot "reversed" "__length_hint__" "reversed.__length_hint__" :=
  .of (owner := "reversed") (n := "__length_hint__") (by rw [typeLookup_type, builtinLookup_eq_fast]; kernel_rfl) (by decide +kernel) (by decide +kernel) (by decide +kernel)
    (by first | exact .inl (by decide +kernel) | exact .inr (by decide +kernel)) (by rw [isSubtype_type]; kernel_rfl)
theorem entry_rt_hint : entryFor table "reversed.__length_hint__" = some Builtin.«reversed.__length_hint__» := entryFor_of_tree (by kernel_rfl)
theorem args_rt_hint (a : Value) : argsOk "reversed.__length_hint__" ⟨[a], []⟩ := by
  unfold argsOk; rw [signature?_of (id := "reversed.__length_hint__") (n := ['_', '_', 't', 'n', 'i', 'h', '_', 'h', 't', 'g', 'n', 'e', 'l', '_', '_']) (o := ['d', 'e', 's', 'r', 'e', 'v', 'e', 'r']) (by kernel_rfl) owner_rt]; kernel_rfl
section
variable {prog : Program} {w : World} {A : Around} {E : Value → Shared → Prop} {s : Shared}
theorem hint_call {it t : Addr} {items : Array Value} {i : Int} {Q : Value → Shared → Prop} (hit : IsRt s.heap it t i) (ht : IsTup s.heap t items) (hi : ¬ ((items.size : Int) < i + 1)) (hn : items.size ≤ sizeLine)
    (hQ : ∀ tk k, s.toks ≤ tk → Q (.int (i + 1) k) { s with toks := tk }) : wpAny (model prog w) A (call (.builtin "reversed.__length_hint__") [.ref it]) Q E s := by
  refine wpAny_call_entry slot_rt_hint hit.typeIs entry_rt_hint ?_ (args_rt_hint _)
  obtain ⟨o, ho, hc, hd⟩ := id hit
  unfold Builtin.«reversed.__length_hint__»
  refine wpAny_bind (wpAny_of_eq (a := (Value.ref it)) rfl ?_)
  try dsimp only
  refine wpAny_bind (wpAny_field ho hd (x := .ref t) rfl ?_)
  try dsimp only
  try rw [if_neg (by decide)]
  try dsimp only
  refine wpAny_bind (len_tuple ht (by have := line63; omega) ?_)
  refine wpAny_bind (wpAny_of_eq (a := some (items.size : Int)) rfl ?_)
  try dsimp only
  refine wpAny_bind (wpAny_field (s := { s with toks := s.toks + 1 + 1 }) ho hd (x := rawInt i) rfl ?_)
  try dsimp only
  show wpAny _ _ (if (items.size : Int) < i + 1 then _ else _) _ _ _
  rw [if_neg hi]
  refine wpAny_bind (wpAny_mkInt ?_)
  exact wpAny_pure ⟨_, rfl, hQ _ _ (by show s.toks ≤ s.toks + 1 + 1 + 1; omega)⟩
theorem bind_rt_hint (self : Value) : bindSpecial (.builtin "reversed.__length_hint__") self = pure (.builtin "reversed.__length_hint__", [self]) := by
  have hop : withoutEnding? "reversed.__length_hint__" "#opaque" = none := by decide +kernel
  have hdat : withoutEnding? "reversed.__length_hint__" "#data" = none := by decide +kernel
  have hk : builtinKind "reversed.__length_hint__" = some .method := by decide +kernel
  simp only [bindSpecial, typeOf, builtinType, hop, hdat, hk]; rfl
theorem walks_rt (hh : A.handled = none) (it t : Addr) (hne : t ≠ it) (items : Array Value) (hsz : items.size ≤ sizeLine) :
    Walks prog w A it [it, t] [it] items.size (fun i v => items[items.size - 1 - i]? = some v) (fun i h => i ≤ items.size ∧ IsRt h it t ((items.size : Int) - 1 - (i : Nat)) ∧ IsTup h t items) where
  sub := fun b hb => by simp at hb; simp [hb]
  frame := fun _ _ _ st hk => ⟨st.1, st.2.1.at fun o e => hk it (by simp) o e, let ⟨o, e, r⟩ := st.2.2; ⟨o, hk t (by simp) o e, r⟩⟩
  item := fun i s Q E hi st hQ => by
    obtain ⟨_, hit, ht⟩ := st
    have e1 : (items.size : Int) - 1 - ((i : Nat) : Int) = ((items.size - 1 - i : Nat) : Int) := by omega
    rw [e1] at hit
    have hx : items[items.size - 1 - i]? = some items[items.size - 1 - i] := by simp
    refine next_rt_item hit ht hx hsz fun h' st' sb => ?_
    have e2 : ((items.size - 1 - i : Nat) : Int) - 1 = (items.size : Int) - 1 - ((i + 1 : Nat) : Int) := by omega
    rw [e2] at st'
    refine hQ _ h' (s.toks + 1) hx ⟨hi, st', ?_⟩ fun b o hb e => (sb.2 b (fun h => hb (by simp [h]))).trans e
    obtain ⟨o, e, r⟩ := ht
    exact ⟨o, (sb.2 t hne).trans e, r⟩
  done := fun s Q E st hQ => by
    obtain ⟨_, hit, ht⟩ := st
    have e1 : (items.size : Int) - 1 - ((items.size : Nat) : Int) = -1 := by omega
    rw [e1] at hit
    exact next_rt_end hh hit fun h' eb => hQ h' s.toks fun b o hb e => eb b o (fun h => hb (by simp [h])) e
  self := fun _ _ _ _ st hQ => iter_rt st.2.1 hQ
theorem collect_rt {it t : Addr} {items : Array Value} {Q : List Value → Shared → Prop} (hh : A.handled = none) (hit : IsRt s.heap it t ((items.size : Int) - 1)) (ht : IsTup s.heap t items) (hne : t ≠ it) (hn : items.size ≤ sizeLine)
    (hQ : ∀ (h' : Heap) (tk : Nat) (acc : Array Value), (∀ b o, b ≠ it → s.heap.get? b = some o → h'.get? b = some o) → ItemsOf (fun i v => items[items.size - 1 - i]? = some v) acc items.size → Q acc.toList { s with heap := h', toks := tk }) :
    wpAny (model prog w) A (collect (.ref it)) Q E s := by
  have W := (walks_rt (prog := prog) (w := w) (A := A.in1) hh it t hne items hn).toS
  obtain ⟨oi, hoi, _⟩ := id hit
  obtain ⟨ol, hol, _⟩ := id ht
  have hSi : s.heap.objs.size ≠ it := Nat.ne_of_gt (Heap.lt_size hoi)
  have hSl : s.heap.objs.size ≠ t := Nat.ne_of_gt (Heap.lt_size hol)
  have hSf : s.heap.objs.size ∉ [it, t] := by simp only [List.mem_cons, List.not_mem_nil, or_false, not_or]; exact ⟨hSi, hSl⟩
  unfold collect
  refine wpAny_bind (wpAny_runValue (codeAny_builtin F.entry_proto_collect ?_))
  rw [Around.under_plainId F.plain_proto_collect _]
  show wpAny _ A.in1 (newList [] >>= fun l' => again (.builtin "list.__iadd__" ⟨[l', .ref it], []⟩)) _ _ s
  refine wpAny_bind (wpAny_newObj_type ?_)
  refine wpAny_pure ⟨plainId_quiet F.plain_list_iadd _, codeAny_builtin F.entry_list_iadd ?_⟩
  rw [Around.under_plainId F.plain_list_iadd _]
  have hS₁ : (s.heap.push { cls := .type "list", data := .seq ([] : List Value).toArray }).get? s.heap.objs.size = some { cls := .type "list", data := .seq ([] : List Value).toArray } := Heap.get?_push_size _ rfl
  have hit1 : IsRt (s.heap.push { cls := .type "list", data := .seq ([] : List Value).toArray }) it t ((items.size : Int) - 1) := hit.at fun o e => Heap.get?_push_of_some _ e
  have ht1 : IsTup (s.heap.push { cls := .type "list", data := .seq ([] : List Value).toArray }) t items := let ⟨o, e, r⟩ := ht; ⟨o, Heap.get?_push_of_some _ e, r⟩
  have hT : ({ s with heap := s.heap.push { cls := .type "list", data := .seq ([] : List Value).toArray } } : Shared).TypeIs (.ref it) "reversed" := IsRt.typeIs (s := { s with heap := s.heap.push { cls := .type "list", data := .seq ([] : List Value).toArray } }) hit1
  have h1 : Builtin.List.listSameRef (.ref s.heap.objs.size) (.ref it) = false := by simp [Builtin.List.listSameRef, hSi]
  show wpAny _ A.in1 (Builtin.List.listExtendWith (.ref s.heap.objs.size) (.ref it) (.ref s.heap.objs.size)) _ _ _
  unfold Builtin.List.listExtendWith
  refine wpAny_bind (wpAny_typeOf hT ?_)
  rw [if_neg (by rw [h1]; decide)]
  refine wpAny_bind (iter_rt (s := { s with heap := s.heap.push { cls := .type "list", data := .seq ([] : List Value).toArray } }) hit1 ?_)
  refine wpAny_bind (wpAny_holding ?_)
  unfold Builtin.List.listLengthHint
  refine wpAny_bind (wpAny_specialOf hT nolen_rt ?_)
  show wpAny _ A.in1 (specialOf (Value.ref it) (Str.ofString "__length_hint__") >>= _) _ _ _
  refine wpAny_bind (wpAny_specialOf hT hint_rt ?_)
  generalize hid : ("reversed.__length_hint__" : String) = id0
  wp_delta
  rw [show splitId id0 = some ("reversed", "__length_hint__") from by subst hid; decide +kernel]
  subst hid
  refine wpAny_bind (wpAny_isInstance (b := true) hT (by rw [isSubtype_type]; kernel_rfl) ?_)
  simp only [Bool.not_true, Bool.false_eq_true, if_false]
  rw [if_neg (by decide +kernel)]
  refine wpAny_bind (wpAny_rule ?_)
  refine wpAny_bind (wpAny_of_eq (bind_rt_hint _) ?_)
  try dsimp only
  refine wpAny_bind (wpAny_attempt (hint_call (s := { s with heap := s.heap.push { cls := .type "list", data := .seq ([] : List Value).toArray } }) hit1 ht1 (by omega) hn fun tk k hk => ?_))
  have ei : ((items.size : Int) - 1 + 1) = (items.size : Int) := by omega
  rw [ei]
  dsimp only
  have ea : asInt? (Value.int (items.size : Int) k) = pure (some (items.size : Int)) := rfl
  rw [ea]
  clear ea
  refine wpAny_bind ?_
  refine wpAny_pure ?_
  try dsimp only
  have hl := line63
  have f1 : Builtin.List.listFitsIndex (items.size : Int) = true := by show (decide (-(2 ^ 63 : Int) ≤ (items.size : Int)) && decide ((items.size : Int) < 2 ^ 63)) = true; rw [decide_eq_true (by omega), decide_eq_true (by omega)]; rfl
  have f2 : Builtin.List.listTooLong ((items.size : Int).toNat) = false := by show decide (_ > sizeLine) = false; exact decide_eq_false (by omega)
  rw [f1, f2]
  simp only [Bool.not_true, Bool.false_eq_true, if_false]
  rw [if_neg (by omega)]
  clear hl
  refine wpAny_pure ?_
  have e0 : (items.size : Int) - 1 - ((0 : Nat) : Int) = (items.size : Int) - 1 := by omega
  by_cases hz : items.size = 0
  · rw [if_neg (by rw [show ((items.size : Int) != 0) = false by simp [hz]]; decide +kernel)]
    refine wpAny_pure ⟨plainId_quiet F.plain_extend_loop _, codeAny_extend_loopS W hn _ hSf _ items.size 0 _ _ _ rfl (Nat.zero_le _) ⟨Nat.zero_le _, by rw [e0]; exact hit1, ht1⟩ hS₁ (ItemsOf.nil _) fun s' acc' c' hm hS' hacc => ?_⟩
    show wpAny _ A (load s.heap.objs.size >>= _) _ _ s'
    refine wpAny_bind (wpAny_load hS' ?_)
    refine wpAny_pure ?_
    rw [Moved.eq_with hm]
    refine hQ s'.heap s'.toks acc' (fun b o hb e => hm.heap b o (fun hmem => ?_) (Heap.get?_push_of_some _ e)) hacc
    rcases List.mem_cons.mp hmem with e' | hmem
    · exact absurd (Heap.lt_size e) (by rw [e']; exact Nat.lt_irrefl _)
    · exact hb (List.mem_singleton.mp hmem)
  · rw [if_pos (by rw [show ((items.size : Int) != 0) = true from bne_iff_ne.mpr (by omega)]; rfl)]
    refine wpAny_bind (wpAny_rule ?_)
    refine wpAny_bind ?_
    show wpAny _ A.in1 (updateSeq s.heap.objs.size (·.push .none) >>= fun _ => updateSeq s.heap.objs.size (·.pop)) _ _ _
    have z0 : (0 : Nat) ≤ sizeLine := Nat.zero_le _
    have z1 : (1 : Nat) ≤ sizeLine := by rw [sizeLine_eq]; decide
    have z2 : (1 : Nat) ≤ sizeLine + 1 := by omega
    refine wpAny_bind (wpAny_updateSeq hS₁ rfl ?_ z0 z2)
    have hS₂ := Heap.get?_update_self (Obj.mapSeq (·.push Value.none)) hS₁ rfl
    refine wpAny_updateSeq hS₂ rfl ?_ z1 (Nat.zero_le _)
    have hS₃ := Heap.get?_update_self (Obj.mapSeq (·.pop)) hS₂ rfl
    have oth : ∀ b o, b ≠ s.heap.objs.size → (s.heap.push { cls := .type "list", data := .seq ([] : List Value).toArray }).get? b = some o →
        (((s.heap.push { cls := .type "list", data := .seq ([] : List Value).toArray }).update s.heap.objs.size (Obj.mapSeq (·.push Value.none))).update s.heap.objs.size (Obj.mapSeq (·.pop))).get? b = some o :=
      fun b o hb e => (Heap.get?_update_other _ _ (Ne.symm hb)).trans ((Heap.get?_update_other _ _ (Ne.symm hb)).trans e)
    refine wpAny_pure ⟨plainId_quiet F.plain_extend_loop _, codeAny_extend_loopS W hn _ hSf _ items.size 0 _ _ _ rfl (Nat.zero_le _)
      ⟨Nat.zero_le _, by rw [e0]; exact hit1.at fun o e => oth it o hSi.symm e, let ⟨o, e, r⟩ := ht1; ⟨o, oth t o hSl.symm e, r⟩⟩ hS₃ (ItemsOf.nil _) fun s' acc' c' hm hS' hacc => ?_⟩
    show wpAny _ A (load s.heap.objs.size >>= _) _ _ s'
    refine wpAny_bind (wpAny_load hS' ?_)
    refine wpAny_pure ?_
    rw [Moved.eq_with hm]
    refine hQ s'.heap s'.toks acc' (fun b o hb e => hm.heap b o (fun hmem => ?_) (oth b o (fun h => ?_) (Heap.get?_push_of_some _ e))) hacc
    · rcases List.mem_cons.mp hmem with e' | hmem
      · exact absurd (Heap.lt_size e) (by rw [e']; exact Nat.lt_irrefl _)
      · exact hb (List.mem_singleton.mp hmem)
    · exact absurd (Heap.lt_size e) (by rw [h]; exact Nat.lt_irrefl _)
theorem code_tuple_new_rt {it t : Addr} {items : Array Value} {Q₁ : Value → Shared → Prop} (hh : A.handled = none) (hit : IsRt s.heap it t ((items.size : Int) - 1)) (ht : IsTup s.heap t items) (hne : t ≠ it) (hn : items.size ≤ sizeLine)
    (h : ∀ (h' : Heap) (tk : Nat) (acc : Array Value), (∀ b o, b ≠ it → s.heap.get? b = some o → h'.get? b = some o) → ItemsOf (fun i v => items[items.size - 1 - i]? = some v) acc items.size →
      Q₁ (.ref h'.objs.size) { s with heap := h'.push { cls := .type "tuple", data := .seq acc }, toks := tk }) :
    codeAny (model prog w) A (.call (.builtin "tuple.__new__") ⟨[.type "tuple", .ref it], []⟩) (wants Q₁ E) s := by
  refine codeAny_of_tree ?_
  show wpAny _ A.in1 (do checkBuiltinCall "tuple.__new__" ⟨[.type "tuple", .ref it], []⟩; again (.builtin "tuple.__new__" ⟨[.type "tuple", .ref it], []⟩)) _ _ s
  refine wpAny_bind (wpAny_of_eq (F.newCall_tuple_1 _) (wpAny_pure ⟨plainId_quiet F.plain_tuple_new _, codeAny_builtin F.entry_tuple_new ?_⟩))
  rw [Around.under_plainId F.plain_tuple_new _]
  have hsub := sub_tuple_self
  have hinit := init_tuple_lookup
  have hmh := madeHere_tuple
  have hTI : s.TypeIs (.ref it) "reversed" := hit.typeIs
  have hh1 : A.in1.handled = none := hh
  wp_walk using wpAny_typeOf hTI, collect_rt (A := A.in1) hh1 hit ht hne hn
  intro h' tk acc hk hacc
  show wpAny _ _ (Builtin.Tuple.tupleExact acc.toList.toArray >>= fun v => ret v) _ _ _
  unfold Builtin.Tuple.tupleExact
  refine wpAny_bind (wpAny_newObj_type ?_ (by show acc.toList.toArray.size ≤ sizeLine; simp only [Array.toArray_toList]; rw [hacc.1]; exact hn))
  refine wpAny_pure ?_
  have e : acc.toList.toArray = acc := by simp
  rw [e]
  exact h h' tk acc hk hacc
theorem call_tuple_rt {it t : Addr} {items : Array Value} {Q : Value → Shared → Prop} (hh : A.handled = none) (hit : IsRt s.heap it t ((items.size : Int) - 1)) (ht : IsTup s.heap t items) (hne : t ≠ it) (hn : items.size ≤ sizeLine)
    (hQ : ∀ (h' : Heap) (tk : Nat) (acc : Array Value), (∀ b o, b ≠ it → s.heap.get? b = some o → h'.get? b = some o) → ItemsOf (fun i v => items[items.size - 1 - i]? = some v) acc items.size →
      Q (.ref h'.objs.size) { s with heap := h'.push { cls := .type "tuple", data := .seq acc }, toks := tk }) :
    wpAny (model prog w) A (call (.type "tuple") [.ref it]) Q E s := by
  refine callType_codes (Q₁ := fun obj s₁ => s₁.TypeIs obj "tuple" ∧ Q obj s₁) F.called_tuple (F.typeCall_tuple_1 _) F.entry_object_init
    (code_tuple_new_rt (A := A.in1) hh hit ht hne hn fun h' tk acc hk hacc => ⟨⟨_, Heap.get?_push_size _ rfl, rfl⟩, hQ h' tk acc hk hacc⟩) fun obj s₁ h₁ => ?_
  exact ⟨h₁.1, F.args_object_init_2 obj _, object_init_meets F.called_tuple.init.lookup F.called_tuple.made (by decide) prog w A.in1 _ s₁ ⟨h₁.1, rfl, h₁.2⟩⟩
end
/-- tuple(reversed(x)), x a list or a tuple: a new tuple -/
def tTupRevA (K : PySem.W.Frag) (te : TE) : TE := fun σ H Q => te σ H fun v H1 => ∃ (a : Addr) (xs : List V), v = .ref a ∧ (SqL K H1 a xs ∨ SqT K H1 a xs) ∧ ∀ q, H1 q = none → Q (.ref q) (upd H1 q (.tup xs.reverse))
section
variable {X : Cx}
theorem pe_tupRevA {e : Expr} {te : TE} {p p2 pos pos2 : Pos} (hc : X.calm = true) (hg : Gl X "tuple") (hm : X.mg "tuple" = none) (hg2 : Gl X "reversed") (hm2 : X.mg "reversed" = none) (he : PE X e te)
    (hs : starEach [e] X.env = (false, eval e X.env) :: starEach [] X.env := by rfl)
    (hs2 : starEach [.Call (.Name "reversed" p2) [e] [] pos2] X.env = (false, eval (.Call (.Name "reversed" p2) [e] [] pos2) X.env) :: starEach [] X.env := by rfl) :
    PE X (.Call (.Name "tuple" p) [.Call (.Name "reversed" p2) [e] [] pos2] [] pos) (tTupRevA X.K te) := by
  refine ⟨fun pins s σ H Q I h => ?_⟩
  refine Call_ (ld_blt I hg hm boot_tuple (PyProof.Rows.callWith_type1 (args_cons (Call_ (ld_blt I hg2 hm2 PyProof.Rows.boot_reversed (PyProof.Rows.callWith_type1 (args_cons (thn (he.run pins s σ H _ I h) fun u s1 ⟨v, H1, I1, r1, q1⟩ => args_nil ?_) hs) hs rfl))) hs2) hs2 rfl))
  obtain ⟨a, xs, ev, hq, q⟩ := q1
  subst ev
  obtain rfl : u = Value.ref a := r1
  rcases hq with hq | hq
  · obtain ⟨its, rv, p', hz⟩ := I1.list hq
    refine call_reversed_list p'.isList (args_nil ?_)
    have k0 : ∀ b o, s1.heap.get? b = some o → (s1.heap.push (revObj a ((its.toArray.size : Int) - 1))).get? b = some o := fun b o e => Heap.get?_push_of_some _ e
    have I2 : Inv X pins σ H1 { s1 with heap := s1.heap.push (revObj a ((its.toArray.size : Int) - 1)) } := I1.kept (t' := s1.toks) k0
    obtain ⟨f0, f1, f2, f3, f4, f5⟩ := I1.fpOk (H' := H1) (b := s1.heap.objs.size) (Nat.le_refl _) (I1.hok.fresh (Nat.le_refl _))
    have hl := p'.isList
    obtain ⟨ol, hol, _⟩ := id hl
    have hne : a ≠ s1.heap.objs.size := Nat.ne_of_lt (Heap.lt_size hol)
    have hn : its.toArray.size ≤ sizeLine := by rw [List.size_toArray, ← rv.length]; exact hz
    refine call_tuple_rev (s := { s1 with heap := s1.heap.push (revObj a ((its.toArray.size : Int) - 1)) }) (I1.ok.hd hc) ⟨_, Heap.get?_push_size _ rfl, rfl, rfl⟩ (hl.push _) hne hn fun h' tk acc hk hi => ?_
    have I3 : Inv X pins σ H1 { s1 with heap := h', toks := tk } := I2.turned (t' := tk) (fun b o hb e => hk b o hb e) f0 f1 f3 f4 f5
    refine ⟨.ref h'.objs.size, upd H1 h'.objs.size (.tup xs.reverse), I3.laid (t' := tk) (fun c o e => Heap.get?_push_of_some _ e) (Nat.le_refl _) (show ObjOk X.prog X.w _ _ _ (.tup xs.reverse) from ⟨by rw [List.length_reverse]; exact hz, acc.toList, vals_rev rv hi, ?_⟩), rfl, q _ (I3.hok.fresh (Nat.le_refl _))⟩
    rw [Array.toArray_toList]
    exact IsTup.new _ _
  · obtain ⟨its, rv, p', hz⟩ := I1.tuple hq
    have hn63 := line63
    have hn : its.toArray.size ≤ sizeLine := by rw [List.size_toArray, ← rv.length]; exact hz
    refine call_reversed_tup p' (fun A E Q k => len_tuple p' (by have h2 := hn; simp only [List.size_toArray] at h2 ⊢; omega) k) (args_nil ?_)
    have k0 : ∀ b o, s1.heap.get? b = some o → (s1.heap.push (rtObj a ((its.toArray.size : Int) - 1))).get? b = some o := fun b o e => Heap.get?_push_of_some _ e
    have I2 : Inv X pins σ H1 { s1 with heap := s1.heap.push (rtObj a ((its.toArray.size : Int) - 1)), toks := s1.toks + 1 + 1 } := I1.kept (t' := s1.toks + 1 + 1) k0
    obtain ⟨f0, f1, f2, f3, f4, f5⟩ := I1.fpOk (H' := H1) (b := s1.heap.objs.size) (Nat.le_refl _) (I1.hok.fresh (Nat.le_refl _))
    obtain ⟨ol, hol, ho2⟩ := id p'
    have hne : a ≠ s1.heap.objs.size := Nat.ne_of_lt (Heap.lt_size hol)
    refine call_tuple_rt (s := { s1 with heap := s1.heap.push (rtObj a ((its.toArray.size : Int) - 1)), toks := s1.toks + 1 + 1 }) (I1.ok.hd hc) ⟨_, Heap.get?_push_size _ rfl, rfl, rfl⟩ ⟨ol, Heap.get?_push_of_some _ hol, ho2⟩ hne hn fun h' tk acc hk hi => ?_
    have I3 : Inv X pins σ H1 { s1 with heap := h', toks := tk } := I2.turned (t' := tk) (fun b o hb e => hk b o hb e) f0 f1 f3 f4 f5
    refine ⟨.ref h'.objs.size, upd H1 h'.objs.size (.tup xs.reverse), I3.laid (t' := tk) (fun c o e => Heap.get?_push_of_some _ e) (Nat.le_refl _) (show ObjOk X.prog X.w _ _ _ (.tup xs.reverse) from ⟨by rw [List.length_reverse]; exact hz, acc.toList, vals_rev rv hi, ?_⟩), rfl, q _ (I3.hok.fresh (Nat.le_refl _))⟩
    rw [Array.toArray_toList]
    exact IsTup.new _ _
end
end MP
set_option Elab.async false
set_option linter.all false
set_option maxRecDepth 100000
set_option maxHeartbeats 4000000
/-! A list comprehension whose element may raise. -/
namespace MP
open PySem PySem.Spec PyProof.Rows L2
open PySem.HandSPX

theorem note_frame {x : Value} {e e' : Env} (h : e'.frame = e.frame) : noteFrame x e' = noteFrame x e := by
  unfold noteFrame PySem.frameOf
  simp only [h]

/-- what is wanted of the block's end -/
def endX (M : Model) (A : Around) (Er : Value → Shared → Prop) (Qv : Value → Shared → Prop) (acc : Value) (ce : Env) (r : Result) (t : Shared) : Prop :=
  match r with
  | .ok _ => ∃ m, t.heap.Ns ce.locals m ∧ ∀ g, Heap.SameBut ce.locals t.heap g → Qv acc { t with heap := g }
  | .error x => ∃ m, t.heap.Ns ce.locals m ∧ ∀ g m', g.Ns ce.locals m' → Heap.SameBut ce.locals t.heap g → wpAny M A (PySem.passOn "comprehension.variables-let-go" x ce : Sem Value) (fun _ _ => False) Er { t with heap := g }

section
variable {M : Model} {A : Around} {Er : Value → Shared → Prop} {t : Shared} {env : Env}
/-- the comprehension from the outside, the frame of the block known -/
theorem compX_wp {ex : Expr} {sp : Scope} {ps : Pos} {mkAcc fst : Sem Value} {g : Comprehension} {gs : List Comprehension} {cells : List (Str × Addr)} {Qv : Value → Shared → Prop}
    (c1 : clausesOf ex = g :: gs) (c2 : ∀ x, foldedSetIterable g.iter env x = pure x) (c3 : closureFor sp env = pure cells) (c4 : sp.kind = .function)
    (c5 : ∀ x ∈ sp.names, x.2 = .local → sp.names.lookup x.1 = some .local)
    (h : wpAny M A fst (fun x t1 => wpAny M A (pyIter x) (fun it t2 => wpAny M A mkAcc (fun acc t3 =>
      wpAny M A (newFunctionEnv sp env.globals cells [] env.qual none .none (some env)) (fun ce t4 =>
        codeAny M A (.compStart ex 0 it acc { ce with scope := relabel sp env }) (endX M A Er Qv acc { ce with scope := relabel sp env }) t4) Er t3) Er t2) Er t1) Er t) :
    wpAny M A (comprehension ex sp env ps mkAcc false fst none) Qv Er t := by
  unfold comprehension
  rw [c3, c1]
  refine wpAny_bind (wpAny_mono h (fun x t1 h1 => ?_) fun _ _ z => z)
  refine wpAny_bind (wpAny_standAt (wpAny_bind (wpAny_of_eq (c2 x) (wpAny_bind (wpAny_holding (wpAny_mono h1 (fun it t2 h2 => ?_) fun _ _ z => z))))))
  refine wpAny_standIf (wpAny_bind (wpAny_mono h2 (fun acc t3 h3 => ?_) fun _ _ z => z))
  refine wpAny_bind (wpAny_pure (wpAny_bind (wpAny_mono h3 (fun ce t4 h4 => ?_) fun _ _ z => z)))
  dsimp only
  have nv : ∀ x ∈ (sp.names.filter fun y => (y.2 == .local || y.2 == .cell) && y.1 != (".0" : Str)).reverse, x.2 = .local → Env.kindOf { ce with scope := relabel sp env } x.1 = some .local := fun x hx hl =>
    lookup_relabel_local (c5 x (List.mem_filter.mp (List.mem_reverse.mp hx)).1 hl)
  refine wpAny_holding (wpAny_bind (wpAny_attempt (wpAny_holding (wpAny_run (codeAny_mono h4 fun r t5 hr => ?_)))))
  cases r with
  | ok f =>
    obtain ⟨m, n1, n2⟩ := hr
    exact wpAny_bind (wpAny_holding (wpAny_comp_letGo (cenv := { ce with scope := relabel sp env }) c4 _ t5 m nv n1 fun g _ _ sb => wpAny_pure (n2 g sb)))
  | error x =>
    obtain ⟨m, n1, n2⟩ := hr
    exact wpAny_bind (wpAny_holding (wpAny_comp_letGo (cenv := { ce with scope := relabel sp env }) c4 _ t5 m nv n1 fun g m' hm' sb => wpAny_mono (n2 g m' hm' sb) (fun _ _ f => f.elim) fun _ _ z => z))

/-- noted by a frame when another one held it -/
theorem look_far {base : Heap} {top : Env} {outer : List Env} {a L C : Addr} {Z : Obj → Prop} {Qu : Unit → Shared → Prop} (hZ : Steady Z) (hfr : A.frames = some (top :: outer)) (hf : top.frame = some L)
    (hh : HeldZ base (top :: outer) a Z C t.heap) (hne : C ≠ L) (hQ : ∀ g, HeldZ base (top :: outer) a Z L g → t.heap.UpToSlots g → Qu () { t with heap := g }) : wpAny M A (noteFrame (.ref a) top) Qu Er t := by
  obtain ⟨kb, na, fr, oa, vs, T, oT, ts, ha, hz, hd, h1, nT, Ta, hT, hdT, h3⟩ := hh
  unfold noteFrame
  simp only [hf]
  refine wpAny_bind (wpAny_field ha hd h1 ?_)
  rw [if_pos (show (Value.ref T != Value.none) = true by simp)]
  refine wpAny_bind (wpAny_field hT hdT h3 ?_)
  rw [if_neg (show ¬ ((rawInt C == rawInt L) = true) from fun z => hne (Int.ofNat_inj.mp (by simpa [rawInt] using z)))]
  refine wpAny_bind (wpAny_setField hT hdT (Array.getElem?_eq_some_iff.mp h3).1 ?_)
  have oth : ∀ b, ¬ b = T → (t.heap.update T (Obj.mapFields (·.setIfInBounds 3 Value.none))).get? b = t.heap.get? b := fun b hb => Heap.get?_update_other _ _ (Ne.symm hb)
  have nr : ∀ b o, t.heap.get? b = some o → (∀ vs, o.data ≠ .fields vs) → ¬ b = T := fun b o e nf q => by
    subst q
    rw [hT] at e
    cases e
    exact nf ts hdT
  refine wpAny_entryZ hZ hfr (fr.of_keeps fun b o e nf => ⟨o, (oth b (nr b o e nf)).trans e, rfl⟩) hf ((oth a (Ne.symm Ta)).trans ha)
    (fun b o e => (oth b fun q => by subst q; rw [nT] at e; cases e).trans (kb b o e)) na hd (Array.getElem?_eq_some_iff.mp h1).1 hz fun g hN => ?_
  obtain ⟨y1, y2, y3, y4⟩ := hN
  exact hQ g ⟨y1, na, y2, y3⟩ fun b o e nf => y4 b o ((oth b (nr b o e nf)).trans e) nf
end

/-- a block's context, with a wish for exceptions -/
abbrev blkx (X : Cx) (s : Shared) (H : Hp) (scope : Scope) (ce : Env) (fp : List Addr) (xe : Value → Shared → Prop) : Cx := { X.blk s H scope ce fp with xe := xe }

section
variable {X : Cx}
/-- an exception leaves the block and stands in the air of the def -/
theorem out_blk {pins : List (Addr × Obj)} {σ : L2.St} {H3 : Hp} {s3 s5 : Shared} {scope : Scope} {ce : Env} {fp : List Addr} {xe : Value → Shared → Prop} {W W' : WX} {u acc : Value} {Qv : Value → Shared → Prop}
    (I3 : Inv X pins σ H3 s3) (tk : Takes X W) (hst : X.stack = X.env :: X.outer) (hfm : X.env.frame = some X.env.locals) (hcf : ce.frame = X.env.frame) (hcl : ce.locals = s3.heap.objs.size)
    (hch : ∀ b ∈ fp, (b ∈ X.ex ∨ X.s_0.heap.objs.size ≤ b) ∧ b ≠ X.env.locals ∧ (∀ x c, X.env.cells.lookup x = some c → c ≠ b) ∧ ∀ p ∈ X.pn ++ pins, p.1 ≠ b)
    (hfp : ∀ b ∈ fp, b < s3.heap.objs.size) (hW : ∀ c d σ1 H1, W' c d σ1 H1 → W c d σ H1) (x : XE (blkx X s3 H3 scope ce fp xe) W' u s5) :
    notedBy (model X.prog X.w) X.A ce (fun e t => endX (model X.prog X.w) X.A X.xe Qv acc ce (.error e) t) u s5 := by
  obtain ⟨a, B, sI, pins', σ', H', cls, d, rfl, I, nb, up, sky, na, os, ag, w⟩ := x
  unfold notedBy
  rw [note_frame hcf]
  have nb : ∀ b o, sI.heap.get? b = some o → b ∉ frs X.stack → B.get? b = some o := nb
  have sky : Sky B X.stack a (Zc cls d) ce.locals s5.heap := sky
  have frm : X.A.frames = some (X.env :: X.outer) := by rw [I3.ok.frames, hst]
  have hCL : ¬ ce.locals = X.env.locals := by rw [hcl]; exact Nat.ne_of_gt I3.lt
  obtain ⟨mI, nsI, _⟩ := I.loc
  have nsI : sI.heap.Ns ce.locals mI := nsI
  have ns5 : s5.heap.Ns ce.locals mI := up.ns nsI
  have fin : ∀ h1, HeldZ B (X.env :: X.outer) a (Zc cls d) X.env.locals h1 → s5.heap.UpToSlots h1 → endX (model X.prog X.w) X.A X.xe Qv acc ce (.error (.ref a)) { s5 with heap := h1 } := fun h1 hh up1 => by
    refine ⟨mI, up1.ns ns5, fun g m' hm' sb => ?_⟩
    have sb : Heap.SameBut ce.locals h1 g := sb
    have hmg : h1.Ns ce.locals mI := up1.ns ns5
    obtain ⟨kb, nB, fr, oa, vs, T, oT, ts, ha, hz, hd, e1, nT, Ta, hT, hdT, e3⟩ := hh
    have nfC : ∀ b o ws, h1.get? b = some o → o.data = .fields ws → ¬ b = ce.locals := fun b o ws e hd q => by
      obtain ⟨oC, es, ep, ho, hdd, _⟩ := hmg
      rw [q, ho] at e
      cases e
      rw [hdd] at hd
      cases hd
    have aC := nfC a oa vs ha hd
    have TC := nfC T oT ts hT hdT
    have hideN : ∀ {h : Heap} {b : Addr} {o : Obj}, (PySem.W.hideAll h [ce.locals]).get? b = some o → ¬ b = ce.locals ∧ h.get? b = some o := fun {h b o} e => by
      refine ⟨fun q => ?_, PySem.W.of_hideAll _ e⟩
      rw [PySem.W.hideAll_none [ce.locals] (by rw [q]; exact List.mem_singleton.mpr rfl)] at e
      cases e
    have hideK : ∀ {h : Heap} {b : Addr} {o : Obj}, h.get? b = some o → ¬ b = ce.locals → (PySem.W.hideAll h [ce.locals]).get? b = some o := fun {h b o} e q =>
      PySem.W.hideAll_get _ e fun hm => q (List.mem_singleton.mp hm)
    have hideNo : ∀ {h : Heap} {b : Addr}, h.get? b = none → (PySem.W.hideAll h [ce.locals]).get? b = none := fun {h b} e => by
      cases q : (PySem.W.hideAll h [ce.locals]).get? b with
      | none => rfl
      | some o => rw [(hideN q).2] at e; cases e
    have heldg : HeldZ (PySem.W.hideAll B [ce.locals]) (X.env :: X.outer) a (Zc cls d) X.env.locals g := by
      refine ⟨fun b o e => ?_, hideNo nB, ?_, oa, vs, T, oT, ts, (sb.2 a aC).trans ha, hz, hd, e1, hideNo nT, Ta, (sb.2 T TC).trans hT, hdT, e3⟩
      · obtain ⟨q1, q2⟩ := hideN e
        exact (sb.2 b q1).trans (kb b o q2)
      · refine funFrames_none (Heap.FunFrames.sameBut sb hm' fr) fun b hb => ?_
        exact hideNo (fr.mem hb).1
    unfold PySem.passOn
    refine wpAny_bind (wpAny_field ((sb.2 a aC).trans ha) hd e1 ?_)
    rw [if_neg (show ¬ ((Value.ref T == Value.none) = true) by simp)]
    have last : wpAny (model X.prog X.w) X.A (setFlight (.ref a) ce.frame) (fun _ t => wpAny (model X.prog X.w) X.A (throw (.ref a) : Sem Value) (fun _ _ => False) X.xe t) X.xe { s5 with heap := g } := by
      rw [hcf, hfm]
      refine setFlight_onZ heldg fun h2 held2 up2 => wpAny_throw (tk _ _ ?_)
      refine ⟨a, PySem.W.hideAll B [ce.locals], { sI with heap := PySem.W.hideAll sI.heap [ce.locals] }, pins, σ, H', cls, d, rfl, ?_, fun b o e hb => ?_, fun b o e nf => ?_, .inr (.inr ?_), na, os, ag, hW _ _ _ _ w⟩
      · have lt3 : ∀ b o, s3.heap.get? b = some o → ¬ b = ce.locals := fun b o e q => by
          have := Heap.lt_size e
          rw [q, hcl] at this
          exact Nat.lt_irrefl _ this
        have U : Un (frs X.stack) fp H3 H' s3.heap sI.heap := I.base
        refine I3.call' (ch := fp) I.os ⟨fun b o e n hb hx => hideK (U.keep b o e n hb hx) (lt3 b o e), fun b o e n hb hx => ?_, U.free, fun b o e hx => ?_, U.tups, U.frzs, U.tbls⟩ (fun b o e => ?_) I.bare hch
        · obtain ⟨sl, q⟩ := U.slot b o e n hb hx
          exact ⟨sl, hideK q (lt3 b o e)⟩
        · obtain ⟨o', q⟩ := U.there b o e hx
          exact ⟨o', hideK q (lt3 b o e)⟩
        · have fC : H' ce.locals = none := I.free
          refine (I.hok b o e).stay (fun c v hc q => hideK q fun z => ?_) (fun _ z => z) fun _ _ z => z
          rcases hc with hc | hc
          · rw [← hc, z, fC] at e; cases e
          · rw [z, fC] at hc; cases hc
      · obtain ⟨q1, q2⟩ := hideN e
        exact hideK (nb b o q2 hb) q1
      · obtain ⟨q1, q2⟩ := hideN (show (PySem.W.hideAll sI.heap [ce.locals]).get? b = some o from e)
        obtain ⟨sl1, r1⟩ := up b o q2 nf
        obtain ⟨sl2, r2⟩ := up1 b _ r1 nf
        obtain ⟨sl3, r3⟩ := up2 b _ ((sb.2 b q1).trans r2) nf
        exact ⟨sl3, r3⟩
      · show HeldZ _ X.stack a (Zc cls d) X.env.locals h2
        rw [hst]
        exact held2
    first
      | exact wpAny_bind (wpAny_pure (wpAny_bind last))
      | exact wpAny_bind last
  rw [hst] at sky
  rcases sky with ⟨hB, hn, hl, oe, vs, he, hz, hd, h1⟩ | fl | hh
  · exact look_newZ Zc.steady frm hl hfm he hB hn hd h1 hz fin
  · exact looks_onZ Zc.steady frm hfm fl fin
  · exact look_far Zc.steady frm hfm hh hCL fin

/-- [elt for target in iter], elt may raise; te by the slots outside -/
def tLcX (wi : TI) (g : TG) (te : L2.St → TE) (vs : List Nat) : TE := fun σ H Q => wi σ H fun J H1 => ∀ D, H1 D = none → ∃ Wt : Nat → Nat → Hp → Prop, (∃ m, Wt 0 m (upd H1 D (.lst []))) ∧ ∀ i m H, Wt i m H →
  (J.stop i H ∧ Q (.ref D) H) ∨ (J.go i H ∧ ∃ Nx : Hp → Prop, (∀ H', Nx H' → ∃ m', m' < m ∧ Wt (i + 1) m' H') ∧ ∀ x H', J.yld i H x H' → g x (wipe σ vs) H' fun σ2 H2 => wipe σ2 vs = wipe σ vs ∧
    te σ σ2 H2 fun y H4 => ∃ acc, H4 D = some (.lst acc) ∧ acc.length < sizeLine ∧ Nx (upd H4 D (.lst (acc ++ [y]))))
theorem pe_lcx {elt tg iter : Expr} {scope : Scope} {own : List (Str × Nat)} {pos : Pos} {wi : TI} {g : TG} {te : L2.St → TE} {W : WX} (hc : X.calm = true) (hN : X.N.Nodup) (hi : PI X tg iter wi) (ok : BlkOk X.N X.env.scope scope own) (tk : Takes X W)
    (top : (∀ c d σ H, ¬ W c d σ H) ∨ (X.stack = X.env :: X.outer ∧ X.env.frame = some X.env.locals))
    (hg : ∀ (s : Shared) (H : Hp) (C : Addr) (cl : List (Str × Addr)) (fp : List Addr) (xe : Value → Shared → Prop), PG (blkx X s H scope (compEnvC scope cl C X.env) fp xe) tg g)
    (he : ∀ (σ0 : L2.St) (s : Shared) (H : Hp) (C : Addr) (cl : List (Str × Addr)) (fp : List Addr) (xe : Value → Shared → Prop), Takes (blkx X s H scope (compEnvC scope cl C X.env) fp xe) (fun c d _ H => W c d σ0 H) → PE (blkx X s H scope (compEnvC scope cl C X.env) fp xe) elt (te σ0))
    (hs : ∀ x, foldedSetIterable iter X.env x = pure x) :
    PE X (.ListComp elt [⟨tg, iter, [], 0⟩] scope pos) (tLcX wi g te (own.map (·.2))) := by
  refine ⟨fun pins s σ H Q I h => ?_⟩
  rw [eval_ListComp]
  have hfree : ∀ y ∈ scope.names, y.2 = .free → ∃ c, X.env.cells.lookup y.1 = some c := fun y hy e => by
    rcases ok.free y hy e with k | k
    · exact I.ok.has _ (.inl k)
    · exact I.ok.has _ (.inr k)
  refine compX_wp rfl hs (closure_ok hfree) ok.kind (fun y hy e => by rw [ok.uniq y hy, e]) (thn (hi.run pins s σ H _ I h) fun xv s1 hx => thn hx fun itv s2 h2 => ?_)
  obtain ⟨it, fp, tn, J, H2, e, I2, T, st2, f2, q⟩ := h2
  subst e
  refine wpAny_newObj_type (newEnv_comp ?_) (by show 0 ≤ sizeLine; decide)
  generalize hD : s2.heap.objs.size = D
  have hDn : H2 D = none := I2.hok.fresh (Nat.le_of_eq hD)
  obtain ⟨Wt, ⟨m0, w0⟩, turn⟩ := q D hDn
  generalize hs3 : ({ s2 with heap := s2.heap.push { cls := .type "list", data := .seq ([] : List Value).toArray } } : Shared) = s3
  have I3 : Inv X pins σ (upd H2 D (.lst [])) s3 := by
    subst hs3
    refine I2.laid (t' := s2.toks) (fun b o e => Heap.get?_push_of_some _ e) (Nat.le_of_eq hD) ⟨Nat.zero_le _, [], 0, .nil, ?_⟩
    subst hD
    exact Heap.get?_push_size _ rfl
  have h3 : s3.heap = s2.heap.push { cls := .type "list", data := .seq ([] : List Value).toArray } := by subst hs3; rfl
  have sz2 : ∀ b ∈ fp, b < s2.heap.objs.size := fun b hb => by
    obtain ⟨o, e, _⟩ := T.obj _ _ st2 b hb
    exact Heap.lt_size e
  have f3 : ∀ b ∈ fp, FpOk X pins (upd H2 D (.lst [])) b ∧ b < s3.heap.objs.size := fun b hb => by
    have hlt := sz2 b hb
    refine ⟨⟨?_, (f2 b hb).2⟩, by rw [h3, Heap.size_push]; exact Nat.lt_succ_of_lt hlt⟩
    rw [upd_ne (by rw [← hD]; exact Nat.ne_of_lt hlt)]
    exact (f2 b hb).1
  have st3 : tn 0 s3.heap := T.keep _ _ _ st2 fun b _ o e => by rw [h3]; exact Heap.get?_push_of_some _ e
  have I4 := block_start I3 ok hN f3
  have pg := hg s3 (upd H2 D (.lst [])) s3.heap.objs.size (cellsFrom (s3.heap.objs.size + 1) scope.names (cloFrom X.env.cells scope.names [])) fp
  have pe := he σ s3 (upd H2 D (.lst [])) s3.heap.objs.size (cellsFrom (s3.heap.objs.size + 1) scope.names (cloFrom X.env.cells scope.names [])) fp
  show codeAny _ _ (.compStart (.ListComp elt [⟨tg, iter, [], 0⟩] scope pos) 0 (.ref it) (.ref D) (compEnvC scope (cellsFrom (s3.heap.objs.size + 1) scope.names (cloFrom X.env.cells scope.names [])) s3.heap.objs.size X.env))
    (endX (model X.prog X.w) X.A X.xe (EP X pins σ Q) (.ref D) (compEnvC scope (cellsFrom (s3.heap.objs.size + 1) scope.names (cloFrom X.env.cells scope.names [])) s3.heap.objs.size X.env)) { s3 with heap := pushCells (s3.heap.push { cls := .type "dict", data := .dict #[] }) scope.names }
  have nfp : ∀ b ∈ fp, (upd H2 D (.lst [])) b = none := fun b hb => (f3 b hb).1.1
  generalize hce : compEnvC scope (cellsFrom (s3.heap.objs.size + 1) scope.names (cloFrom X.env.cells scope.names [])) s3.heap.objs.size X.env = ce at I4 pg pe ⊢
  have cL : ce.locals = s3.heap.objs.size := by subst hce; rfl
  have cF : ce.frame = X.env.frame := by subst hce; rfl
  generalize hH3 : upd H2 D (.lst []) = H3 at I3 I4 pg pe w0 nfp f3
  generalize hs4 : ({ s3 with heap := pushCells (s3.heap.push { cls := .type "dict", data := .dict #[] }) scope.names } : Shared) = s4 at I4 ⊢
  have st4 : tn 0 s4.heap := T.keep _ _ _ st3 fun b _ o e => by subst hs4; exact pushCells_keeps _ _ _ _ (Heap.get?_push_of_some _ e)
  have fch : ∀ b ∈ fp, (b ∈ X.ex ∨ X.s_0.heap.objs.size ≤ b) ∧ b ≠ X.env.locals ∧ (∀ x c, X.env.cells.lookup x = some c → c ≠ b) ∧ ∀ p ∈ X.pn ++ pins, p.1 ≠ b := fun b hb =>
    ⟨(f3 b hb).1.2.2.2.1, (f3 b hb).1.2.1, (f3 b hb).1.2.2.2.2.1, (f3 b hb).1.2.2.2.2.2⟩
  -- the wish for exceptions within the block
  generalize hxe : notedBy (model X.prog X.w) X.A ce (fun e t => endX (model X.prog X.w) X.A X.xe (EP X pins σ Q) (.ref D) ce (.error e) t) = xe
  have tkB : Takes (blkx X s3 H3 scope ce fp xe) (fun c d _ H => W c d σ H) := fun u s' x => by
    rcases top with no | ⟨t1, t2⟩
    · obtain ⟨a, B, sI, pins', σ', H', cls, d, _, _, _, _, _, _, _, _, w⟩ := x
      exact (no _ _ _ _ w).elim
    · have z := out_blk (acc := .ref D) (Qv := EP X pins σ Q) I3 tk t1 t2 cF cL fch (fun b hb => (f3 b hb).2) (fun c d _ H h => h) x
      rw [hxe] at z
      exact z
  have peB := pe xe tkB
  have pgB := pg xe
  have I4 : Inv (blkx X s3 H3 scope ce fp xe) [] (wipe σ (own.map (·.2))) H3 s4 := I4.toTry xe
  have stat : ∀ {σ' : L2.St} {H' : Hp} {s' : Shared}, Inv (blkx X s3 H3 scope ce fp xe) [] σ' H' s' → (∀ b ∈ fp, H' b = none) → ∀ b ∈ fp, FpOk (blkx X s3 H3 scope ce fp xe) [] H' b := fun {σ' H' s'} I' hn b hb =>
    ⟨hn b hb, (I'.ok.exf b hb).1, I'.ok.exfs b hb, .inl hb, fun x c e => (I'.ok.exf b hb).2 x c e, fun p hp => absurd (show p ∈ ([] : List (Addr × Obj)) ++ [] from hp) (by simp)⟩
  have loop : codeAny (model X.prog X.w) X.A (.compLoop (.ListComp elt [⟨tg, iter, [], 0⟩] scope pos) 0 (.ref it) (.ref D) ce) (endX (model X.prog X.w) X.A X.xe (EP X pins σ Q) (.ref D) ce) s4 := by
    refine compLoop_any (fun n s' => ∃ i H', Inv (blkx X s3 H3 scope ce fp xe) [] (wipe σ (own.map (·.2))) H' s' ∧ tn i s'.heap ∧ (∀ b ∈ fp, H' b = none) ∧ Wt i n H') ?_ m0 ⟨0, H3, I4, st4, nfp, w0⟩
    rw [hxe]
    rintro n s5 ⟨i, H5, I5, st5, n5, w5⟩
    rcases turn i n H5 w5 with ⟨stop, qq⟩ | ⟨go, Nx, hNx, step⟩
    · have td := T.done (blkx X s3 H3 scope ce fp xe) rfl rfl rfl hc i [] s5 _ H5 xe I5 (stat I5 n5) st5 stop
      refine thn td fun r s6 ⟨hr, I6⟩ => ?_
      subst hr
      have I7 : Inv X pins σ H5 s6 := I3.call' (ch := fp) I6.os I6.base I6.hok I6.bare fch
      have nC : H5 s3.heap.objs.size = none := by
        have z : H5 ce.locals = none := I6.free
        rw [cL] at z
        exact z
      obtain ⟨m, hn, _⟩ := I6.loc
      have hn : s6.heap.Ns ce.locals m := hn
      refine ⟨m, hn, fun g' sb => ?_⟩
      obtain ⟨y0, y1, y2, y3, y4, y5⟩ := I3.fpOk (Nat.le_refl _) nC
      rw [cL] at sb
      exact ⟨.ref D, H5, I7.turned (t' := s6.toks) (fun b o hb e => (sb.2 b hb).trans e) y0 y1 y3 y4 y5, rfl, qq⟩
    · have ti := T.item (blkx X s3 H3 scope ce fp xe) rfl rfl rfl hc i [] s5 _ H5 xe I5 (stat I5 n5) st5 go
      refine thn ti fun r s6 ⟨u, hr, h6⟩ => ?_
      subst hr
      refine thn h6 fun _ s7 ⟨x, H7, I7, r7, y7, st7, n7⟩ => ?_
      have I7' := I7.pinned (stat I7 n7) (T.obj _ _ st7)
      refine thn (pgB.run _ s7 _ H7 x u _ I7' r7 (step x H7 y7)) fun _ s8 ⟨σ8, H8, I8, hw8, q8⟩ => ?_
      refine wpAny_tests_nil ?_
      rw [if_pos rfl]
      have fin : ∀ {s' : Shared} {H' : Hp}, Inv (blkx X s3 H3 scope ce fp xe) ([] ++ pinsAt fp s7.heap) σ8 H' s' → Nx H' → ∃ m, m < n ∧ ∃ i H', Inv (blkx X s3 H3 scope ce fp xe) [] (wipe σ (own.map (·.2))) H' s' ∧ tn i s'.heap ∧ (∀ b ∈ fp, H' b = none) ∧ Wt i m H' := fun {s' H'} I' nx => by
        obtain ⟨m', hm, w'⟩ := hNx H' nx
        have pin' : ∀ b ∈ fp, ∀ o, s7.heap.get? b = some o → s'.heap.get? b = some o ∧ H' b = none := fun b hb o e =>
          let z := I'.pin (b, o) (List.mem_append_right _ (List.mem_append_right _ (mem_pinsAt hb e)))
          ⟨z.1, z.2.1⟩
        have hl : (wipe σ (own.map (·.2))).length = σ8.length := by rw [← hw8, wipe_length]
        refine ⟨m', hm, i + 1, H', (I'.unpinned (pins := [])).weak hl (fun j v e => ?_), T.keep _ _ _ st7 fun b hb o e => (pin' b hb o e).1, fun b hb => ?_, w'⟩
        · rw [← hw8] at e
          exact (wipe_some e).1
        · obtain ⟨o, e, _⟩ := T.obj _ _ st7 b hb
          exact (pin' b hb o e).2
      refine thn (peB.run _ s8 σ8 H8 _ I8 q8) fun z s10 ⟨yv, H10, I10, r10, acc, hD10, hz10, nx⟩ => ?_
      exact app_ok (X := blkx X s3 H3 scope ce fp xe) I10 hD10 hz10 r10 fun s11 I11 => fin I11 nx
  exact codeAny_compStart_list loop (T.self X.A 0 _ _ _ st4 loop)
end
end MP
set_option Elab.async false
set_option linter.all false
set_option maxRecDepth 100000
/-! A small Python over plain data: data, a pure evaluator. -/
namespace MP
open PySem PySem.Spec PyProof.Rows L2

/-- plain data; scr: the list of ints that the law is handed -/
inductive D where
  | non | bl (b : Bool) | int (i : Int) | str (s : Str) | tup (xs : List D) | lst (xs : List D) | scr (ns : List Int)
  | ob (rows cl : List D)
deriving Inhabited

inductive Res (α : Type) where
  | ok (a : α) | exc (c : Str) | stuck
deriving Inhabited

namespace Res
@[simp] def bind {α β : Type} : Res α → (α → Res β) → Res β
  | .ok a, f => f a
  | .exc c, _ => .exc c
  | .stuck, _ => .stuck
end Res

theorem stuck_ne {α : Type} {x : α} (h : (Res.stuck : Res α) = .ok x) : False := by cases h
theorem exc_ne {α : Type} {x : α} {c : Str} (h : (Res.exc c : Res α) = .ok x) : False := by cases h
/-- a def's mirror: the arguments, the answer and whether it is a list made anew -/
abbrev Fn := List D → Res (D × Bool)
/-- a method that changes its object: whether it did, the object's two lists -/
abbrev PutFn := List D → List D → D → Res (Bool × List D × List D)
/-- what a body calls -/
inductive CallI where
  | fn (x : Str) (n : Nat) (f : Fn)
  | mt (x : Str) (n : Nat) (f : Fn)
  | ini
  | put (g : PutFn)

inductive Kd where
  | sh | fr | bo
deriving DecidableEq, Inhabited

inductive BOp where
  | add | sub | mul | fdiv | mod | pow
deriving DecidableEq
inductive COp where
  | eq | ne | lt | le | gt | ge
  /-- one sign not in a text -/
  | ni
deriving DecidableEq
inductive Ty where
  | int | bool | tuple | list | str
deriving DecidableEq
inductive Blt where
  | len | abs | list | tuple | str | int | max | min
deriving DecidableEq
inductive IK where
  | range1 | range2 | val | rev
deriving DecidableEq

inductive ME where
  | loc (i : Nat)
  | glo (x : Str) (d : D)
  | int (i : Int)
  | bl (b : Bool)
  | non
  | str (s : Str)
  | bin (o : BOp) (a b : ME)
  | neg (a : ME)
  | cmp (o : COp) (a b : ME)
  | cmp2 (o1 o2 : COp) (a b c : ME)
  | isN (n : Bool) (a : ME)
  | and (a b : ME)
  | or (a b : ME)
  | not (a : ME)
  | ife (c a b : ME)
  | sub (a i : ME)
  | slLo (a lo : ME)
  | slHi (a hi : ME)
  | sl (a lo hi : ME)
  | call (x : Str) (f : Fn) (args : List ME)
  | blt (b : Blt) (args : List ME)
  | isi (a : ME) (t : Ty)
  | tup (es : List ME)
  | lst (es : List ME)
  | comp (elt : ME) (i : Nat) (k : IK) (args : List ME)
  | compIf (elt : ME) (i : Nat) (k : IK) (args : List ME) (c : ME)
  | tupRev (a : ME)
  /-- tuple([elt for ..]), elt may raise -/
  | tupComp (elt : ME) (i : Nat) (k : IK) (args : List ME)
  | attr (i : Nat) (w : Bool)
  | mcall (i : Nat) (x : Str) (f : Fn) (a : ME)
  /-- sep.join(e) -/
  | join (s : Str) (a : ME)
  /-- e.split(sep) -/
  | split (a : ME) (s : Str)
  /-- len(name), lists within lists of the def's own -/
  | dlen (i : Nat)

/-- a slot: not assigned; plain data; a list of this def's own -/
inductive SV where
  | no | sh (d : D) | ow (ds : List D) | ob (rows cl : List D) | dp (n : Nat) (d : D)
deriving Inhabited

/-- too deep to be compared -/
def deepPy : Nat → PyData
  | 0 => .none
  | n + 1 => .tuple [deepPy n]
mutual
def toPy : D → PyData
  | .non => .none
  | .bl b => .bool b
  | .int i => .int i
  | .str s => .str s
  | .tup xs => .tuple (toPys xs)
  | .lst xs => .list (toPys xs)
  | .scr ns => .list (ns.map .int)
  | .ob _ _ => deepPy 65
def toPys : List D → List PyData
  | [] => []
  | d :: ds => toPy d :: toPys ds
end

def isBl : D → Bool
  | .bl _ => true
  | _ => false
/-- no address within -/
def atom : D → Bool
  | .non => true
  | .bl _ => true
  | .int _ => true
  | .str _ => true
  | _ => false

mutual
/-- no list within -/
def noL : D → Bool
  | .tup xs => noLs xs
  | .lst _ => false
  | .scr _ => false
  | .ob _ _ => false
  | _ => true
def noLs : List D → Bool
  | [] => true
  | x :: xs => noL x && noLs xs
end
/-- an answer that leans on no list -/
def noR : D × Bool → Bool
  | (.lst ds, true) => noLs ds
  | (_, true) => false
  | (d, false) => noL d

def evBin : BOp → D → D → Res (D × Kd)
  | .add, .int i, .int j => .ok (.int (i + j), .sh)
  | .add, .str i, .str j => if i.length + j.length ≤ 16777216 then .ok (.str (i ++ j), .sh) else .stuck
  | .add, .tup xs, .tup ys => if xs.length + ys.length ≤ 16777216 then .ok (.tup (xs ++ ys), .sh) else .stuck
  | .add, .lst xs, .lst ys => if xs.length + ys.length ≤ 16777216 then .ok (.lst (xs ++ ys), .fr) else .stuck
  | .sub, .int i, .int j => .ok (.int (i - j), .sh)
  | .mul, .int i, .int j => if i.natAbs.log2 + j.natAbs.log2 < 1000000 ∨ j.natAbs < 2 ^ 64 then .ok (.int (i * j), .sh) else .stuck
  | .mul, .str z, .int j => if 0 ≤ j ∧ j ≤ 1000 ∧ z.length ≤ 1000 then .ok (.str (Txt.mul z j), .sh) else .stuck
  | .fdiv, .int i, .int j => if j ≠ 0 ∧ j.natAbs.log2 < 9000 then .ok (.int (i.fdiv j), .sh) else .stuck
  | .mod, .int i, .int j => if j ≠ 0 then .ok (.int (i.fmod j), .sh) else .stuck
  | .pow, .int i, .int j => if 0 ≤ j ∧ j.natAbs ≤ 1000000 ∧ i.natAbs < 2 ^ 64 then .ok (.int (i ^ j.toNat), .sh) else .stuck
  | _, _, _ => .stuck

def evCmp : COp → D → D → Res (D × Kd)
  | .eq, a, b => if SeqAt.shaped (toPy a) = true ∧ SeqAt.shaped (toPy b) = true then .ok (.bl (PyData.eqv (toPy a) (toPy b)), .sh) else .stuck
  | .ne, a, b => if SeqAt.shaped (toPy a) = true ∧ SeqAt.shaped (toPy b) = true then .ok (.bl (!PyData.eqv (toPy a) (toPy b)), .sh) else .stuck
  | .lt, .int i, .int j => .ok (.bl (decide (i < j)), .sh)
  | .lt, .tup xs, .tup ys => if PySem.W.alike (toPy (.tup xs)) (toPy (.tup ys)) = true ∧ (toPy (.tup xs)).depth ≤ 64 ∧ (toPy (.tup ys)).depth ≤ 64 then .ok (.bl (PySem.W.dataLt (toPy (.tup xs)) (toPy (.tup ys))), .sh) else .stuck
  | .le, .int i, .int j => .ok (.bl (decide (i ≤ j)), .sh)
  | .gt, .int i, .int j => .ok (.bl (decide (j < i)), .sh)
  | .ge, .int i, .int j => .ok (.bl (decide (j ≤ i)), .sh)
  | .ni, .str x, .str z => (match x.cps.toList with
    | [c] => .ok (.bl (!decide (c ∈ z.cps.toList)), .sh)
    | _ => .stuck)
  | _, _, _ => .stuck

def evSub : D → D → Res (D × Kd)
  | .tup xs, .int i => match atI xs i with | some d => .ok (d, .sh) | none => .stuck
  | .lst xs, .int i => match atI xs i with | some d => .ok (d, .sh) | none => .stuck
  | .scr ns, .int i => match atI ns i with | some n => .ok (.int n, .sh) | none => .stuck
  | .str s, .int i => if s.length ≤ 16777216 then (match atI s.cps.toList i with | some c => .ok (.str ⟨#[c]⟩, .sh) | none => .stuck) else .stuck
  | _, _ => .stuck

def cutD (xs : List D) (lo hi : Option Int) : List D := (xs.drop (HT.sIx xs.length 0 lo)).take (HT.sIx xs.length xs.length hi - HT.sIx xs.length 0 lo)
def evSl (d : D) (lo hi : Option Int) : Res (D × Kd) := match d with
  | .tup xs => .ok (.tup (cutD xs lo hi), .sh)
  | .lst xs => .ok (.lst (cutD xs lo hi), .fr)
  | .str z => if z.length ≤ 16777216 then .ok (.str (L2.cutS z lo hi), .sh) else .stuck
  | _ => .stuck
/-- texts alone -/
def strsOf : List D → Option (List Str)
  | [] => some []
  | .str s :: ds => (match strsOf ds with
    | some ss => some (s :: ss)
    | none => none)
  | _ => none
def joinD (s : Str) (d : D) : Res (D × Kd) := match d with
  | .lst ds => (match strsOf ds with
    | some ys => if (ys.map (·.length)).sum + ys.length * s.length ≤ 16777216 then .ok (.str (Txt.join s ys), .sh) else .stuck
    | none => .stuck)
  | .tup ds => (match strsOf ds with
    | some ys => if (ys.map (·.length)).sum + ys.length * s.length ≤ 16777216 then .ok (.str (Txt.join s ys), .sh) else .stuck
    | none => .stuck)
  | _ => .stuck
def splitD (s : Str) (d : D) : Res (D × Kd) := match d with
  | .str z => if (s.length == 0) = false ∧ z.length + 2 ≤ 16777216 then .ok (.lst ((Txt.split z s).map D.str), .fr) else .stuck
  | _ => .stuck

def evBlt : Blt → List D → Res (D × Kd)
  | .len, [.tup xs] => .ok (.int xs.length, .sh)
  | .len, [.lst xs] => .ok (.int xs.length, .sh)
  | .len, [.scr xs] => .ok (.int xs.length, .sh)
  | .len, [.str s] => if s.length ≤ 16777216 then .ok (.int s.length, .sh) else .stuck
  | .abs, [.int i] => .ok (.int (if i < 0 then -i else i), .sh)
  | .list, [.tup xs] => .ok (.lst xs, .fr)
  | .list, [.lst xs] => .ok (.lst xs, .fr)
  | .tuple, [.tup xs] => .ok (.tup xs, .sh)
  | .tuple, [.lst xs] => .ok (.tup xs, .sh)
  | .str, [.int i] => if i.natAbs.log2 < 1920 then .ok (.str (toString i), .sh) else .stuck
  | .int, [.bl b] => .ok (.int (if b then 1 else 0), .sh)
  | .int, [.int i] => .ok (.int i, .sh)
  | .int, [.str s] => if s.length ≤ 640 then (match PySem.intText? s with
    | some n => .ok (.int n, .sh)
    | none => .stuck) else .stuck
  | .max, [.int i, .int j] => .ok (.int (if j > i then j else i), .sh)
  | .min, [.int i, .int j] => .ok (.int (if j < i then j else i), .sh)
  | _, _ => .stuck

def evIsi : D → Ty → Bool
  | .int _, .int => true
  | .bl _, .int => true
  | .bl _, .bool => true
  | .tup _, .tuple => true
  | .lst _, .list => true
  | .str _, .str => true
  | _, _ => false

def evIs (d : D) (t : Ty) : Res (D × Kd) := match d with
  | .scr _ => .stuck
  | .ob _ _ => .stuck
  | d => .ok (.bl (evIsi d t), .sh)
/-- what a for or a comprehension walks -/
def items : IK → List D → Res (List D)
  | .range1, [.int n] => if n.natAbs < 4611686018427387904 then .ok ((List.range n.toNat).map fun (i : Nat) => .int i) else .stuck
  | .range2, [.int a, .int b] => if a.natAbs < 4611686018427387904 ∧ b.natAbs < 4611686018427387904 then .ok ((List.range (b - a).toNat).map fun (i : Nat) => .int (a + i)) else .stuck
  | .val, [.tup xs] => .ok xs
  | .val, [.lst xs] => .ok xs
  | .val, [.str s] => .ok (s.cps.toList.map fun c => .str ⟨#[c]⟩)
  | .rev, [.tup xs] => .ok xs.reverse
  | .rev, [.lst xs] => .ok xs.reverse
  | _, _ => .stuck

/-- a comprehension: elements of plain data; nothing may be raised within -/
def compL (i : Nat) (f : List SV → Res (D × Kd)) (S : List SV) : List D → Res (List D)
  | [] => .ok []
  | x :: xs => match f (S.set i (.sh x)) with
    | .ok r => if r.2 = .bo then .stuck else (compL i f S xs).bind fun ds => .ok (r.1 :: ds)
    | _ => .stuck
/-- the same, an element may raise -/
def compX (i : Nat) (f : List SV → Res (D × Kd)) (S : List SV) : List D → Res (List D)
  | [] => .ok []
  | x :: xs => match f (S.set i (.sh x)) with
    | .ok r => if r.2 = .bo then .stuck else (compX i f S xs).bind fun ds => .ok (r.1 :: ds)
    | .exc c => .exc c
    | .stuck => .stuck
def compC (i : Nat) (f c : List SV → Res (D × Kd)) (S : List SV) : List D → Res (List D)
  | [] => .ok []
  | x :: xs => match c (S.set i (.sh x)) with
    | .ok (.bl true, _) => (match f (S.set i (.sh x)) with
      | .ok r => if r.2 = .bo then .stuck else (compC i f c S xs).bind fun ds => .ok (r.1 :: ds)
      | _ => .stuck)
    | .ok (.bl false, _) => compC i f c S xs
    | _ => .stuck

/-- the arguments by themselves; some list of the def's own among them -/
def args1 (rs : List (D × Kd)) : List D := rs.map (·.1)
def hasBo (rs : List (D × Kd)) : Bool := rs.any fun r => decide (r.2 = .bo)

/-- an object's list -/
def attrD (w : Bool) : D → Res (D × Kd)
  | .ob rows cl => .ok (.lst (if w then cl else rows), .sh)
  | _ => .stuck
def isOb : D → Bool
  | .ob _ _ => true
  | _ => false
def retD (r : Res (D × Bool)) : Res (D × Kd) := match r with
  | .ok r => .ok (r.1, if r.2 then .fr else .sh)
  | _ => .stuck
/-- tuple(reversed(..)) -/
def revD : D → Res (D × Kd)
  | .tup xs => .ok (.tup xs.reverse, .sh)
  | .lst xs => .ok (.tup xs.reverse, .sh)
  | _ => .stuck
mutual
def evE : ME → List SV → Res (D × Kd)
  | .loc i, S => match S[i]? with
    | some (.sh d) => .ok (d, .sh)
    | some (.ow ds) => .ok (.lst ds, .bo)
    | _ => .stuck
  | .glo _ d, _ => .ok (d, .sh)
  | .int i, _ => .ok (.int i, .sh)
  | .bl b, _ => .ok (.bl b, .sh)
  | .non, _ => .ok (.non, .sh)
  | .str s, _ => .ok (.str s, .sh)
  | .bin o a b, S => (evE a S).bind fun x => (evE b S).bind fun y => evBin o x.1 y.1
  | .neg a, S => (evE a S).bind fun x => match x.1 with
    | .int i => .ok (.int (-i), .sh)
    | _ => .stuck
  | .cmp o a b, S => (evE a S).bind fun x => (evE b S).bind fun y => evCmp o x.1 y.1
  | .cmp2 o1 o2 a b c, S => (evE a S).bind fun x => (evE b S).bind fun y => (evCmp o1 x.1 y.1).bind fun r => match r.1 with
    | .bl true => (evE c S).bind fun z => evCmp o2 y.1 z.1
    | .bl false => .ok (.bl false, .sh)
    | _ => .stuck
  | .isN n a, S => (evE a S).bind fun x => .ok (.bl (match x.1 with | .non => !n | _ => n), .sh)
  | .and a b, S => (evE a S).bind fun x => match x.1 with
    | .bl true => (evE b S).bind fun y => if isBl y.1 = true then .ok (y.1, .sh) else .stuck
    | .bl false => .ok (.bl false, .sh)
    | _ => .stuck
  | .or a b, S => (evE a S).bind fun x => match x.1 with
    | .bl true => .ok (.bl true, .sh)
    | .bl false => (evE b S).bind fun y => if isBl y.1 = true then .ok (y.1, .sh) else .stuck
    | _ => .stuck
  | .not a, S => (evE a S).bind fun x => match x.1 with
    | .bl b => .ok (.bl (!b), .sh)
    | _ => .stuck
  | .ife c a b, S => (evE c S).bind fun x => match x.1 with
    | .bl true => evE a S
    | .bl false => evE b S
    | _ => .stuck
  | .sub a i, S => (evE a S).bind fun x => (evE i S).bind fun y => evSub x.1 y.1
  | .slLo a lo, S => (evE a S).bind fun x => (evE lo S).bind fun y => match y.1 with
    | .int l => evSl x.1 (some l) none
    | _ => .stuck
  | .slHi a hi, S => (evE a S).bind fun x => (evE hi S).bind fun y => match y.1 with
    | .int l => evSl x.1 none (some l)
    | _ => .stuck
  | .sl a lo hi, S => (evE a S).bind fun x => (evE lo S).bind fun y => match y.1 with
    | .int l => (evE hi S).bind fun z => match z.1 with
      | .int u => evSl x.1 (some l) (some u)
      | _ => .stuck
    | _ => .stuck
  | .call _ f es, S => (evEs es S).bind fun rs => (f (args1 rs)).bind fun r =>
      if hasBo rs = true then (if noR r = true then .ok (r.1, if r.2 then .fr else .sh) else .stuck) else .ok (r.1, if r.2 then .fr else .sh)
  | .blt b es, S => (evEs es S).bind fun rs => evBlt b (args1 rs)
  | .isi a t, S => (evE a S).bind fun x => evIs x.1 t
  | .tup es, S => (evEs es S).bind fun rs => if hasBo rs = true then .stuck else (if rs.length ≤ 1000 then .ok (.tup (args1 rs), .sh) else .stuck)
  | .lst es, S => (evEs es S).bind fun rs => if hasBo rs = true then .stuck else (if rs.length ≤ 1000 then .ok (.lst (args1 rs), .fr) else .stuck)
  | .comp elt i k es, S => (evEs es S).bind fun rs => if hasBo rs = true then .stuck else (items k (args1 rs)).bind fun xs => if xs.length ≤ 16777216 then (compL i (evE elt) S xs).bind fun ds => .ok (.lst ds, .fr) else .stuck
  | .compIf elt i k es c, S => (evEs es S).bind fun rs => if hasBo rs = true then .stuck else (items k (args1 rs)).bind fun xs => if xs.length ≤ 16777216 then (compC i (evE elt) (evE c) S xs).bind fun ds => .ok (.lst ds, .fr) else .stuck
  | .tupRev a, S => (evE a S).bind fun x => revD x.1
  | .tupComp elt i k es, S => (evEs es S).bind fun rs => if hasBo rs = true then .stuck else (items k (args1 rs)).bind fun xs => if xs.length ≤ 16777216 then (compX i (evE elt) S xs).bind fun ds => .ok (.tup ds, .sh) else .stuck
  | .attr i w, S => match S[i]? with
    | some (.sh d) => attrD w d
    | _ => .stuck
  | .mcall i _ f a, S => match S[i]? with
    | some (.sh d) => if isOb d = true then ((evE a S).bind fun r => if r.2 = .bo then .stuck else retD (f [d, r.1])) else .stuck
    | _ => .stuck
  | .join s a, S => (evE a S).bind fun x => joinD s x.1
  | .split a s, S => (evE a S).bind fun x => splitD s x.1
  | .dlen i, S => match S[i]? with
    | some (.dp _ (.lst ds)) => .ok (.int (ds.length : Nat), .sh)
    | _ => .stuck
def evEs : List ME → List SV → Res (List (D × Kd))
  | [], _ => .ok []
  | e :: es, S => (evE e S).bind fun r => (evEs es S).bind fun rs => .ok (r :: rs)
end

/-! what is called -/
mutual
def callsE : ME → List CallI
  | .bin _ a b => callsE a ++ callsE b
  | .neg a => callsE a
  | .cmp _ a b => callsE a ++ callsE b
  | .cmp2 _ _ a b c => callsE a ++ (callsE b ++ callsE c)
  | .isN _ a => callsE a
  | .and a b => callsE a ++ callsE b
  | .or a b => callsE a ++ callsE b
  | .not a => callsE a
  | .ife c a b => callsE c ++ (callsE a ++ callsE b)
  | .sub a i => callsE a ++ callsE i
  | .slLo a i => callsE a ++ callsE i
  | .slHi a i => callsE a ++ callsE i
  | .sl a i j => callsE a ++ (callsE i ++ callsE j)
  | .call x f es => .fn x es.length f :: callsEs es
  | .blt _ es => callsEs es
  | .isi a _ => callsE a
  | .tup es => callsEs es
  | .lst es => callsEs es
  | .comp elt _ _ es => callsE elt ++ callsEs es
  | .compIf elt _ _ es c => callsE elt ++ (callsE c ++ callsEs es)
  | .tupRev a => callsE a
  | .tupComp elt _ _ es => callsE elt ++ callsEs es
  | .join _ a => callsE a
  | .split a _ => callsE a
  | .mcall _ x f a => .mt x 2 f :: callsE a
  | _ => []
def callsEs : List ME → List CallI
  | [] => []
  | e :: es => callsE e ++ callsEs es
end
/-! the constants of the top that are read -/
mutual
def glosE : ME → List (Str × D)
  | .glo x d => [(x, d)]
  | .bin _ a b => glosE a ++ glosE b
  | .neg a => glosE a
  | .cmp _ a b => glosE a ++ glosE b
  | .cmp2 _ _ a b c => glosE a ++ (glosE b ++ glosE c)
  | .isN _ a => glosE a
  | .and a b => glosE a ++ glosE b
  | .or a b => glosE a ++ glosE b
  | .not a => glosE a
  | .ife c a b => glosE c ++ (glosE a ++ glosE b)
  | .sub a i => glosE a ++ glosE i
  | .slLo a i => glosE a ++ glosE i
  | .slHi a i => glosE a ++ glosE i
  | .sl a i j => glosE a ++ (glosE i ++ glosE j)
  | .call _ _ es => glosEs es
  | .blt _ es => glosEs es
  | .isi a _ => glosE a
  | .tup es => glosEs es
  | .lst es => glosEs es
  | .comp elt _ _ es => glosE elt ++ glosEs es
  | .compIf elt _ _ es c => glosE elt ++ (glosE c ++ glosEs es)
  | .tupRev a => glosE a
  | .tupComp elt _ _ es => glosE elt ++ glosEs es
  | .join _ a => glosE a
  | .split a _ => glosE a
  | .mcall _ _ _ a => glosE a
  | _ => []
def glosEs : List ME → List (Str × D)
  | [] => []
  | e :: es => glosE e ++ glosEs es
end
end MP
set_option Elab.async false
set_option linter.all false
set_option maxRecDepth 100000
set_option maxHeartbeats 4000000
namespace MP
open PySem PySem.Spec PyProof.Rows L2

/-! ### the one class -/
def spF (r c : Addr) : List (Str × V) := putF "cleared" (.ref c) (putF "rows" (.ref r) [])
theorem spF_eq (r c : Addr) : spF r c = ([("rows", V.ref r), ("cleared", V.ref c)] : List (Str × V)) := by
  show (if ("rows" : Str) = "cleared" then [(("rows" : Str), V.ref c)] else (("rows" : Str), V.ref r) :: putF "cleared" (V.ref c) []) = ([("rows", V.ref r), ("cleared", V.ref c)] : List (Str × V))
  rw [if_neg (by decide +kernel)]
  all_goals rfl
theorem spF_rows (r c : Addr) : (spF r c).lookup ("rows" : Str) = some (.ref r) := by
  unfold spF
  rw [lookup_putF, if_neg (by decide +kernel), lookup_putF, if_pos rfl]
theorem spF_cleared (r c : Addr) : (spF r c).lookup ("cleared" : Str) = some (.ref c) := by
  unfold spF
  rw [lookup_putF, if_pos rfl]
theorem spF_no (r c : Addr) {m : Str} (h1 : ¬ m = "cleared") (h2 : ¬ m = "rows") : (spF r c).lookup m = none := by
  unfold spF
  rw [lookup_putF, if_neg h1, lookup_putF, if_neg h2]
  all_goals rfl
theorem spF_inj {r c r' c' : Addr} (h : spF r c = spF r' c') : r = r' ∧ c = c' := by
  have h1 := congrArg (List.lookup ("rows" : Str)) h
  have h2 := congrArg (List.lookup ("cleared" : Str)) h
  rw [spF_rows, spF_rows] at h1
  rw [spF_cleared, spF_cleared] at h2
  cases h1
  cases h2
  exact ⟨rfl, rfl⟩
structure SpanC (K : PySem.W.Frag) (C : Addr) : Prop where
  at_ : PySem.W.nsIn K mainGlobals "Span" = some (some (.ref C))
  cl : Cls K C
  nR : NoAttr K C "rows"
  nC : NoAttr K C "cleared"
theorem SpanC.uniq {K : PySem.W.Frag} {C C' : Addr} (h : SpanC K C) (h' : SpanC K C') : C = C' := by
  have z := h.at_.symm.trans h'.at_
  cases z
  rfl
/-! ### plain data in the abstract heap -/
mutual
inductive Rep (K : PySem.W.Frag) (G : Hp) : V → D → Prop
  | non : Rep K G .non .non
  | bl (b : Bool) : Rep K G (.bl b) (.bl b)
  | int (i : Int) : Rep K G (.int i) (.int i)
  | str (s : Str) : Rep K G (.str s) (.str s)
  | tup {a : Addr} {xs : List V} {ds : List D} : SqT K G a xs → RepL K G xs ds → Rep K G (.ref a) (.tup ds)
  | lst {a : Addr} {xs : List V} {ds : List D} : G a = some (.lst xs) → RepL K G xs ds → Rep K G (.ref a) (.lst ds)
  | scr {a : Addr} {ns : List Int} : SqL K G a (ns.map V.int) → Rep K G (.ref a) (.scr ns)
  | ob {a C dx r c : Addr} {xs ys : List V} {rows cl : List D} : SpanC K C → G a = some (.ins C dx (spF r c)) → G r = some (.lst xs) → G c = some (.lst ys) → RepL K G xs rows → RepL K G ys cl → Rep K G (.ref a) (.ob rows cl)
inductive RepL (K : PySem.W.Frag) (G : Hp) : List V → List D → Prop
  | nil : RepL K G [] []
  | cons {v : V} {vs : List V} {d : D} {ds : List D} : Rep K G v d → RepL K G vs ds → RepL K G (v :: vs) (d :: ds)
end
theorem seqT {K : PySem.W.Frag} {H H' : Hp} {a : Addr} {xs : List V} (e : Same H H') (h : SqT K H a xs) : SqT K H' a xs := by
  rcases h with (h | ⟨o, h⟩) | h
  · exact .inl (.inl (e _ _ h))
  · exact .inl (.inr ⟨o, e _ _ h⟩)
  · exact .inr h
section
variable {K : PySem.W.Frag} {G G' H H' : Hp}
mutual
theorem Rep.mono (e : Same G G') : ∀ {v : V} {d : D}, Rep K G v d → Rep K G' v d
  | _, _, .non => .non
  | _, _, .bl b => .bl b
  | _, _, .int i => .int i
  | _, _, .str i => .str i
  | _, _, .tup h r => .tup (seqT e h) (RepL.mono e r)
  | _, _, .lst h r => .lst (e _ _ h) (RepL.mono e r)
  | _, _, .scr h => .scr (e.seq h)
  | _, _, .ob h ha hr hc r1 r2 => .ob h (e _ _ ha) (e _ _ hr) (e _ _ hc) (RepL.mono e r1) (RepL.mono e r2)
theorem RepL.mono (e : Same G G') : ∀ {v : List V} {d : List D}, RepL K G v d → RepL K G' v d
  | _, _, .nil => .nil
  | _, _, .cons h r => .cons (Rep.mono e h) (RepL.mono e r)
end
theorem RepL.len : ∀ {v : List V} {d : List D}, RepL K G v d → v.length = d.length
  | _, _, .nil => rfl
  | _, _, .cons _ r => by rw [List.length_cons, List.length_cons, RepL.len r]
theorem RepL.get : ∀ {v : List V} {d : List D} {i : Nat} {x : D}, RepL K G v d → d[i]? = some x → ∃ u, v[i]? = some u ∧ Rep K G u x
  | _, _, _, _, .nil, e => by simp at e
  | _, _, 0, _, .cons r _, e => by simp at e; subst e; exact ⟨_, rfl, r⟩
  | _, _, i + 1, x, .cons _ t, e => by
    obtain ⟨u, h1, h2⟩ := RepL.get (i := i) (x := x) t (by simpa using e)
    exact ⟨u, by simpa using h1, h2⟩
theorem RepL.app : ∀ {v w : List V} {d e : List D}, RepL K G v d → RepL K G w e → RepL K G (v ++ w) (d ++ e)
  | _, _, _, _, .nil, s => s
  | _, _, _, _, .cons r t, s => .cons r (RepL.app t s)
theorem RepL.take : ∀ {v : List V} {d : List D} (n : Nat), RepL K G v d → RepL K G (v.take n) (d.take n)
  | _, _, 0, _ => .nil
  | _, _, _ + 1, .nil => .nil
  | _, _, n + 1, .cons r t => .cons r (RepL.take n t)
theorem RepL.drop : ∀ {v : List V} {d : List D} (n : Nat), RepL K G v d → RepL K G (v.drop n) (d.drop n)
  | _, _, 0, r => r
  | _, _, _ + 1, .nil => .nil
  | _, _, n + 1, .cons _ t => RepL.drop n t
theorem RepL.rev : ∀ {v : List V} {d : List D}, RepL K G v d → RepL K G v.reverse d.reverse
  | _, _, .nil => .nil
  | _, _, .cons r t => by
    rw [List.reverse_cons, List.reverse_cons]
    exact (RepL.rev t).app (.cons r .nil)
theorem RepL.set {x : V} {y : D} (r : Rep K G x y) : ∀ {v : List V} {d : List D} (n : Nat), RepL K G v d → RepL K G (v.set n x) (d.set n y)
  | _, _, _, .nil => .nil
  | _, _, 0, .cons _ t => .cons r t
  | _, _, n + 1, .cons q t => .cons q (RepL.set r n t)
theorem RepL.erase : ∀ {v : List V} {d : List D} (n : Nat), RepL K G v d → RepL K G (v.eraseIdx n) (d.eraseIdx n)
  | _, _, _, .nil => .nil
  | _, _, 0, .cons _ t => t
  | _, _, n + 1, .cons q t => .cons q (RepL.erase n t)
theorem RepL.ints : ∀ ns : List Int, RepL K G (ns.map V.int) (ns.map D.int)
  | [] => .nil
  | n :: ns => .cons (.int n) (RepL.ints ns)

/-- the heap has grown: G is what plain data lean on -/
structure Ext (G H G' H' : Hp) : Prop where
  g : Same G G'
  h : Same H H'
  sub : Same G' H'
  new : ∀ b o, G' b = some o → G b = none → H b = none
theorem Ext.refl (s : Same G H) : Ext G H G H := ⟨Same.refl _, Same.refl _, s, fun b o h1 h2 => by rw [h1] at h2; cases h2⟩
theorem Ext.trans {G1 H1 G2 H2 : Hp} (a : Ext G H G1 H1) (b : Ext G1 H1 G2 H2) : Ext G H G2 H2 := ⟨a.g.trans b.g, a.h.trans b.h, b.sub, fun c o h1 h2 => by
  cases q : G1 c with
  | some u => exact a.new c u q h2
  | none => exact a.h.free (b.new c o h1 q)⟩
theorem same_upd {H : Hp} {p : Addr} (h : H p = none) (o : HO) : Same H (upd H p o) := fun b u q => by rw [upd_ne (ne_of_none q h)]; exact q
/-- an object laid among the plain data -/
theorem Ext.newG {p : Addr} {o : HO} (s : Same G H) (h : H p = none) : Ext G H (upd G p o) (upd H p o) := ⟨same_upd (s.free h) o, same_upd h o, fun b u q => by
  by_cases e : b = p
  · subst e
    rw [upd_same] at q ⊢
    exact q
  · rw [upd_ne e] at q ⊢
    exact s _ _ q, fun b u q n => by
  by_cases e : b = p
  · subst e
    exact h
  · rw [upd_ne e, n] at q
    cases q⟩
/-- an object laid that plain data don't lean on -/
theorem Ext.newH {p : Addr} {o : HO} (s : Same G H) (h : H p = none) : Ext G H G (upd H p o) := ⟨Same.refl _, same_upd h o, s.trans (same_upd h o), fun b u q n => by rw [n] at q; cases q⟩
/-- a list laid before is taken among the plain data -/
theorem Ext.freeze {G1 H1 : Hp} {p : Addr} {o : HO} (e : Ext G H G1 H1) (h0 : H p = none) (h : H1 p = some o) (hg : G1 p = none) : Ext G H (upd G1 p o) H1 := ⟨e.g.trans (same_upd hg o), e.h, fun b u q => by
  by_cases z : b = p
  · subst z
    rw [upd_same] at q
    rw [h]
    exact q
  · rw [upd_ne z] at q
    exact e.sub _ _ q, fun b u q n => by
  by_cases z : b = p
  · subst z
    exact h0
  · rw [upd_ne z] at q
    exact e.new b u q n⟩

/-- a new tuple of two new lists -/
def Fr2a (K : PySem.W.Frag) (Hs G : Hp) (v : V) (d : D) : Prop := ∃ t p q ds es, v = .ref t ∧ d = .tup [.lst ds, .lst es] ∧ Hs t = none ∧ Hs p = none ∧ Hs q = none ∧ G t = some (.tup [.ref p, .ref q]) ∧ Rep K G (.ref p) (.lst ds) ∧ Rep K G (.ref q) (.lst es)
theorem Fr2a.rep {Hs : Hp} {v : V} {d : D} (h : Fr2a K Hs G v d) : Rep K G v d := by
  obtain ⟨t, p, q, ds, es, rfl, rfl, _, _, _, ht, r1, r2⟩ := h
  exact .tup (.inl (.inl ht)) (.cons r1 (.cons r2 .nil))
theorem Fr2a.mono {Hs G' : Hp} {v : V} {d : D} (h : Fr2a K Hs G v d) (e : Same G G') : Fr2a K Hs G' v d := by
  obtain ⟨t, p, q, ds, es, e1, e2, n1, n2, n3, ht, r1, r2⟩ := h
  exact ⟨t, p, q, ds, es, e1, e2, n1, n2, n3, e _ _ ht, r1.mono e, r2.mono e⟩
theorem Fr2a.old {Hs Hs' : Hp} {v : V} {d : D} (s : ∀ b, Hs b = none → Hs' b = none) (h : Fr2a K Hs G v d) : Fr2a K Hs' G v d := by
  obtain ⟨t, p, q, ds, es, e1, e2, n1, n2, n3, r⟩ := h
  exact ⟨t, p, q, ds, es, e1, e2, s _ n1, s _ n2, s _ n3, r⟩
/-- a new tuple of something and a new list that nothing else leans on -/
def Fr3 (K : PySem.W.Frag) (Hs G : Hp) (v : V) (d : D) : Prop := ∃ t q xs ds x u Gm, v = .ref t ∧ d = .tup [x, .lst ds] ∧ (∀ es, x ≠ .lst es) ∧ Hs t = none ∧ Hs q = none ∧ G t = some (.tup [u, .ref q]) ∧ G q = some (.lst xs) ∧ Gm q = none ∧ Same Gm G ∧ (∀ b o, G b = some o → Gm b = none → Hs b = none) ∧ RepL K Gm xs ds ∧ Rep K Gm u x
theorem Fr3.rep {Hs : Hp} {v : V} {d : D} (h : Fr3 K Hs G v d) : Rep K G v d := by
  obtain ⟨t, q, xs, ds, x, u, Gm, rfl, rfl, _, _, _, ht, hq, _, sm, _, r1, r2⟩ := h
  exact .tup (.inl (.inl ht)) (.cons (r2.mono sm) (.cons (.lst hq (r1.mono sm)) .nil))
/-- G' without what G had more than Gm -/
def less3 (Gm G G' : Hp) : Hp := fun b => match Gm b, G b with
  | none, some _ => none
  | _, _ => G' b
theorem less3_out {Gm G G' : Hp} {b : Addr} {o : HO} (h : Gm b = none) (g : G b = some o) : less3 Gm G G' b = none := by
  unfold less3
  rw [h, g]
theorem less3_sub {Gm G G' : Hp} {b : Addr} {o : HO} (h : less3 Gm G G' b = some o) : G' b = some o := by
  unfold less3 at h
  split at h
  · cases h
  · exact h
theorem less3_none {Gm G G' : Hp} {b : Addr} {o : HO} (h : less3 Gm G G' b = none) (g : G' b = some o) : Gm b = none ∧ ∃ o', G b = some o' := by
  unfold less3 at h
  split at h
  · rename_i o' h1 h2
    exact ⟨h1, o', h2⟩
  · rw [g] at h
    cases h
theorem less3_up {Gm G G' : Hp} (s1 : Same Gm G) (s2 : Same G G') : Same Gm (less3 Gm G G') := fun b o h => by
  unfold less3
  rw [h, s1 _ _ h]
  exact s2 _ _ (s1 _ _ h)
theorem Fr3.mono {Hs G' : Hp} {v : V} {d : D} (h : Fr3 K Hs G v d) (e : Same G G') : Fr3 K Hs G' v d := by
  obtain ⟨t, q, xs, ds, x, u, Gm, e1, e2, nx, n1, n2, ht, hq, gq, sm, nw, r1, r2⟩ := h
  refine ⟨t, q, xs, ds, x, u, less3 Gm G G', e1, e2, nx, n1, n2, e _ _ ht, e _ _ hq, less3_out gq hq, fun b o z => less3_sub z, fun b o z w => ?_, r1.mono (less3_up sm e), r2.mono (less3_up sm e)⟩
  obtain ⟨h1, o', h2⟩ := less3_none w z
  exact nw b o' h2 h1
theorem Fr3.old {Hs Hs' : Hp} {v : V} {d : D} (s : ∀ b, Hs b = none → Hs' b = none) (h : Fr3 K Hs G v d) : Fr3 K Hs' G v d := by
  obtain ⟨t, q, xs, ds, x, u, Gm, e1, e2, nx, n1, n2, ht, hq, gq, sm, nw, r1, r2⟩ := h
  exact ⟨t, q, xs, ds, x, u, Gm, e1, e2, nx, s _ n1, s _ n2, ht, hq, gq, sm, fun b o z w => s _ (nw b o z w), r1, r2⟩
def Fr2 (K : PySem.W.Frag) (Hs G : Hp) (v : V) (d : D) : Prop := Fr2a K Hs G v d ∨ Fr3 K Hs G v d
theorem Fr2.rep {Hs : Hp} {v : V} {d : D} (h : Fr2 K Hs G v d) : Rep K G v d := h.elim Fr2a.rep Fr3.rep
theorem Fr2.mono {Hs G' : Hp} {v : V} {d : D} (h : Fr2 K Hs G v d) (e : Same G G') : Fr2 K Hs G' v d := h.imp (Fr2a.mono · e) (Fr3.mono · e)
theorem Fr2.old {Hs Hs' : Hp} {v : V} {d : D} (s : ∀ b, Hs b = none → Hs' b = none) (h : Fr2 K Hs G v d) : Fr2 K Hs' G v d := h.imp (Fr2a.old s) (Fr3.old s)
theorem Fr2.isTup {Hs : Hp} {v : V} {d : D} (h : Fr2 K Hs G v d) : ∃ es, d = .tup es := by
  rcases h with ⟨t, p, q, ds, es, e1, e2, _⟩ | ⟨t, q, xs, ds, x, u, Gm, e1, e2, _⟩
  · exact ⟨_, e2⟩
  · exact ⟨_, e2⟩
theorem Fr2.nolst {Hs : Hp} {v : V} {ds : List D} (h : Fr2 K Hs G v (.lst ds)) : False := by
  obtain ⟨es, e⟩ := h.isTup
  cases e
theorem Fr2.top {Hs : Hp} {v : V} {d : D} (h : Fr2 K Hs G v d) : ∃ t zs, v = .ref t ∧ Hs t = none ∧ G t = some (.tup zs) := by
  rcases h with ⟨t, p, q, ds, es, e1, e2, n1, n2, n3, ht, _⟩ | ⟨t, q, xs, ds, x, u, Gm, e1, e2, nx, n1, n2, ht, _⟩
  · exact ⟨t, _, e1, n1, ht⟩
  · exact ⟨t, _, e1, n1, ht⟩
/-- a value of an expression: plain; a list laid since Hs; a list of the def's own -/
def VR (K : PySem.W.Frag) (Hs G H : Hp) (v : V) (d : D) : Kd → Prop
  | .sh => Rep K G v d
  | .fr => (∃ p xs ds, v = .ref p ∧ d = .lst ds ∧ Hs p = none ∧ H p = some (.lst xs) ∧ G p = none ∧ RepL K G xs ds) ∨ Fr2 K Hs G v d
  | .bo => ∃ p xs ds, v = .ref p ∧ d = .lst ds ∧ H p = some (.lst xs) ∧ G p = none ∧ RepL K G xs ds
theorem Ext.gnone {G1 H1 : Hp} (e : Ext G H G1 H1) {p : Addr} {o : HO} (h : H p = some o) (g : G p = none) : G1 p = none := by
  cases q : G1 p with
  | none => rfl
  | some u =>
    have z := e.new p u q g
    rw [h] at z
    cases z
theorem VR.ext {Hs G1 H1 : Hp} {v : V} {d : D} {k : Kd} (h : VR K Hs G H v d k) (e : Ext G H G1 H1) : VR K Hs G1 H1 v d k := by
  cases k with
  | sh => exact Rep.mono e.g h
  | fr =>
    rcases h with ⟨p, xs, ds, e1, e2, h0, h1, h2, r⟩ | h
    · exact .inl ⟨p, xs, ds, e1, e2, h0, e.h _ _ h1, e.gnone h1 h2, r.mono e.g⟩
    · exact .inr (h.mono e.g)
  | bo =>
    obtain ⟨p, xs, ds, e1, e2, h1, h2, r⟩ := h
    exact ⟨p, xs, ds, e1, e2, e.h _ _ h1, e.gnone h1 h2, r.mono e.g⟩
theorem VR.old {Hs Hs' : Hp} {v : V} {d : D} {k : Kd} (s : Same Hs' Hs) (h : VR K Hs G H v d k) : VR K Hs' G H v d k := by
  cases k with
  | sh => exact h
  | fr =>
    rcases h with ⟨p, xs, ds, e1, e2, h0, h1, h2, r⟩ | h
    · exact .inl ⟨p, xs, ds, e1, e2, s.free h0, h1, h2, r⟩
    · exact .inr (h.old fun _ z => s.free z)
  | bo => exact h
/-- a list, whatever its kind -/
theorem VR.list {Hs : Hp} {v : V} {ds : List D} {k : Kd} (s : Same G H) (h : VR K Hs G H v (.lst ds) k) : ∃ p xs, v = .ref p ∧ H p = some (.lst xs) ∧ RepL K G xs ds := by
  cases k with
  | sh =>
    have h : Rep K G v (.lst ds) := h
    cases h with
    | lst a r => exact ⟨_, _, rfl, s _ _ a, r⟩
  | fr =>
    rcases h with ⟨p, xs, ds', e1, e2, h0, h1, h2, r⟩ | h
    · cases e2
      exact ⟨p, xs, e1, h1, r⟩
    · exact h.nolst.elim
  | bo =>
    obtain ⟨p, xs, ds', e1, e2, h1, h2, r⟩ := h
    cases e2
    exact ⟨p, xs, e1, h1, r⟩
/-- what is no list is plain -/
theorem VR.rep {Hs : Hp} {v : V} {d : D} {k : Kd} (h : VR K Hs G H v d k) (hd : ∀ ds, d ≠ .lst ds) : Rep K G v d := by
  cases k with
  | sh => exact h
  | fr =>
    rcases h with ⟨p, xs, ds', e1, e2, _⟩ | h
    · exact absurd e2 (hd _)
    · exact h.rep
  | bo =>
    obtain ⟨p, xs, ds', e1, e2, _⟩ := h
    exact absurd e2 (hd _)
theorem VR.int {Hs : Hp} {v : V} {i : Int} {k : Kd} (h : VR K Hs G H v (.int i) k) : v = .int i := by
  have r := h.rep (by intro ds e; cases e)
  cases r
  rfl
theorem VR.bl {Hs : Hp} {v : V} {i : Bool} {k : Kd} (h : VR K Hs G H v (.bl i) k) : v = .bl i := by
  have r := h.rep (by intro ds e; cases e)
  cases r
  rfl
theorem VR.str {Hs : Hp} {v : V} {i : Str} {k : Kd} (h : VR K Hs G H v (.str i) k) : v = .str i := by
  have r := h.rep (by intro ds e; cases e)
  cases r
  rfl
theorem VR.tup {Hs : Hp} {v : V} {ds : List D} {k : Kd} (h : VR K Hs G H v (.tup ds) k) : ∃ p xs, v = .ref p ∧ SqT K G p xs ∧ RepL K G xs ds := by
  have r := h.rep (by intro ds e; cases e)
  cases r with
  | tup a b => exact ⟨_, _, rfl, a, b⟩
theorem VR.scr {Hs : Hp} {v : V} {ns : List Int} {k : Kd} (h : VR K Hs G H v (.scr ns) k) : ∃ p, v = .ref p ∧ SqL K G p (ns.map V.int) := by
  have r := h.rep (by intro ds e; cases e)
  cases r with
  | scr a => exact ⟨_, rfl, a⟩
/-- plain from then on, but for a list of the def's own -/
theorem VR.fix {G1 H1 : Hp} {v : V} {d : D} {k : Kd} (e : Ext G H G1 H1) (h : VR K H G1 H1 v d k) (hk : k ≠ .bo) : ∃ G2, Ext G H G2 H1 ∧ Same G1 G2 ∧ Rep K G2 v d := by
  cases k with
  | sh => exact ⟨G1, e, Same.refl _, h⟩
  | fr =>
    rcases h with ⟨p, xs, ds, e1, e2, h0, h1, h2, r⟩ | h
    · subst e1 e2
      exact ⟨_, e.freeze h0 h1 h2, same_upd h2 _, .lst upd_same (r.mono (same_upd h2 _))⟩
    · exact ⟨G1, e, Same.refl _, h.rep⟩
  | bo => exact absurd rfl hk
end

/-! ### slots -/
def SlotRel (K : PySem.W.Frag) (G H : Hp) (o : Option (Option V)) : SV → Prop
  | .no => True
  | .sh d => ∃ v, o = some (some v) ∧ Rep K G v d
  | .ow ds => ∃ a xs, o = some (some (.ref a)) ∧ H a = some (.lst xs) ∧ G a = none ∧ RepL K G xs ds
  | .ob rows cl => ∃ C a dx r c xs ys, SpanC K C ∧ o = some (some (.ref a)) ∧ H a = some (.ins C dx (spF r c)) ∧ H r = some (.lst xs) ∧ H c = some (.lst ys) ∧ G a = none ∧ G r = none ∧ G c = none ∧ r ≠ c ∧ RepL K G xs rows ∧ RepL K G ys cl
  | .dp _ d => ∃ a xs ds, d = .lst ds ∧ o = some (some (.ref a)) ∧ H a = some (.lst xs) ∧ xs.length = ds.length
structure EvRel (K : PySem.W.Frag) (S : List SV) (σ : L2.St) (G H : Hp) : Prop where
  sub : Same G H
  len : S.length = σ.length
  sl : ∀ (i : Nat) (sv : SV), S[i]? = some sv → SlotRel K G H σ[i]? sv
theorem SlotRel.ext {K : PySem.W.Frag} {G H G' H' : Hp} {o : Option (Option V)} {sv : SV} (r : SlotRel K G H o sv) (e : Ext G H G' H') : SlotRel K G' H' o sv := by
  cases sv with
  | no => trivial
  | sh d => obtain ⟨v, h1, h2⟩ := r; exact ⟨v, h1, h2.mono e.g⟩
  | ow ds => obtain ⟨a, xs, h1, h2, h3, h4⟩ := r; exact ⟨a, xs, h1, e.h _ _ h2, e.gnone h2 h3, h4.mono e.g⟩
  | ob rows cl =>
    obtain ⟨C, a, dx, r, c, xs, ys, h0, h1, h2, h3, h4, h5, h6, h7, h8, h9, h10⟩ := r
    exact ⟨C, a, dx, r, c, xs, ys, h0, h1, e.h _ _ h2, e.h _ _ h3, e.h _ _ h4, e.gnone h2 h5, e.gnone h3 h6, e.gnone h4 h7, h8, h9.mono e.g, h10.mono e.g⟩
  | dp n d => obtain ⟨a, xs, ds, h1, h2, h3, h4⟩ := r; exact ⟨a, xs, ds, h1, h2, e.h _ _ h3, h4⟩
theorem EvRel.ext {K : PySem.W.Frag} {S : List SV} {σ : L2.St} {G H G' H' : Hp} (R : EvRel K S σ G H) (e : Ext G H G' H') : EvRel K S σ G' H' :=
  ⟨e.sub, R.len, fun i sv h => (R.sl i sv h).ext e⟩

/-! ### what is wanted of an expression -/
section
variable (K : PySem.W.Frag) (cl : Str → Value) (W : WX)
def Kx (σ : L2.St) (G H : Hp) (r : Res (D × Kd)) (Q : VK) : Prop := match r with
  | .ok r => ∀ v G' H', Ext G H G' H' → VR K H G' H' v r.1 r.2 → Q v H'
  | .exc c => ∀ G' H', Ext G H G' H' → W (cl c) none σ H'
  | .stuck => False
def rd (m : ME) : TE := fun σ H Q => ∃ S G, EvRel K S σ G H ∧ Kx K cl W σ G H (evE m S) Q
def Kt (σ : L2.St) (G H : Hp) (r : Res (D × Kd)) (Q : Bool → Hp → Prop) : Prop := match r with
  | .ok (.bl b, _) => ∀ G' H', Ext G H G' H' → Q b H'
  | .ok _ => False
  | .exc c => ∀ G' H', Ext G H G' H' → W (cl c) none σ H'
  | .stuck => False
def rdT (m : ME) : TT := fun σ H Q => ∃ S G, EvRel K S σ G H ∧ Kt cl W σ G H (evE m S) Q
def VRs (Hs G H : Hp) : List V → List (D × Kd) → Prop
  | [], [] => True
  | v :: vs, r :: rs => VR K Hs G H v r.1 r.2 ∧ VRs Hs G H vs rs
  | _, _ => False
def Ka (σ : L2.St) (G H : Hp) (r : Res (List (D × Kd))) (Q : List V → Hp → Prop) : Prop := match r with
  | .ok rs => ∀ vs G' H', Ext G H G' H' → VRs K H G' H' vs rs → Q vs H'
  | .exc c => ∀ G' H', Ext G H G' H' → W (cl c) none σ H'
  | .stuck => False
def rdA (ms : List ME) : TA := fun σ H Q => ∃ S G, EvRel K S σ G H ∧ Ka K cl W σ G H (evEs ms S) Q
end
section
variable {K : PySem.W.Frag} {cl : Str → Value} {W : WX} {σ : L2.St} {S : List SV} {G H G1 H1 : Hp}
theorem Kx.ext {r : Res (D × Kd)} {Q : VK} (h : Kx K cl W σ G H r Q) (e : Ext G H G1 H1) : Kx K cl W σ G1 H1 r Q := by
  cases r with
  | ok r => exact fun v G' H' e' x => h v G' H' (e.trans e') (x.old e.h)
  | exc c => exact fun G' H' e' => h G' H' (e.trans e')
  | stuck => exact h
theorem Kt.ext {r : Res (D × Kd)} {Q : Bool → Hp → Prop} (h : Kt cl W σ G H r Q) (e : Ext G H G1 H1) : Kt cl W σ G1 H1 r Q := by
  cases r with
  | ok r =>
    obtain ⟨d, k⟩ := r
    cases d with
    | bl b => exact fun G' H' e' => h G' H' (e.trans e')
    | _ => exact h
  | exc c => exact fun G' H' e' => h G' H' (e.trans e')
  | stuck => exact h
theorem VRs.ext {Hs : Hp} : ∀ {vs : List V} {rs : List (D × Kd)}, VRs K Hs G H vs rs → Ext G H G1 H1 → VRs K Hs G1 H1 vs rs
  | [], [], _, _ => trivial
  | _ :: _, _ :: _, h, e => ⟨h.1.ext e, VRs.ext h.2 e⟩
  | [], _ :: _, h, _ => h
  | _ :: _, [], h, _ => h
theorem VRs.old {Hs Hs' : Hp} (s : Same Hs' Hs) : ∀ {vs : List V} {rs : List (D × Kd)}, VRs K Hs G H vs rs → VRs K Hs' G H vs rs
  | [], [], _ => trivial
  | _ :: _, _ :: _, h => ⟨h.1.old s, VRs.old s h.2⟩
  | [], _ :: _, h => h
  | _ :: _, [], h => h
theorem Ka.ext {r : Res (List (D × Kd))} {Q : List V → Hp → Prop} (h : Ka K cl W σ G H r Q) (e : Ext G H G1 H1) : Ka K cl W σ G1 H1 r Q := by
  cases r with
  | ok r => exact fun v G' H' e' x => h v G' H' (e.trans e') (x.old e.h)
  | exc c => exact fun G' H' e' => h G' H' (e.trans e')
  | stuck => exact h
/-- one part first -/
theorem rd_bind {a : ME} {f : D × Kd → Res (D × Kd)} {Q Q' : VK} (R : EvRel K S σ G H) (h : Kx K cl W σ G H ((evE a S).bind f) Q)
    (hk : ∀ d k v G1 H1, evE a S = .ok (d, k) → Ext G H G1 H1 → VR K H G1 H1 v d k → EvRel K S σ G1 H1 → Kx K cl W σ G1 H1 (f (d, k)) Q → Q' v H1) : rd K cl W a σ H Q' := by
  refine ⟨S, G, R, ?_⟩
  cases e : evE a S with
  | ok r =>
    rw [e] at h
    obtain ⟨d, k⟩ := r
    exact fun v G1 H1 E x => hk d k v G1 H1 e E x (R.ext E) (Kx.ext h E)
  | exc c => rw [e] at h; exact h
  | stuck => rw [e] at h; exact h
theorem rd_bindT {a : ME} {f : D × Kd → Res (D × Kd)} {Q : Bool → Hp → Prop} {Q' : VK} (R : EvRel K S σ G H) (h : Kt cl W σ G H ((evE a S).bind f) Q)
    (hk : ∀ d k v G1 H1, evE a S = .ok (d, k) → Ext G H G1 H1 → VR K H G1 H1 v d k → EvRel K S σ G1 H1 → Kt cl W σ G1 H1 (f (d, k)) Q → Q' v H1) : rd K cl W a σ H Q' := by
  refine ⟨S, G, R, ?_⟩
  cases e : evE a S with
  | ok r =>
    rw [e] at h
    obtain ⟨d, k⟩ := r
    exact fun v G1 H1 E x => hk d k v G1 H1 e E x (R.ext E) (Kt.ext h E)
  | exc c => rw [e] at h; exact h
  | stuck => rw [e] at h; exact h
/-- a test first -/
theorem rdT_bind {a : ME} {f : D × Kd → Res (D × Kd)} {Q : VK} {Q' : Bool → Hp → Prop} (R : EvRel K S σ G H) (h : Kx K cl W σ G H ((evE a S).bind f) Q) (hf : ∀ d k, (∀ b, d ≠ .bl b) → f (d, k) = .stuck)
    (hk : ∀ b k G1 H1, evE a S = .ok (.bl b, k) → Ext G H G1 H1 → EvRel K S σ G1 H1 → Kx K cl W σ G1 H1 (f (.bl b, k)) Q → Q' b H1) : rdT K cl W a σ H Q' := by
  refine ⟨S, G, R, ?_⟩
  cases e : evE a S with
  | ok r =>
    rw [e] at h
    obtain ⟨d, k⟩ := r
    have no : (∀ b, d ≠ .bl b) → False := fun z => by
      have h' : Kx K cl W σ G H (f (d, k)) Q := h
      rw [hf d k z] at h'
      exact h'
    cases d with
    | bl b => exact fun G1 H1 E => hk b k G1 H1 e E (R.ext E) (Kx.ext h E)
    | non => exact (no fun b q => by cases q).elim
    | int => exact (no fun b q => by cases q).elim
    | str => exact (no fun b q => by cases q).elim
    | tup => exact (no fun b q => by cases q).elim
    | lst => exact (no fun b q => by cases q).elim
    | scr => exact (no fun b q => by cases q).elim
    | ob => exact (no fun b q => by cases q).elim
  | exc c => rw [e] at h; exact h
  | stuck => rw [e] at h; exact h
theorem rdT_bindT {a : ME} {f : D × Kd → Res (D × Kd)} {Q : Bool → Hp → Prop} {Q' : Bool → Hp → Prop} (R : EvRel K S σ G H) (h : Kt cl W σ G H ((evE a S).bind f) Q) (hf : ∀ d k, (∀ b, d ≠ .bl b) → f (d, k) = .stuck)
    (hk : ∀ b k G1 H1, evE a S = .ok (.bl b, k) → Ext G H G1 H1 → EvRel K S σ G1 H1 → Kt cl W σ G1 H1 (f (.bl b, k)) Q → Q' b H1) : rdT K cl W a σ H Q' := by
  refine ⟨S, G, R, ?_⟩
  cases e : evE a S with
  | ok r =>
    rw [e] at h
    obtain ⟨d, k⟩ := r
    have no : (∀ b, d ≠ .bl b) → False := fun z => by
      have h' : Kt cl W σ G H (f (d, k)) Q := h
      rw [hf d k z] at h'
      exact h'
    cases d with
    | bl b => exact fun G1 H1 E => hk b k G1 H1 e E (R.ext E) (Kt.ext h E)
    | non => exact (no fun b q => by cases q).elim
    | int => exact (no fun b q => by cases q).elim
    | str => exact (no fun b q => by cases q).elim
    | tup => exact (no fun b q => by cases q).elim
    | lst => exact (no fun b q => by cases q).elim
    | scr => exact (no fun b q => by cases q).elim
    | ob => exact (no fun b q => by cases q).elim
  | exc c => rw [e] at h; exact h
  | stuck => rw [e] at h; exact h
/-- arguments first -/
theorem rdA_bind {as : List ME} {f : List (D × Kd) → Res (D × Kd)} {Q : VK} {Q' : List V → Hp → Prop} (R : EvRel K S σ G H) (h : Kx K cl W σ G H ((evEs as S).bind f) Q)
    (hk : ∀ rs vs G1 H1, evEs as S = .ok rs → Ext G H G1 H1 → VRs K H G1 H1 vs rs → EvRel K S σ G1 H1 → Kx K cl W σ G H (f rs) Q → Q' vs H1) : rdA K cl W as σ H Q' := by
  refine ⟨S, G, R, ?_⟩
  cases e : evEs as S with
  | ok r =>
    rw [e] at h
    exact fun v G1 H1 E x => hk r v G1 H1 e E x (R.ext E) h
  | exc c => rw [e] at h; exact h
  | stuck => rw [e] at h; exact h
/-- the end: a plain value at once -/
theorem Kx.fin {d : D} {Q : VK} (h : Kx K cl W σ G H (.ok (d, .sh)) Q) (s : Same G H) {v : V} (r : Rep K G v d) : Q v H := h v G H (Ext.refl s) r
theorem Kx.new {d : D} {Q : VK} {k : Kd} (h : Kx K cl W σ G H (.ok (d, k)) Q) {v : V} {G' H' : Hp} (e : Ext G H G' H') (r : VR K H G' H' v d k) : Q v H' := h v G' H' e r
end
/-- weaken a reading -/
theorem pe_imp {X : Cx} {e : Expr} {t t' : TE} (h : PE X e t) (i : ∀ σ H Q, t' σ H Q → t σ H Q) : PE X e t' := ⟨fun pins s σ H Q I q => h.run pins s σ H Q I (i σ H Q q)⟩
theorem pt_imp {X : Cx} {e : Expr} {t t' : TT} (h : PT X e t) (i : ∀ σ H Q, t' σ H Q → t σ H Q) : PT X e t' := ⟨fun pins s σ H Q I q => h.run pins s σ H Q I (i σ H Q q)⟩
theorem pw_imp {X : Cx} {e : Expr} {t t' : TT} (h : PW X e t) (i : ∀ σ H Q, t' σ H Q → t σ H Q) : PW X e t' := ⟨fun w pins s σ H Q I q => h.run w pins s σ H Q I (i σ H Q q)⟩
theorem pa_imp {X : Cx} {e : List Expr} {t t' : TA} (h : PA X e t) (i : ∀ σ H Q, t' σ H Q → t σ H Q) : PA X e t' := ⟨fun pos pins s σ H Q I q => h.run pos pins s σ H Q I (i σ H Q q)⟩

end MP
set_option Elab.async false
set_option linter.all false
set_option maxRecDepth 100000
set_option maxHeartbeats 4000000
namespace MP
open PySem PySem.Spec PyProof.Rows L2

def opOf : BOp → Operator
  | .add => .Add | .sub => .Sub | .mul => .Mult | .fdiv => .FloorDiv | .mod => .Mod | .pow => .Pow
def cmpOf : COp → CmpOp
  | .eq => .Eq | .ne => .NotEq | .lt => .Lt | .le => .LtE | .gt => .Gt | .ge => .GtE | .ni => .NotIn

section
variable {X : Cx} {cl : Str → Value} {W : WX} {σ0 : L2.St}
theorem szl : sizeLine = 16777216 := sizeLine_eq
theorem op_fdivNW : OpR X (binaryOp .FloorDiv) (rI (fun _ j => j ≠ 0 ∧ j.natAbs.log2 < 9000) fun i j => .int (i.fdiv j)) := opI fun _ _ _ _ _ _ _ hc q => floordiv_int hc.1 q (.inl (PyProof.noPylong_of_log2 hc.2))
/-- a text times a number -/
theorem mul_ok {x : Str} {n : Int} (h : 0 ≤ n ∧ n ≤ 1000 ∧ x.length ≤ 1000) : MulOk x n := by
  obtain ⟨h1, h2, h3⟩ := h
  refine ⟨by rw [Bool.or_eq_false_iff, decide_eq_false_iff_not, decide_eq_false_iff_not]; omega, fun a _ b => ?_, fun a _ => ?_⟩
  · have h4 : (x.length : Int) * n ≤ 1000 * 1000 := Int.mul_le_mul (by omega) h2 h1 (by decide)
    have h5 : (x.length : Int) ≤ (2 ^ 63 - 1) / n := (Int.le_ediv_iff_mul_le (by omega)).mpr (by omega)
    omega
  · have h4 : x.length * n.toNat ≤ 1000 * 1000 := Nat.mul_le_mul h3 (by omega)
    unfold Builtin.Str.tooLong
    rw [decide_eq_false_iff_not, szl]
    omega
theorem op_mulS : OpR X (binaryOp .Mult) (fun x y H Q => ∃ z n, x = .str z ∧ y = .int n ∧ (0 ≤ n ∧ n ≤ 1000 ∧ z.length ≤ 1000) ∧ Q (.str (Txt.mul z n)) H) := by
  intro pins s σ H x y v u Q I rx ry h
  obtain ⟨z, n, rfl, rfl, hz, q⟩ := h
  obtain ⟨t, rfl⟩ := rx
  obtain ⟨t', rfl⟩ := ry
  exact SB.mul (mul_ok hz) fun t' k => ⟨.str (Txt.mul z n), H, I.tok _, ⟨_, rfl⟩, q⟩
/-- what an operation on two values asks -/
def rBin (K : PySem.W.Frag) (cl : Str → Value) (W : WX) (σ0 : L2.St) (f : D → D → Res (D × Kd)) : R2 := fun x y H Q => ∃ d1 k1 d2 k2 Hs G, Same G H ∧ VR K Hs G H x d1 k1 ∧ VR K Hs G H y d2 k2 ∧ Kx K cl W σ0 G H (f d1 d2) Q
theorem op_bin (o : BOp) : OpR X (binaryOp (opOf o)) (rBin X.K cl W σ0 (evBin o)) := by
  intro pins s σ H x y v u Q I rx ry h
  obtain ⟨d1, k1, d2, k2, Hs, G, sm, r1, r2, h⟩ := h
  cases o with
  | add =>
    cases d1 <;> cases d2 <;> try exact False.elim h
    · rename_i i j
      obtain rfl := r1.int
      obtain rfl := r2.int
      exact op_add pins s σ H _ _ v u Q I rx ry ⟨i, j, rfl, rfl, h.fin sm (.int _)⟩
    · rename_i i j
      obtain rfl := r1.str
      obtain rfl := r2.str
      simp only [evBin] at h
      split at h
      · rename_i hz
        exact op_add_str pins s σ H _ _ v u Q I rx ry ⟨i, j, rfl, rfl, by rw [szl]; exact hz, h.fin sm (.str _)⟩
      · exact False.elim h
    · rename_i i j
      obtain ⟨p, xs, rfl, t1, q1⟩ := r1.tup
      obtain ⟨p', ys, rfl, t2, q2⟩ := r2.tup
      simp only [evBin] at h
      split at h
      · rename_i hz
        refine op_catA pins s σ H _ _ v u Q I rx ry ⟨p, p', xs, ys, rfl, rfl, seqT sm t1, seqT sm t2, by rw [szl, q1.len, q2.len]; exact hz, fun e => ?_, fun _ e => ?_, fun _ _ t ht => ?_⟩
        · refine h.fin sm (.tup t2 ?_)
          subst e
          cases q1
          exact q2
        · refine h.fin sm (.tup t1 ?_)
          subst e
          cases q2
          rw [List.append_nil]
          exact q1
        · exact h.new (Ext.newG sm ht) (show Rep _ _ _ _ from .tup (SqT.of upd_same) ((q1.app q2).mono (same_upd (sm.free ht) _)))
      · exact False.elim h
    · rename_i i j
      obtain ⟨p, xs, rfl, t1, q1⟩ := r1.list sm
      obtain ⟨p', ys, rfl, t2, q2⟩ := r2.list sm
      simp only [evBin] at h
      split at h
      · rename_i hz
        refine op_cat pins s σ H _ _ v u Q I rx ry ⟨p, p', xs, ys, rfl, rfl, t1, t2, by rw [szl, q1.len, q2.len]; exact hz, fun t ht => ?_⟩
        exact h.new (Ext.newH sm ht) (.inl ⟨t, _, _, rfl, rfl, ht, upd_same, sm.free ht, q1.app q2⟩)
      · exact False.elim h
  | sub =>
    cases d1 <;> cases d2 <;> try exact False.elim h
    rename_i i j
    obtain rfl := r1.int
    obtain rfl := r2.int
    exact op_sub pins s σ H _ _ v u Q I rx ry ⟨i, j, rfl, rfl, h.fin sm (.int _)⟩
  | mul =>
    cases d1 <;> cases d2 <;> try exact False.elim h
    · rename_i i j
      obtain rfl := r1.int
      obtain rfl := r2.int
      simp only [evBin] at h
      split at h
      · rename_i hz
        rcases hz with hz | hz
        · exact op_mulW pins s σ H _ _ v u Q I rx ry ⟨i, j, rfl, rfl, hz, h.fin sm (.int _)⟩
        · exact op_mul pins s σ H _ _ v u Q I rx ry ⟨i, j, rfl, rfl, .inr (by omega), h.fin sm (.int _)⟩
      · exact False.elim h
    · rename_i i j
      obtain rfl := r1.str
      obtain rfl := r2.int
      simp only [evBin] at h
      split at h
      · rename_i hz
        exact op_mulS pins s σ H _ _ v u Q I rx ry ⟨i, j, rfl, rfl, hz, h.fin sm (.str _)⟩
      · exact False.elim h
  | fdiv =>
    cases d1 <;> cases d2 <;> try exact False.elim h
    rename_i i j
    obtain rfl := r1.int
    obtain rfl := r2.int
    simp only [evBin] at h
    split at h
    · rename_i hz
      exact op_fdivNW pins s σ H _ _ v u Q I rx ry ⟨i, j, rfl, rfl, hz, h.fin sm (.int _)⟩
    · exact False.elim h
  | mod =>
    cases d1 <;> cases d2 <;> try exact False.elim h
    rename_i i j
    obtain rfl := r1.int
    obtain rfl := r2.int
    simp only [evBin] at h
    split at h
    · rename_i hz
      exact op_modN pins s σ H _ _ v u Q I rx ry ⟨i, j, rfl, rfl, hz, h.fin sm (.int _)⟩
    · exact False.elim h
  | pow =>
    cases d1 <;> cases d2 <;> try exact False.elim h
    rename_i i j
    obtain rfl := r1.int
    obtain rfl := r2.int
    simp only [evBin] at h
    split at h
    · rename_i hz
      exact op_pow pins s σ H _ _ v u Q I rx ry ⟨i, j, rfl, rfl, ⟨hz.1, by omega, hz.2.2⟩, h.fin sm (.int _)⟩
    · exact False.elim h

theorem deep_depth : ∀ n : Nat, (deepPy n).depth = n
  | 0 => rfl
  | n + 1 => by
    show max (deepPy n).depth 0 + 1 = n + 1
    rw [deep_depth n, Nat.max_eq_left (Nat.zero_le _)]
mutual
theorem Rep.dp {K : PySem.W.Frag} {G : Hp} : ∀ {v : V} {d : D}, Rep K G v d → (toPy d).depth ≤ 64 → Dp K G v (toPy d)
  | _, _, .non, _ => .non
  | _, _, .bl b, _ => .bl b
  | _, _, .int i, _ => .int i
  | _, _, .str i, _ => .str i
  | _, _, .tup (ds := ds) h r, z => by
    show Dp K G _ (.tuple (toPys _))
    exact .tup h (RepL.dp r (by have z : PyData.depthAll (toPys ds) + 1 ≤ 64 := z; omega))
  | _, _, .lst (ds := ds) h r, z => by
    show Dp K G _ (.list (toPys _))
    exact .lst (SqL.of h) (RepL.dp r (by have z : PyData.depthAll (toPys ds) + 1 ≤ 64 := z; omega))
  | _, _, .scr (ns := ns) h, z => by
    show Dp K G _ (.list (ns.map PyData.int))
    refine .lst h ?_
    clear h z
    induction ns with
    | nil => exact .nil
    | cons n ns ih => exact .cons (.int n) ih
  | _, _, .ob _ _ _ _ _ _, z => by
    exfalso
    have z : (deepPy 65).depth ≤ 64 := z
    rw [deep_depth] at z
    omega
theorem RepL.dp {K : PySem.W.Frag} {G : Hp} : ∀ {v : List V} {d : List D}, RepL K G v d → PyData.depthAll (toPys d) ≤ 64 → DpAll K G v (toPys d)
  | _, _, .nil, _ => .nil
  | _, _, .cons (d := d) (ds := ds) h r, z => by
    have z : max (toPy d).depth (PyData.depthAll (toPys ds)) ≤ 64 := z
    exact .cons (Rep.dp h (by omega)) (RepL.dp r (by omega))
end
theorem VR.dp {K : PySem.W.Frag} {Hs G H : Hp} {v : V} {d : D} {k : Kd} (s : Same G H) (h : VR K Hs G H v d k) (z : (toPy d).depth ≤ 64) : Dp K H v (toPy d) := by
  cases k with
  | sh => exact Rep.dp (Rep.mono s h) z
  | fr =>
    rcases h with ⟨p, xs, ds, rfl, rfl, h0, h1, h2, r⟩ | h
    · exact .lst (SqL.of h1) (RepL.dp (r.mono s) (by have z : PyData.depthAll (toPys ds) + 1 ≤ 64 := z; omega))
    · exact Rep.dp (Rep.mono s h.rep) z
  | bo =>
    obtain ⟨p, xs, ds, rfl, rfl, h1, h2, r⟩ := h
    exact .lst (SqL.of h1) (RepL.dp (r.mono s) (by have z : PyData.depthAll (toPys ds) + 1 ≤ 64 := z; omega))
theorem shaped_depth {d : PyData} (h : SeqAt.shaped d = true) : d.depth ≤ 64 := by
  unfold SeqAt.shaped at h
  rw [Bool.and_eq_true, decide_eq_true_eq] at h
  exact h.2
theorem op_cmp (hu : X.A.units + 64 < cLine) (o : COp) : OpR X (compareOp (cmpOf o)) (rBin X.K cl W σ0 (evCmp o)) := by
  intro pins s σ H x y v u Q I rx ry h
  obtain ⟨d1, k1, d2, k2, Hs, G, sm, r1, r2, h⟩ := h
  have twoI : ∀ {i j : Int} {b : Bool}, d1 = .int i → d2 = .int j → Kx X.K cl W σ0 G H (.ok (.bl b, .sh)) Q → x = .int i ∧ y = .int j ∧ Q (.bl b) H := fun {i j b} e1 e2 q => by
    subst e1 e2
    exact ⟨r1.int, r2.int, q.fin sm (.bl _)⟩
  cases o with
  | eq =>
    simp only [evCmp] at h
    split at h
    · rename_i hz
      exact op_eqD hu pins s σ H x y v u Q I rx ry ⟨_, _, r1.dp sm (shaped_depth hz.1), r2.dp sm (shaped_depth hz.2), hz.1, hz.2, h.fin sm (.bl _)⟩
    · exact False.elim h
  | ne =>
    simp only [evCmp] at h
    split at h
    · rename_i hz
      exact op_neD hu pins s σ H x y v u Q I rx ry ⟨_, _, r1.dp sm (shaped_depth hz.1), r2.dp sm (shaped_depth hz.2), hz.1, hz.2, h.fin sm (.bl _)⟩
    · exact False.elim h
  | lt =>
    cases d1 <;> cases d2 <;> try exact False.elim h
    · obtain ⟨e1, e2, q⟩ := twoI rfl rfl h
      exact op_lt pins s σ H x y v u Q I rx ry ⟨_, _, e1, e2, q⟩
    · rename_i xs ys
      simp only [evCmp] at h
      split at h
      · rename_i hz
        obtain ⟨as, q1⟩ := Dp.reads I _ x v (r1.dp sm hz.2.1) rx
        obtain ⟨bs, q2⟩ := Dp.reads I _ y u (r2.dp sm hz.2.2) ry
        exact PySem.W.rcLt_alike _ _ _ _ _ _ _ _ q1 q2 hz.1 (fun z => by cases z) (by omega) _ _ _ _ ⟨.bl _, H, I, rfl, h.fin sm (.bl _)⟩
      · exact False.elim h
  | le =>
    cases d1 <;> cases d2 <;> try exact False.elim h
    obtain ⟨e1, e2, q⟩ := twoI rfl rfl h
    exact op_le pins s σ H x y v u Q I rx ry ⟨_, _, e1, e2, q⟩
  | gt =>
    cases d1 <;> cases d2 <;> try exact False.elim h
    obtain ⟨e1, e2, q⟩ := twoI rfl rfl h
    exact op_gt pins s σ H x y v u Q I rx ry ⟨_, _, e1, e2, q⟩
  | ge =>
    cases d1 <;> cases d2 <;> try exact False.elim h
    obtain ⟨e1, e2, q⟩ := twoI rfl rfl h
    exact op_ge pins s σ H x y v u Q I rx ry ⟨_, _, e1, e2, q⟩
  | ni =>
    cases d1 <;> cases d2 <;> try exact False.elim h
    rename_i a b
    simp only [evCmp] at h
    split at h
    · rename_i c hc
      obtain rfl := r1.str
      obtain rfl := r2.str
      have ea : a = ⟨#[c]⟩ := by
        cases a with
        | mk l =>
          have hc : l.toList = [c] := hc
          congr 1
          exact Array.toList_inj.mp (by rw [hc])
      subst ea
      exact op_notIn_sign pins s σ H _ _ v u Q I rx ry ⟨c, b, rfl, rfl, h.fin sm (.bl _)⟩
    · exact False.elim h

theorem atI_ix {α : Type} {xs : List α} {i : Int} {d : α} (h : atI xs i = some d) : ∃ j, ixN xs.length i = some j ∧ xs[j]? = some d := by
  unfold atI at h
  cases e : ixN xs.length i with
  | none => rw [e] at h; cases h
  | some j => rw [e] at h; exact ⟨j, rfl, h⟩
theorem atI_of_ix {α : Type} {xs : List α} {i : Int} {d : α} {j : Nat} (h : ixN xs.length i = some j) (h2 : xs[j]? = some d) : atI xs i = some d := by
  unfold atI
  rw [h]
  exact h2
theorem RepL.atI {K : PySem.W.Frag} {G : Hp} {xs : List V} {ds : List D} {i : Int} {d : D} (r : RepL K G xs ds) (h : L2.atI ds i = some d) : ∃ v, L2.atI xs i = some v ∧ Rep K G v d := by
  obtain ⟨j, h1, h2⟩ := atI_ix h
  obtain ⟨v, h3, h4⟩ := r.get h2
  exact ⟨v, atI_of_ix (by rw [r.len]; exact h1) h3, h4⟩
theorem ix_any : IxR X (rBin X.K cl W σ0 evSub) := by
  intro value slice pins s σ H x y v u Q I rx ry h hs
  obtain ⟨d1, k1, d2, k2, Hs, G, sm, r1, r2, h⟩ := h
  cases d1 <;> cases d2 <;> try exact False.elim h
  · rename_i z i
    obtain rfl := r1.str
    obtain rfl := r2.int
    simp only [evSub] at h
    split at h
    · rename_i hz
      split at h
      · rename_i c hc
        exact ix_str value slice pins s σ H _ _ v u Q I rx ry ⟨z, i, c, rfl, rfl, by rw [szl]; exact hz, hc, h.fin sm (.str _)⟩ hs
      · exact False.elim h
    · exact False.elim h
  · rename_i ds i
    obtain ⟨p, xs, rfl, t1, q1⟩ := r1.tup
    obtain rfl := r2.int
    simp only [evSub] at h
    split at h
    · rename_i d hd
      obtain ⟨w, h1, h2⟩ := q1.atI hd
      exact ix_tup value slice pins s σ H _ _ v u Q I rx ry ⟨p, xs, i, w, rfl, rfl, seqT sm t1, h1, h.fin sm h2⟩ hs
    · exact False.elim h
  · rename_i ds i
    obtain ⟨p, xs, rfl, t1, q1⟩ := r1.list sm
    obtain rfl := r2.int
    simp only [evSub] at h
    split at h
    · rename_i d hd
      obtain ⟨w, h1, h2⟩ := q1.atI hd
      exact ix_list value slice pins s σ H _ _ v u Q I rx ry ⟨p, xs, i, w, rfl, rfl, SqL.of t1, h1, h.fin sm h2⟩ hs
    · exact False.elim h
  · rename_i ns i
    obtain ⟨p, rfl, t1⟩ := r1.scr
    obtain rfl := r2.int
    simp only [evSub] at h
    split at h
    · rename_i n hn
      obtain ⟨j, h1, h2⟩ := atI_ix hn
      exact ix_list value slice pins s σ H _ _ v u Q I rx ry ⟨p, ns.map V.int, i, .int n, rfl, rfl, sm.seq t1, atI_of_ix (by rw [List.length_map]; exact h1) (by rw [List.getElem?_map, h2]; rfl), h.fin sm (.int _)⟩ hs
    · exact False.elim h

theorem cutD_rep {K : PySem.W.Frag} {G : Hp} {xs : List V} {ds : List D} (r : RepL K G xs ds) (lo hi : Option Int) : RepL K G (cutV xs lo hi) (cutD ds lo hi) := by
  unfold cutV cutD
  rw [r.len]
  exact (r.drop _).take _
def rSl (K : PySem.W.Frag) (cl : Str → Value) (W : WX) (σ0 : L2.St) : V → Option Int → Option Int → Hp → VK → Prop := fun x lo hi H Q => ∃ d k Hs G, Same G H ∧ VR K Hs G H x d k ∧ Kx K cl W σ0 G H (evSl d lo hi) Q
theorem sl_any : SlR X (rSl X.K cl W σ0) := by
  intro pins s σ H x v vl vu lo hi sl Q I rx hs pl pu h
  obtain ⟨d, k, Hs, G, sm, r, h⟩ := h
  cases d <;> try exact False.elim h
  · rename_i z
    obtain rfl := r.str
    simp only [evSl] at h
    split at h
    · rename_i hz
      exact sl_str pins s σ H _ v vl vu lo hi sl Q I rx hs pl pu ⟨z, rfl, by rw [szl]; exact hz, h.fin sm (.str _)⟩
    · exact False.elim h
  · rename_i ds
    obtain ⟨p, xs, rfl, t1, q1⟩ := r.tup
    simp only [evSl] at h
    refine sl_tupA pins s σ H _ v vl vu lo hi sl Q I rx hs pl pu ⟨p, xs, rfl, seqT sm t1, fun e => ?_, fun _ t ht => ?_⟩
    · refine h.fin sm (.tup t1 ?_)
      have z := cutD_rep q1 lo hi
      have e2 : cutV xs lo hi = xs := by
        unfold cutV
        rw [e.1, e.2, List.drop_zero, Nat.sub_zero]
        exact List.take_length
      rw [e2] at z
      exact z
    · exact h.new (Ext.newG sm ht) (show Rep _ _ _ _ from .tup (SqT.of upd_same) ((cutD_rep q1 lo hi).mono (same_upd (sm.free ht) _)))
  · rename_i ds
    obtain ⟨p, xs, rfl, t1, q1⟩ := r.list sm
    simp only [evSl] at h
    refine sl_list pins s σ H _ v vl vu lo hi sl Q I rx hs pl pu ⟨p, xs, rfl, SqL.of t1, fun t ht => ?_⟩
    exact h.new (Ext.newH sm ht) (.inl ⟨t, _, _, rfl, rfl, ht, upd_same, sm.free ht, cutD_rep q1 lo hi⟩)
end
end MP
set_option Elab.async false
set_option linter.all false
set_option maxRecDepth 100000
set_option maxHeartbeats 4000000
namespace MP
open PySem PySem.Spec PyProof.Rows L2 RT

/-! ### built-in functions -/
section
variable {K : PySem.W.Frag} {Hs G H : Hp}
theorem VRs.one {vs : List V} {r : D × Kd} (h : VRs K Hs G H vs [r]) : ∃ v, vs = [v] ∧ VR K Hs G H v r.1 r.2 := by
  cases vs with
  | nil => exact False.elim h
  | cons v vs =>
    cases vs with
    | nil => exact ⟨v, rfl, h.1⟩
    | cons w ws => exact False.elim h.2
theorem VRs.two {vs : List V} {r q : D × Kd} (h : VRs K Hs G H vs [r, q]) : ∃ v w, vs = [v, w] ∧ VR K Hs G H v r.1 r.2 ∧ VR K Hs G H w q.1 q.2 := by
  cases vs with
  | nil => exact False.elim h
  | cons v vs =>
    obtain ⟨w, e, z⟩ := VRs.one h.2
    subst e
    exact ⟨v, w, rfl, h.1, z⟩
theorem args_one {rs : List (D × Kd)} {d : D} (h : args1 rs = [d]) : ∃ k, rs = [(d, k)] := by
  match rs, h with
  | [(_, k)], rfl => exact ⟨k, rfl⟩
theorem args_two {rs : List (D × Kd)} {d e : D} (h : args1 rs = [d, e]) : ∃ k j, rs = [(d, k), (e, j)] := by
  match rs, h with
  | [(_, k), (_, j)], rfl => exact ⟨k, j, rfl⟩
end
def rArgs (K : PySem.W.Frag) (cl : Str → Value) (W : WX) (σ0 : L2.St) (f : List D → Res (D × Kd)) : List V → Hp → VK → Prop := fun vs H Q => ∃ rs Hs G, Same G H ∧ VRs K Hs G H vs rs ∧ Kx K cl W σ0 G H (f (args1 rs)) Q
section
variable {X : Cx} {cl : Str → Value} {W : WX} {σ0 : L2.St}
theorem VR.seq {K : PySem.W.Frag} {Hs G H : Hp} {v : V} {d : D} {k : Kd} {ds : List D} (s : Same G H) (hd : d = .tup ds ∨ d = .lst ds) (h : VR K Hs G H v d k) : ∃ p xs, v = .ref p ∧ (SqL K H p xs ∨ SqT K H p xs) ∧ RepL K G xs ds := by
  rcases hd with rfl | rfl
  · obtain ⟨p, xs, e, t, q⟩ := h.tup
    exact ⟨p, xs, e, .inr (seqT s t), q⟩
  · obtain ⟨p, xs, e, t, q⟩ := h.list s
    exact ⟨p, xs, e, .inl (SqL.of t), q⟩
theorem b_len : CallR X (.builtin "len") (rArgs X.K cl W σ0 (evBlt .len)) := by
  intro pins s σ H vs us Q I r h
  obtain ⟨rs, Hs, G, sm, vr, h⟩ := h
  match rs, vr, h with
  | [(.tup ds, k)], vr, h =>
    obtain ⟨v, rfl, q⟩ := vr.one
    obtain ⟨p, xs, rfl, t, z⟩ := VR.seq sm (.inl rfl) q
    exact call_len_seq pins s σ H _ us Q I r ⟨p, xs, rfl, t, by rw [z.len]; exact Kx.fin h sm (.int _)⟩
  | [(.lst ds, k)], vr, h =>
    obtain ⟨v, rfl, q⟩ := vr.one
    obtain ⟨p, xs, rfl, t, z⟩ := VR.seq sm (.inr rfl) q
    exact call_len_seq pins s σ H _ us Q I r ⟨p, xs, rfl, t, by rw [z.len]; exact Kx.fin h sm (.int _)⟩
  | [(.scr ns, k)], vr, h =>
    obtain ⟨v, rfl, q⟩ := vr.one
    obtain ⟨p, rfl, t⟩ := VR.scr q
    exact call_len_seq pins s σ H _ us Q I r ⟨p, _, rfl, .inl (sm.seq t), by rw [List.length_map]; exact Kx.fin h sm (.int _)⟩
  | [(.str z, k)], vr, h =>
    obtain ⟨v, rfl, q⟩ := vr.one
    obtain rfl := VR.str q
    simp only [args1, List.map, evBlt] at h
    split at h
    · rename_i hz
      exact call_len_str pins s σ H _ us Q I r ⟨z, rfl, by rw [szl]; exact hz, h.fin sm (.int _)⟩
    · exact False.elim h
  | [(.ob _ _, k)], vr, h => exact False.elim h
  | [(.non, k)], vr, h => exact False.elim h
  | [(.bl _, k)], vr, h => exact False.elim h
  | [(.int _, k)], vr, h => exact False.elim h
  | [], vr, h => exact False.elim h
  | _ :: _ :: _, vr, h => exact False.elim (by simpa [args1, evBlt, Kx] using h)
theorem b_abs : CallR X (.builtin "abs") (rArgs X.K cl W σ0 (evBlt .abs)) := by
  intro pins s σ H vs us Q I r h
  obtain ⟨rs, Hs, G, sm, vr, h⟩ := h
  match rs, vr, h with
  | [(.int i, k)], vr, h =>
    obtain ⟨v, rfl, q⟩ := vr.one
    obtain rfl := VR.int q
    exact call_abs pins s σ H _ us Q I r ⟨i, rfl, Kx.fin h sm (.int _)⟩
  | [(.non, k)], vr, h => exact False.elim h
  | [(.bl _, k)], vr, h => exact False.elim h
  | [(.str _, k)], vr, h => exact False.elim h
  | [(.tup _, k)], vr, h => exact False.elim h
  | [(.lst _, k)], vr, h => exact False.elim h
  | [(.scr _, k)], vr, h => exact False.elim h
  | [(.ob _ _, k)], vr, h => exact False.elim h
  | [], vr, h => exact False.elim h
  | _ :: _ :: _, vr, h => exact False.elim (by simpa [args1, evBlt, Kx] using h)
theorem b_list : CallR X (.type "list") (rArgs X.K cl W σ0 (evBlt .list)) := by
  intro pins s σ H vs us Q I r h
  obtain ⟨rs, Hs, G, sm, vr, h⟩ := h
  match rs, vr, h with
  | [(.tup ds, k)], vr, h =>
    obtain ⟨v, rfl, q⟩ := vr.one
    obtain ⟨p, xs, rfl, t, z⟩ := VR.seq sm (.inl rfl) q
    exact call_list_of pins s σ H _ us Q I r ⟨p, xs, rfl, t, fun l hl => Kx.new h (Ext.newH sm hl) (.inl ⟨l, _, _, rfl, rfl, hl, upd_same, sm.free hl, z⟩)⟩
  | [(.lst ds, k)], vr, h =>
    obtain ⟨v, rfl, q⟩ := vr.one
    obtain ⟨p, xs, rfl, t, z⟩ := VR.seq sm (.inr rfl) q
    exact call_list_of pins s σ H _ us Q I r ⟨p, xs, rfl, t, fun l hl => Kx.new h (Ext.newH sm hl) (.inl ⟨l, _, _, rfl, rfl, hl, upd_same, sm.free hl, z⟩)⟩
  | [(.non, k)], vr, h => exact False.elim h
  | [(.bl _, k)], vr, h => exact False.elim h
  | [(.int _, k)], vr, h => exact False.elim h
  | [(.str _, k)], vr, h => exact False.elim h
  | [(.scr _, k)], vr, h => exact False.elim h
  | [(.ob _ _, k)], vr, h => exact False.elim h
  | [], vr, h => exact False.elim h
  | _ :: _ :: _, vr, h => exact False.elim (by simpa [args1, evBlt, Kx] using h)
theorem b_tuple : CallR X (.type "tuple") (rArgs X.K cl W σ0 (evBlt .tuple)) := by
  intro pins s σ H vs us Q I r h
  obtain ⟨rs, Hs, G, sm, vr, h⟩ := h
  match rs, vr, h with
  | [(.tup ds, k)], vr, h =>
    obtain ⟨v, rfl, q⟩ := vr.one
    obtain ⟨p, xs, rfl, t, z⟩ := VR.tup q
    exact call_tuple_of pins s σ H _ us Q I r ⟨p, xs, rfl, .inr ⟨seqT sm t, Kx.fin h sm (.tup t z)⟩⟩
  | [(.lst ds, k)], vr, h =>
    obtain ⟨v, rfl, q⟩ := vr.one
    obtain ⟨p, xs, rfl, t, z⟩ := VR.list sm q
    exact call_tuple_of pins s σ H _ us Q I r ⟨p, xs, rfl, .inl ⟨SqL.of t, fun l hl => Kx.new h (Ext.newG sm hl) (show Rep _ _ _ _ from .tup (SqT.of upd_same) (z.mono (same_upd (sm.free hl) _)))⟩⟩
  | [(.non, k)], vr, h => exact False.elim h
  | [(.bl _, k)], vr, h => exact False.elim h
  | [(.int _, k)], vr, h => exact False.elim h
  | [(.str _, k)], vr, h => exact False.elim h
  | [(.scr _, k)], vr, h => exact False.elim h
  | [(.ob _ _, k)], vr, h => exact False.elim h
  | [], vr, h => exact False.elim h
  | _ :: _ :: _, vr, h => exact False.elim (by simpa [args1, evBlt, Kx] using h)
theorem b_str : CallR X (.type "str") (rArgs X.K cl W σ0 (evBlt .str)) := by
  intro pins s σ H vs us Q I r h
  obtain ⟨rs, Hs, G, sm, vr, h⟩ := h
  match rs, vr, h with
  | [(.int i, k)], vr, h =>
    obtain ⟨v, rfl, q⟩ := vr.one
    obtain rfl := VR.int q
    simp only [args1, List.map, evBlt] at h
    split at h
    · rename_i hz
      exact call_str_int pins s σ H _ us Q I r ⟨i, rfl, hz, h.fin sm (.str _)⟩
    · exact False.elim h
  | [(.non, k)], vr, h => exact False.elim h
  | [(.bl _, k)], vr, h => exact False.elim h
  | [(.str _, k)], vr, h => exact False.elim h
  | [(.tup _, k)], vr, h => exact False.elim h
  | [(.lst _, k)], vr, h => exact False.elim h
  | [(.scr _, k)], vr, h => exact False.elim h
  | [(.ob _ _, k)], vr, h => exact False.elim h
  | [], vr, h => exact False.elim h
  | _ :: _ :: _, vr, h => exact False.elim (by simpa [args1, evBlt, Kx] using h)
theorem b_int : CallR X (.type "int") (rArgs X.K cl W σ0 (evBlt .int)) := by
  intro pins s σ H vs us Q I r h
  obtain ⟨rs, Hs, G, sm, vr, h⟩ := h
  match rs, vr, h with
  | [(.int i, k)], vr, h =>
    obtain ⟨v, rfl, q⟩ := vr.one
    obtain rfl := VR.int q
    exact call_int1 pins s σ H _ us Q I r (.inl ⟨i, rfl, Kx.fin h sm (.int _)⟩)
  | [(.bl i, k)], vr, h =>
    obtain ⟨v, rfl, q⟩ := vr.one
    obtain rfl := VR.bl q
    exact call_int1 pins s σ H _ us Q I r (.inr ⟨i, rfl, Kx.fin h sm (.int _)⟩)
  | [(.non, k)], vr, h => exact False.elim h
  | [(.str z, k)], vr, h =>
    obtain ⟨v, rfl, q⟩ := vr.one
    obtain rfl := VR.str q
    simp only [args1, List.map, evBlt] at h
    split at h
    · rename_i hz
      split at h
      · rename_i m hm
        exact call_int_str pins s σ H _ us Q I r ⟨z, m, rfl, hm, hz, h.fin sm (.int _)⟩
      · exact False.elim h
    · exact False.elim h
  | [(.tup _, k)], vr, h => exact False.elim h
  | [(.lst _, k)], vr, h => exact False.elim h
  | [(.scr _, k)], vr, h => exact False.elim h
  | [(.ob _ _, k)], vr, h => exact False.elim h
  | [], vr, h => exact False.elim h
  | _ :: _ :: _, vr, h => exact False.elim (by simpa [args1, evBlt, Kx] using h)
theorem b_max (hc : X.calm = true) : CallR X (.builtin "max") (rArgs X.K cl W σ0 (evBlt .max)) := by
  intro pins s σ H vs us Q I r h
  obtain ⟨rs, Hs, G, sm, vr, h⟩ := h
  have key : ∃ i j, args1 rs = [.int i, .int j] := by
    generalize args1 rs = as at h
    match as, h with
    | [.int i, .int j], _ => exact ⟨i, j, rfl⟩
  obtain ⟨i, j, e⟩ := key
  obtain ⟨k1, k2, rfl⟩ := args_two e
  obtain ⟨v, w, rfl, q1, q2⟩ := vr.two
  obtain rfl := VR.int q1
  obtain rfl := VR.int q2
  exact call_max2 hc pins s σ H _ us Q I r ⟨i, j, rfl, Kx.fin h sm (.int _)⟩
theorem b_min (hc : X.calm = true) : CallR X (.builtin "min") (rArgs X.K cl W σ0 (evBlt .min)) := by
  intro pins s σ H vs us Q I r h
  obtain ⟨rs, Hs, G, sm, vr, h⟩ := h
  have key : ∃ i j, args1 rs = [.int i, .int j] := by
    generalize args1 rs = as at h
    match as, h with
    | [.int i, .int j], _ => exact ⟨i, j, rfl⟩
  obtain ⟨i, j, e⟩ := key
  obtain ⟨k1, k2, rfl⟩ := args_two e
  obtain ⟨v, w, rfl, q1, q2⟩ := vr.two
  obtain rfl := VR.int q1
  obtain rfl := VR.int q2
  exact call_min2 hc pins s σ H _ us Q I r ⟨i, j, rfl, Kx.fin h sm (.int _)⟩

/-! ### isinstance -/
def tyName : Ty → String
  | .int => "int" | .bool => "bool" | .tuple => "tuple" | .list => "list" | .str => "str"
def tyOfD : D → String
  | .non => "NoneType" | .bl _ => "bool" | .int _ => "int" | .str _ => "str" | .tup _ => "tuple" | .lst _ => "list" | .scr _ => "list" | .ob _ _ => "object"
theorem kit_all (d : D) (t : Ty) (hd : ∀ ns, d ≠ .scr ns) (ho : ∀ rows cl, d ≠ .ob rows cl) : kitB (tyOfD d) (tyName t) = some (evIsi d t) := by
  cases d <;> cases t <;> first
    | exact absurd rfl (hd _)
    | exact absurd rfl (ho _ _)
    | (simp only [tyOfD, tyName, evIsi]; decide +kernel)
theorem boot_bool' : bootBuiltins "bool" = some (.type "bool") := by decide +kernel
theorem tyx {K : PySem.W.Frag} {Hs G H : Hp} {v : V} {d : D} {k : Kd} (s : Same G H) (h : VR K Hs G H v d k) (hd : ∀ ns, d ≠ .scr ns) (ho : ∀ rows cl, d ≠ .ob rows cl) : TyX K H v (.type (tyOfD d)) := by
  cases d with
  | non =>
    have r := h.rep (by intro ds e; cases e)
    cases r
    exact .base .non
  | bl b => obtain rfl := h.bl; exact .base (.bl b)
  | int i => obtain rfl := h.int; exact .base (.int i)
  | str i => obtain rfl := h.str; exact .base (.str i)
  | tup ds =>
    obtain ⟨p, xs, rfl, t, _⟩ := h.tup
    rcases t with (t | ⟨o, t⟩) | ⟨o, its, n, h1, h2, _⟩
    · exact .base (.tup (s _ _ t))
    · exact .fTuple (s _ _ t)
    · exact .kTuple h1 h2
  | lst ds =>
    obtain ⟨p, xs, rfl, t, _⟩ := h.list s
    exact .base (.lst t)
  | scr ns => exact absurd rfl (hd ns)
  | ob rows cl => exact absurd rfl (ho rows cl)

/-! ### what is walked -/
def WalkOk (J : It) (G : Hp) (vs : List V) : Prop :=
  (∀ (i : Nat) (H : Hp), Same G H → i < vs.length → J.go i H) ∧ (∀ (i : Nat) (H : Hp), Same G H → vs.length ≤ i → J.stop i H) ∧
    ∀ (i : Nat) (H : Hp) (x : V) (H' : Hp), Same G H → i < vs.length → J.yld i H x H' → H' = H ∧ vs[i]? = some x
theorem WalkOk.mono {J : It} {G G' : Hp} {vs : List V} (w : WalkOk J G vs) (e : Same G G') : WalkOk J G' vs :=
  ⟨fun i H s => w.1 i H (e.trans s), fun i H s => w.2.1 i H (e.trans s), fun i H x H' s => w.2.2 i H x H' (e.trans s)⟩
theorem walk_list {K : PySem.W.Frag} {G : Hp} {a : Addr} {vs : List V} (h : G a = some (.lst vs)) : WalkOk (Itl K a) G vs :=
  ⟨fun i H s hi => ⟨vs, vs[i], SqL.of (s _ _ h), by simp [hi]⟩, fun i H s hi => ⟨vs, SqL.of (s _ _ h), hi⟩, fun i H x H' s hi y => ⟨y.1, y.2 vs (SqL.of (s _ _ h))⟩⟩
theorem walk_tup {K : PySem.W.Frag} {G : Hp} {a : Addr} {vs : List V} (h : SqT K G a vs) : WalkOk (Itt K a) G vs :=
  ⟨fun i H s hi => ⟨vs, vs[i], seqT s h, by simp [hi]⟩, fun i H s hi => ⟨vs, seqT s h, hi⟩, fun i H x H' s hi y => ⟨y.1, y.2 vs (seqT s h)⟩⟩
theorem walk_str {G : Hp} (x : Str) : WalkOk (Its x) G (x.cps.toList.map fun c => V.str ⟨#[c]⟩) :=
  ⟨fun i H s hi => by show i < x.cps.size; simpa using hi, fun i H s hi => by show x.cps.size ≤ i; simpa using hi, fun i H y H' s hi z => ⟨z.1, by
    obtain ⟨c, h1, h2⟩ := z.2
    rw [List.getElem?_map, Array.getElem?_toList, h1, h2]; rfl⟩⟩
theorem walk_rng {G : Hp} (lo : Int) (n : Nat) : WalkOk (Itr lo n) G ((List.range n).map fun (i : Nat) => V.int (lo + i)) :=
  ⟨fun i H s hi => by show i < n; simpa using hi, fun i H s hi => by show n ≤ i; simpa using hi, fun i H x H' s hi y => ⟨y.1, by
    have hi' : i < n := by simpa using hi
    have e := y.2
    subst e
    simp [hi']⟩⟩
theorem walk_rev {K : PySem.W.Frag} {G : Hp} {a : Addr} {vs : List V} (h : G a = some (.lst vs)) : WalkOk (Itv K a vs.length) G vs.reverse :=
  ⟨fun i H s hi => by
    rw [List.length_reverse] at hi
    exact ⟨hi, vs, vs[vs.length - 1 - i], SqL.of (s _ _ h), by rw [List.getElem?_eq_getElem]⟩, fun i H s hi => by rw [List.length_reverse] at hi; exact hi, fun i H x H' s hi y => ⟨y.1, by
    rw [List.length_reverse] at hi
    rw [List.getElem?_reverse hi]
    exact y.2 vs (SqL.of (s _ _ h))⟩⟩
theorem walk_revT {K : PySem.W.Frag} {G : Hp} {a : Addr} {vs : List V} (h : SqT K G a vs) : WalkOk (ItvT K a vs.length) G vs.reverse :=
  ⟨fun i H s hi => by
    rw [List.length_reverse] at hi
    exact ⟨hi, vs, vs[vs.length - 1 - i], seqT s h, by rw [List.getElem?_eq_getElem]⟩, fun i H s hi => by rw [List.length_reverse] at hi; exact hi, fun i H x H' s hi y => ⟨y.1, by
    rw [List.length_reverse] at hi
    rw [List.getElem?_reverse hi]
    exact y.2 vs (seqT s h)⟩⟩
theorem pi_any {tg l : Expr} {tl : TE} (hl : PE X l tl) : PI X tg l (fun σ H R => tl σ H fun x H1 => (∃ a, x = .ref a ∧ (((∃ xs, SqL X.K H1 a xs) ∧ R (Itl X.K a) H1) ∨ ((∃ xs, SqT X.K H1 a xs) ∧ R (Itt X.K a) H1))) ∨ ∃ z, x = .str z ∧ R (Its z) H1) := by
  refine ⟨fun pins s σ H R I h => ?_⟩
  refine thn (hl.run pins s σ H _ I h) fun v s1 ⟨x, H1, I1, r1, q1⟩ => ?_
  rcases q1 with q1 | ⟨z, e, q⟩
  rotate_left
  · subst e
    obtain ⟨t, rfl⟩ := r1
    cases ha : z.cps.all (· < 128)
    · exact wpAny_pyIter_wide ha (pi_one (tk := s1.toks) I1 _ (turn_str _ z t "str_iterator" (.inr rfl)) ⟨_, Heap.get?_push_size _ rfl, rfl, rfl⟩ q)
    · exact wpAny_pyIter_ascii ha (pi_one (tk := s1.toks) I1 _ (turn_str _ z t "str_ascii_iterator" (.inl rfl)) ⟨_, Heap.get?_push_size _ rfl, rfl, rfl⟩ q)
  obtain ⟨a, e, q⟩ := q1
  subst e
  cases r1
  rcases q with ⟨⟨xs, hq⟩, q⟩ | ⟨⟨xs, hq⟩, q⟩
  · obtain ⟨its, rv, p, hz⟩ := I1.list hq
    refine wpAny_pyIter_list p.isList ?_
    refine ⟨s1.heap.objs.size, [s1.heap.objs.size], _, _, H1, rfl, I1.kept (t' := s1.toks) fun b o e => Heap.get?_push_of_some _ e, turn_list a _, ⟨_, Heap.get?_push_size _ rfl, rfl, rfl⟩, fun b hb => ?_, q⟩
    have e : b = s1.heap.objs.size := by simpa using hb
    subst e
    exact I1.fpOk (Nat.le_refl _) (I1.hok.fresh (Nat.le_refl _))
  · obtain ⟨its, rv, p, hz⟩ := I1.tuple hq
    refine wpAny_pyIter_tuple (show s1.heap.IsTuple a its.toArray from p) ?_
    refine ⟨s1.heap.objs.size, [s1.heap.objs.size], _, _, H1, rfl, I1.kept (t' := s1.toks) fun b o e => Heap.get?_push_of_some _ e, turn_tuple a _, ⟨_, Heap.get?_push_size _ rfl, rfl, rfl⟩, fun b hb => ?_, q⟩
    have e : b = s1.heap.objs.size := by simpa using hb
    subst e
    exact I1.fpOk (Nat.le_refl _) (I1.hok.fresh (Nat.le_refl _))
end
end MP
set_option Elab.async false
set_option linter.all false
set_option maxRecDepth 100000
set_option maxHeartbeats 4000000
namespace MP
open PySem PySem.Spec PyProof.Rows L2 RT

/-! ### the text against the small syntax -/
def okName (x : Str) : Bool := !(x == ("__debug__" : Str)) && !(x == ("__classdict__" : Str))
def visE (N : List Str) (sc : Scope) (i : Nat) (x : Str) : Bool := decide (N[i]? = some x) && (decide (sc.names.lookup x = some .local) || decide (sc.names.lookup x = some .cell) || decide (sc.names.lookup x = some .free)) && okName x
def glE (sc : Scope) (x : Str) : Bool := decide (sc.names.lookup x = some .globalImplicit) && okName x
def bltName : Blt → Str
  | .len => "len" | .abs => "abs" | .list => "list" | .tuple => "tuple" | .str => "str" | .int => "int" | .max => "max" | .min => "min"
def locE (N : List Str) (sc : Scope) (i : Nat) (x : Str) : Bool := decide (N[i]? = some x) && (decide (sc.names.lookup x = some .local) || decide (sc.names.lookup x = some .cell)) && okName x
/-- a comprehension's own name -/
def ownE (N : List Str) (sc scope : Scope) (i : Nat) (x : Str) : Bool := locE N (relS scope sc) i x && (decide (scope.names.lookup x = some .cell) || decide ((relS scope sc).names.lookup x = some .local)) && blkC N sc scope [(x, i)]

/-- a def's own scope, not a comprehension's -/
def topSc (sc : Scope) : Bool := match sc.names.lookup (".0" : Str) with
  | none => true
  | some _ => false
mutual
def chkE (N : List Str) : ME → Scope → Expr → Bool
  | .loc i, sc, e => match e with
    | .Name x _ => visE N sc i x
    | _ => false
  | .glo x _, sc, e => match e with
    | .Name y _ => decide (x = y) && glE sc x
    | _ => false
  | .int i, _, e => match e with
    | .Constant (.int j) _ _ => decide (i = j)
    | _ => false
  | .bl i, _, e => match e with
    | .Constant (.bool j) _ _ => decide (i = j)
    | _ => false
  | .non, _, e => match e with
    | .Constant .none _ _ => true
    | _ => false
  | .str i, _, e => match e with
    | .Constant (.str j) _ _ => decide (i = j)
    | _ => false
  | .bin o a b, sc, e => match e with
    | .BinOp e op f _ => decide (op = opOf o) && chkE N a sc e && chkE N b sc f
    | _ => false
  | .neg a, sc, e => match e with
    | .UnaryOp .USub e _ => chkE N a sc e
    | _ => false
  | .cmp o a b, sc, e => match e with
    | .Compare e [op] [f] _ => decide (op = cmpOf o) && chkE N a sc e && chkE N b sc f
    | _ => false
  | .cmp2 o1 o2 a b c, sc, e => match e with
    | .Compare e [op1, op2] [f, g] _ => decide (op1 = cmpOf o1) && (decide (op2 = cmpOf o2) && (chkE N a sc e && (chkE N b sc f && chkE N c sc g)))
    | _ => false
  | .isN n a, sc, e => match e with
    | .Compare e [op] [.Constant .none _ _] _ => decide (op = if n then .IsNot else .Is) && chkE N a sc e
    | _ => false
  | .and a b, sc, e => match e with
    | .BoolOp .And [e, f] _ => chkE N a sc e && chkE N b sc f
    | .BoolOp .And (e :: f :: g :: r) p => chkE N a sc e && chkE N b sc (.BoolOp .And (f :: g :: r) p)
    | _ => false
  | .or a b, sc, e => match e with
    | .BoolOp .Or [e, f] _ => chkE N a sc e && chkE N b sc f
    | .BoolOp .Or (e :: f :: g :: r) p => chkE N a sc e && chkE N b sc (.BoolOp .Or (f :: g :: r) p)
    | _ => false
  | .not a, sc, e => match e with
    | .UnaryOp .Not e _ => chkE N a sc e
    | _ => false
  | .ife c a b, sc, e => match e with
    | .IfExp d e f _ => chkE N c sc d && chkE N a sc e && chkE N b sc f
    | _ => false
  | .sub a i, sc, e => match e with
    | .Subscript e f _ => chkE N a sc e && chkE N i sc f
    | _ => false
  | .slLo a i, sc, e => match e with
    | .Subscript e (.Slice (some f) none none _) _ => chkE N a sc e && chkE N i sc f
    | _ => false
  | .slHi a i, sc, e => match e with
    | .Subscript e (.Slice none (some f) none _) _ => chkE N a sc e && chkE N i sc f
    | _ => false
  | .sl a i j, sc, e => match e with
    | .Subscript e (.Slice (some f) (some g) none _) _ => chkE N a sc e && chkE N i sc f && chkE N j sc g
    | _ => false
  | .call x _ es, sc, e => match e with
    | .Call (.Name y _) (f :: fs) [] _ => decide (x = y) && glE sc x && chkEs N es sc (f :: fs)
    | _ => false
  | .blt b es, sc, e => match e with
    | .Call (.Name y _) (f :: fs) [] _ => decide (y = bltName b) && glE sc y && chkEs N es sc (f :: fs)
    | _ => false
  | .isi a t, sc, e => match e with
    | .Call (.Name y _) [e, .Name z _] [] _ => decide (y = "isinstance") && decide (z = PySem.Str.ofString (tyName t)) && glE sc y && glE sc z && chkE N a sc e
    | _ => false
  | .tup es, sc, e => match e with
    | .Tuple fs _ _ => chkEs N es sc fs
    | _ => false
  | .lst es, sc, e => match e with
    | .List fs _ => chkEs N es sc fs
    | _ => false
  | .comp elt i k es, sc, e => match e with
    | .ListComp e [⟨.Name x _, it, [], 0⟩] scope _ => ownE N sc scope i x && chkE N elt (relS scope sc) e && (match k, it with
      | .range1, .Call (.Name y _) [f] [] _ => decide (y = "range") && glE sc y && chkEs N es sc [f]
      | .range2, .Call (.Name y _) [f, g] [] _ => decide (y = "range") && glE sc y && chkEs N es sc [f, g]
      | .rev, .Call (.Name y _) [f] [] _ => decide (y = "reversed") && glE sc y && chkEs N es sc [f]
      | .val, f => chkEs N es sc [f]
      | _, _ => false)
    | _ => false
  | .compIf elt i k es c, sc, e => match e with
    | .ListComp e [⟨.Name x _, it, [t], 0⟩] scope _ => ownE N sc scope i x && chkE N elt (relS scope sc) e && chkE N c (relS scope sc) t && (match k, it with
      | .range1, .Call (.Name y _) [f] [] _ => decide (y = "range") && glE sc y && chkEs N es sc [f]
      | .range2, .Call (.Name y _) [f, g] [] _ => decide (y = "range") && glE sc y && chkEs N es sc [f, g]
      | .rev, .Call (.Name y _) [f] [] _ => decide (y = "reversed") && glE sc y && chkEs N es sc [f]
      | .val, f => chkEs N es sc [f]
      | _, _ => false)
    | _ => false
  | .tupComp elt i k es, sc, e => match e with
    | .Call (.Name z _) [.ListComp e [⟨.Name x _, it, [], 0⟩] scope _] [] _ => (decide (z = "tuple") && glE sc z && topSc sc && !topSc (relS scope sc)) && (ownE N sc scope i x && chkE N elt (relS scope sc) e && (match k, it with
      | .range1, .Call (.Name y _) [f] [] _ => decide (y = "range") && glE sc y && chkEs N es sc [f]
      | .range2, .Call (.Name y _) [f, g] [] _ => decide (y = "range") && glE sc y && chkEs N es sc [f, g]
      | .rev, .Call (.Name y _) [f] [] _ => decide (y = "reversed") && glE sc y && chkEs N es sc [f]
      | .val, f => chkEs N es sc [f]
      | _, _ => false))
    | _ => false
  | .tupRev a, sc, e => match e with
    | .Call (.Name y _) [.Call (.Name z _) [f] [] _] [] _ => decide (y = "tuple") && decide (z = "reversed") && glE sc y && glE sc z && chkE N a sc f
    | _ => false
  | .attr i w, sc, e => match e with
    | .Attribute (.Name z _) y _ => decide (y = if w then "cleared" else "rows") && visE N sc i z
    | _ => false
  | .mcall i x _ a, sc, e => match e with
    | .Call (.Attribute (.Name z _) y ap) [f] [] cp => decide (y = x) && visE N sc i z && (ap.endLine == cp.line) && chkE N a sc f
    | _ => false
  | .join s a, sc, e => match e with
    | .Call (.Attribute (.Constant (.str t) _ _) y ap) [f] [] cp => decide (y = "join") && decide (s = t) && (ap.endLine == cp.line) && chkE N a sc f
    | _ => false
  | .split a s, sc, e => match e with
    | .Call (.Attribute o y ap) [.Constant (.str t) _ _] [] cp => decide (y = "split") && decide (s = t) && (ap.endLine == cp.line) && (match o with
      | .Name _ _ => true
      | .Subscript _ _ _ => true
      | _ => false) && chkE N a sc o
    | _ => false
  | .dlen i, sc, e => match e with
    | .Call (.Name y _) [.Name z _] [] _ => decide (y = "len") && glE sc y && visE N sc i z
    | _ => false
def chkEs (N : List Str) : List ME → Scope → List Expr → Bool
  | [], _, es => match es with
    | [] => true
    | _ => false
  | m :: ms, sc, es => match es with
    | e :: es => chkE N m sc e && chkEs N ms sc es
    | _ => false
end

/-! ### what is known around a body -/
def AllC {α : Type} (P : α → Prop) : List α → Prop
  | [] => True
  | x :: xs => P x ∧ AllC P xs
theorem AllC.app {α : Type} {P : α → Prop} : ∀ {xs ys : List α}, AllC P (xs ++ ys) → AllC P xs ∧ AllC P ys
  | [], _, h => ⟨trivial, h⟩
  | _ :: xs, ys, h => by
    obtain ⟨h1, h2⟩ := AllC.app (xs := xs) (ys := ys) h.2
    exact ⟨⟨h.1, h1⟩, h2⟩
/-- the promise of a def by its mirror -/
def spM (K : PySem.W.Frag) (cl : Str → Value) (n : Nat) (f : Fn) : Sp := fun vs H Q E => vs.length = n ∧ ∃ G ds, Same G H ∧ RepL K G vs ds ∧ match f ds with
  | .ok r => ∀ v G' H', Ext G H G' H' → VR K H G' H' v r.1 (if r.2 then .fr else .sh) → Q v H'
  | .exc c => ∀ G' H', Ext G H G' H' → E (cl c) none H'
  | .stuck => False
/-- __init__ of the class: two new lists -/
def spIni (C : Addr) : Sp := fun vs H Q _ => ∃ p dx, vs = [.ref p] ∧ H p = some (.ins C dx []) ∧
  ∀ H' r c, H r = none → H c = none → r ≠ c → H' p = some (.ins C dx (spF r c)) → H' r = some (.lst []) → H' c = some (.lst []) → (∀ b, b ≠ p → b ≠ r → b ≠ c → H' b = H b) → Q .non H'
/-- the heap behind a change of the object's lists -/
structure ExtO (r c : Addr) (G H G' H' : Hp) : Prop where
  g : Same G G'
  h : ∀ b o, H b = some o → b ≠ r → b ≠ c → H' b = some o
  sub : Same G' H'
  new : ∀ b o, G' b = some o → G b = none → H b = none
/-- put, by its mirror -/
def spPut (K : PySem.W.Frag) (g : PutFn) : Sp := fun vs H Q _ => ∃ G C a dx r c xs ys rows cl v d, vs = [.ref a, v] ∧ SpanC K C ∧ Same G H ∧ H a = some (.ins C dx (spF r c)) ∧ H r = some (.lst xs) ∧ H c = some (.lst ys) ∧
  G a = none ∧ G r = none ∧ G c = none ∧ r ≠ c ∧ RepL K G xs rows ∧ RepL K G ys cl ∧ Rep K G v d ∧ match g rows cl d with
  | .ok q => ∀ G' H' xs' ys', ExtO r c G H G' H' → H' r = some (.lst xs') → H' c = some (.lst ys') → RepL K G' xs' q.2.1 → RepL K G' ys' q.2.2 → Q (.bl q.1) H'
  | _ => False
def GoodFn (P : Program) (w : World) (K : PySem.W.Frag) (mg : Str → Option Value) (base : Heap) (cl : Str → Value) (k : Nat) : CallI → Prop
  | .fn x n f => ∃ (fa : Addr) (fd : FuncData) (ps : List Str), mg x = some (.ref fa) ∧ FnOk P w K mg base (L2.CX P w) k fa fd ps (spM K cl n f) ∧ PySem.W.keepIn K (.ref fa) = true ∧ Binds K fd ps []
  | .mt x n f => ∃ (C fa : Addr) (fd : FuncData) (ps : List Str), SpanC K C ∧ Meth K C x fa ∧ (∀ r c, (spF r c).lookup x = none) ∧ FnOk P w K mg base (L2.CX P w) k fa fd ps (spM K cl n f) ∧ Binds K fd ps []
  | .ini => ∃ (C fa : Addr) (fd : FuncData) (ps : List Str) (j : Nat), j + 1 ≤ k ∧ mg "Span" = some (.ref C) ∧ SpanC K C ∧ Mk K C fa ∧ FnOk P w K mg base (L2.CX P w) j fa fd ps (spIni C) ∧ Binds K fd ps []
  | .put g => ∃ (C fa : Addr) (fd : FuncData) (ps : List Str), SpanC K C ∧ Meth K C "put" fa ∧ FnOk P w K mg base (L2.CX P w) k fa fd ps (spPut K g) ∧ Binds K fd ps []
def GoodGl (K : PySem.W.Frag) (mg : Str → Option Value) (p : Str × D) : Prop := ∃ v u, mg p.1 = some u ∧ RelV v u ∧ ∀ G, Rep K G v p.2
structure BltOk (mg : Str → Option Value) : Prop where
  len : mg "len" = none
  abs : mg "abs" = none
  list : mg "list" = none
  tuple : mg "tuple" = none
  str : mg "str" = none
  int : mg "int" = none
  bool : mg "bool" = none
  max : mg "max" = none
  min : mg "min" = none
  isi : mg "isinstance" = none
  range : mg "range" = none
  rev : mg "reversed" = none
/-- no exception leaves a block -/
abbrev W0 : WX := fun _ _ _ _ => False
structure XOk (X : Cx) (N : List Str) (sc : Scope) (W : WX) (k : Nat) : Prop where
  hN : X.N = N
  sc : X.env.scope = sc
  calm : X.calm = true
  nd : X.N.Nodup
  room : Room k X.A
  tk : Takes X W
  blt : BltOk X.mg
  top : topSc X.env.scope = true → (∀ c d σ H, ¬ W c d σ H) ∨ (X.stack = X.env :: X.outer ∧ X.env.frame = some X.env.locals)

section
variable {X : Cx} {N : List Str} {sc : Scope} {cl : Str → Value} {W : WX} {k : Nat}
theorem visE_ok (x : XOk X N sc W k) {i : Nat} {y : Str} (h : visE N sc i y = true) : X.N[i]? = some y ∧ Vis X.env.scope y ∧ (y == ("__debug__" : Str)) = false ∧ (y == ("__classdict__" : Str)) = false := by
  unfold visE okName at h
  simp only [Bool.and_eq_true, Bool.or_eq_true, decide_eq_true_eq, Bool.not_eq_true'] at h
  refine ⟨by rw [x.hN]; exact h.1.1, ?_, h.2.1, h.2.2⟩
  rw [x.sc]
  rcases h.1.2 with (q | q) | q
  · exact .inl q
  · exact .inr (.inl q)
  · exact .inr (.inr q)
theorem glE_ok (x : XOk X N sc W k) {y : Str} (h : glE sc y = true) : Gl X y ∧ (y == ("__debug__" : Str)) = false := by
  unfold glE okName at h
  simp only [Bool.and_eq_true, decide_eq_true_eq, Bool.not_eq_true'] at h
  refine ⟨?_, h.2.1⟩
  show X.env.scope.names.lookup y = _
  rw [x.sc]
  exact h.1
/-- not a star -/
theorem chk_star {m : ME} {e : Expr} {es : List Expr} {env : Env} (h : chkE N m sc e = true) : starEach (e :: es) env = (false, eval e env) :: starEach es env := by
  cases e <;> first
    | rfl
    | (cases m <;> exact absurd h Bool.false_ne_true)
theorem chk_plainIx {m : ME} {e : Expr} (h : chkE N m sc e = true) : PlainIx e := by
  cases e <;> first
    | exact fun _ _ => rfl
    | (cases m <;> exact absurd h Bool.false_ne_true)
theorem chk_folded {m : ME} {e : Expr} {env : Env} (h : chkE N m sc e = true) : ∀ x, foldedSetIterable e env x = pure x := by
  cases e <;> first
    | exact fun _ => rfl
    | (cases m <;> exact absurd h Bool.false_ne_true)
theorem chks_back {ms : List ME} : ∀ {es : List Expr} {pos : Pos} {env : Env}, chkEs N ms sc es = true → (backTo pos (starEach es env)).any (·.1) = false := by
  induction ms with
  | nil =>
    intro es pos env h
    cases es with
    | nil => rfl
    | cons => exact absurd h Bool.false_ne_true
  | cons m ms ih =>
    intro es pos env h
    cases es with
    | nil => exact absurd h Bool.false_ne_true
    | cons e es =>
      have h' : (chkE N m sc e && chkEs N ms sc es) = true := h
      rw [Bool.and_eq_true] at h'
      rw [chk_star h'.1]
      show (false || (backTo pos (starEach es env)).any (·.1)) = false
      rw [ih h'.2]
      rfl
end

/-! ### the judgement of an expression -/
def isBoolOp : Expr → Bool
  | .BoolOp _ _ _ => true
  | _ => false
def Snd (m : ME) : Prop := ∀ (X : Cx) (N : List Str) (sc : Scope) (cl : Str → Value) (W : WX) (k : Nat) (e : Expr), XOk X N sc W k → chkE N m sc e = true →
  AllC (GoodFn X.prog X.w X.K X.mg X.base cl k) (callsE m) → AllC (GoodGl X.K X.mg) (glosE m) →
  PE X e (rd X.K cl W m) ∧ PT X e (rdT X.K cl W m) ∧ (isBoolOp e = true → PW X e (rdT X.K cl W m))
def SndA (ms : List ME) : Prop := ∀ (X : Cx) (N : List Str) (sc : Scope) (cl : Str → Value) (W : WX) (k : Nat) (es : List Expr), XOk X N sc W k → chkEs N ms sc es = true →
  AllC (GoodFn X.prog X.w X.K X.mg X.base cl k) (callsEs ms) → AllC (GoodGl X.K X.mg) (glosEs ms) → PA X es (rdA X.K cl W ms)
/-- the test of what gives a bool -/
theorem pt_of {X : Cx} {cl : Str → Value} {W : WX} {m : ME} {e : Expr} (h : PE X e (rd X.K cl W m)) (he : ∀ whole, isTrue e X.env whole = (do let v ← whole; standAt e.pos; holding [v] (truthy v))) : PT X e (rdT X.K cl W m) := by
  refine pt_imp (pt_val h he) fun σ H Q ⟨S, G, R, q⟩ => ⟨S, G, R, ?_⟩
  cases ev : evE m S with
  | stuck => rw [ev] at q; exact q
  | exc c => rw [ev] at q; exact q
  | ok r =>
    rw [ev] at q
    obtain ⟨d, kd⟩ := r
    cases d with
    | bl b =>
      intro v G' H' E x
      obtain rfl := x.bl
      exact ⟨b, rfl, q G' H' E⟩
    | _ => exact False.elim q
section
variable {X : Cx} {N : List Str} {sc : Scope} {cl : Str → Value} {W : WX} {k : Nat}
theorem three {m : ME} {e : Expr} (h : PE X e (rd X.K cl W m)) (he : ∀ whole, isTrue e X.env whole = (do let v ← whole; standAt e.pos; holding [v] (truthy v))) (hb : isBoolOp e = false) :
    PE X e (rd X.K cl W m) ∧ PT X e (rdT X.K cl W m) ∧ (isBoolOp e = true → PW X e (rdT X.K cl W m)) := ⟨h, pt_of h he, fun z => by rw [hb] at z; cases z⟩
end
end MP
set_option Elab.async false
set_option linter.all false
set_option maxRecDepth 100000
set_option maxHeartbeats 4000000
namespace MP
open PySem PySem.Spec PyProof.Rows L2 RT

theorem snd_loc (i : Nat) : Snd (.loc i) := by
  intro X N sc cl W k e x hc _ _
  cases e <;> try exact absurd hc Bool.false_ne_true
  rename_i y pos
  obtain ⟨h1, h2, h3, h4⟩ := visE_ok x (show visE N sc i y = true from hc)
  refine three (pe_imp (pe_var h1 h2 h3 h4) fun σ H Q ⟨S, G, R, h⟩ => ?_) (fun _ => rfl) rfl
  rw [evE] at h
  split at h
  · rename_i d hd
    obtain ⟨v, q, r⟩ := R.sl i _ hd
    exact ⟨v, q, h.fin R.sub r⟩
  · rename_i ds hd
    obtain ⟨a, xs, q, r1, r2, r3⟩ := R.sl i _ hd
    exact ⟨_, q, h.new (Ext.refl R.sub) ⟨a, xs, ds, rfl, rfl, r1, r2, r3⟩⟩
  · exact False.elim h
theorem snd_glo (y : Str) (d : D) : Snd (.glo y d) := by
  intro X N sc cl W k e x hc _ hg
  cases e <;> try exact absurd hc Bool.false_ne_true
  rename_i z pos
  have hc : (decide (y = z) && glE sc y) = true := hc
  rw [Bool.and_eq_true, decide_eq_true_eq] at hc
  obtain ⟨e1, hc2⟩ := hc
  subst e1
  obtain ⟨h1, h2⟩ := glE_ok x hc2
  obtain ⟨v, u, m1, m2, m3⟩ := (show AllC (GoodGl X.K X.mg) [(y, d)] from hg).1
  refine three (pe_imp (pe_glob h1 m1 m2 h2) fun σ H Q ⟨S, G, R, h⟩ => ?_) (fun _ => rfl) rfl
  rw [evE] at h
  exact h.fin R.sub (m3 G)
theorem snd_int (i : Int) : Snd (.int i) := by
  intro X N sc cl W k e x hc _ _
  cases e <;> try exact absurd hc Bool.false_ne_true
  rename_i c j pos
  cases c <;> try exact absurd hc Bool.false_ne_true
  rename_i z
  obtain rfl : i = z := of_decide_eq_true hc
  refine three (pe_imp pe_int fun σ H Q ⟨S, G, R, h⟩ => ?_) (fun _ => rfl) rfl
  rw [evE] at h
  exact h.fin R.sub (.int i)
theorem snd_bl (i : Bool) : Snd (.bl i) := by
  intro X N sc cl W k e x hc _ _
  cases e <;> try exact absurd hc Bool.false_ne_true
  rename_i c j pos
  cases c <;> try exact absurd hc Bool.false_ne_true
  rename_i z
  obtain rfl : i = z := of_decide_eq_true hc
  refine three (pe_imp pe_bl fun σ H Q ⟨S, G, R, h⟩ => ?_) (fun _ => rfl) rfl
  rw [evE] at h
  exact h.fin R.sub (.bl i)
theorem snd_str (i : Str) : Snd (.str i) := by
  intro X N sc cl W k e x hc _ _
  cases e <;> try exact absurd hc Bool.false_ne_true
  rename_i c j pos
  cases c <;> try exact absurd hc Bool.false_ne_true
  rename_i z
  obtain rfl : i = z := of_decide_eq_true hc
  refine three (pe_imp pe_str fun σ H Q ⟨S, G, R, h⟩ => ?_) (fun _ => rfl) rfl
  rw [evE] at h
  exact h.fin R.sub (.str i)
theorem snd_non : Snd .non := by
  intro X N sc cl W k e x hc _ _
  cases e <;> try exact absurd hc Bool.false_ne_true
  rename_i c j pos
  cases c <;> try exact absurd hc Bool.false_ne_true
  refine three (pe_imp pe_non fun σ H Q ⟨S, G, R, h⟩ => ?_) (fun _ => rfl) rfl
  rw [evE] at h
  exact h.fin R.sub .non
theorem snd_bin (o : BOp) {a b : ME} (ia : Snd a) (ib : Snd b) : Snd (.bin o a b) := by
  intro X N sc cl W k e x hc hf hg
  cases e <;> try exact absurd hc Bool.false_ne_true
  rename_i l op r pos
  have hc : (decide (op = opOf o) && chkE N a sc l && chkE N b sc r) = true := hc
  rw [Bool.and_eq_true, Bool.and_eq_true, decide_eq_true_eq] at hc
  obtain ⟨⟨rfl, hc1⟩, hc2⟩ := hc
  obtain ⟨f1, f2⟩ := AllC.app (show AllC _ (callsE a ++ callsE b) from hf)
  obtain ⟨g1, g2⟩ := AllC.app (show AllC _ (glosE a ++ glosE b) from hg)
  have p1 := (ia X N sc cl W k l x hc1 f1 g1).1
  have p2 := (ib X N sc cl W k r x hc2 f2 g2).1
  refine three ⟨fun pins s σ H Q I ⟨S, G, R, h⟩ => (pe_op (op_bin (cl := cl) (W := W) (σ0 := σ) o) p1 p2).run pins s σ H Q I ?_⟩ (fun _ => rfl) rfl
  rw [evE] at h
  refine rd_bind R h fun d k v G1 H1 _ E1 r1 R1 h1 => rd_bind R1 h1 fun d2 k2 v2 G2 H2 _ E2 r2 R2 h2 => ?_
  exact ⟨d, k, d2, k2, H, G2, E2.sub, r1.ext E2, r2.old E1.h, h2⟩
theorem snd_cmp (o : COp) {a b : ME} (ia : Snd a) (ib : Snd b) : Snd (.cmp o a b) := by
  intro X N sc cl W k e x hc hf hg
  cases e <;> try exact absurd hc Bool.false_ne_true
  rename_i l ops cs pos
  match ops, cs, hc with
  | [op], [r], hc =>
    have hc : (decide (op = cmpOf o) && chkE N a sc l && chkE N b sc r) = true := hc
    rw [Bool.and_eq_true, Bool.and_eq_true, decide_eq_true_eq] at hc
    obtain ⟨⟨rfl, hc1⟩, hc2⟩ := hc
    obtain ⟨f1, f2⟩ := AllC.app (show AllC _ (callsE a ++ callsE b) from hf)
    obtain ⟨g1, g2⟩ := AllC.app (show AllC _ (glosE a ++ glosE b) from hg)
    have p1 := (ia X N sc cl W k l x hc1 f1 g1).1
    have p2 := (ib X N sc cl W k r x hc2 f2 g2).1
    have nm : behindInMarks (cmpOf o) r = false := by
      cases r <;> first
        | rfl
        | (cases b <;> exact absurd hc2 Bool.false_ne_true)
    have hu := x.room.units
    refine ⟨⟨fun pins s σ H Q I ⟨S, G, R, h⟩ => (pe_cmpR (op_cmp (cl := cl) (W := W) (σ0 := σ) hu o) p1 p2 nm).run pins s σ H Q I ?_⟩, ⟨fun pins s σ H Q I ⟨S, G, R, h⟩ => (pt_cmpR (op_cmp (cl := cl) (W := W) (σ0 := σ) hu o) p1 p2 nm).run pins s σ H Q I ?_⟩, fun z => nomatch z⟩
    · rw [evE] at h
      refine rd_bind R h fun d k v G1 H1 _ E1 r1 R1 h1 => rd_bind R1 h1 fun d2 k2 v2 G2 H2 _ E2 r2 R2 h2 => ?_
      exact ⟨d, k, d2, k2, H, G2, E2.sub, r1.ext E2, r2.old E1.h, h2⟩
    · rw [evE] at h
      refine rd_bindT R h fun d k v G1 H1 _ E1 r1 R1 h1 => rd_bindT R1 h1 fun d2 k2 v2 G2 H2 _ E2 r2 R2 h2 => ?_
      refine ⟨d, k, d2, k2, H, G2, E2.sub, r1.ext E2, r2.old E1.h, ?_⟩
      cases ev : evCmp o d d2 with
      | stuck => rw [ev] at h2; exact h2
      | exc c => rw [ev] at h2; exact h2
      | ok rr =>
        rw [ev] at h2
        obtain ⟨d3, k3⟩ := rr
        cases d3 with
        | bl bb =>
          intro v G' H' E xx
          obtain rfl := xx.bl
          exact ⟨bb, rfl, h2 G' H' E⟩
        | _ => exact False.elim h2
  | [], _, hc => exact absurd hc Bool.false_ne_true
  | [_], [], hc => exact absurd hc Bool.false_ne_true
  | [_], _ :: _ :: _, hc => exact absurd hc Bool.false_ne_true
  | _ :: _ :: _, _, hc => exact absurd hc Bool.false_ne_true
theorem snd_neg {a : ME} (ia : Snd a) : Snd (.neg a) := by
  intro X N sc cl W k e x hc hf hg
  cases e <;> try exact absurd hc Bool.false_ne_true
  rename_i op l pos
  cases op <;> try exact absurd hc Bool.false_ne_true
  have p1 := (ia X N sc cl W k l x hc hf hg).1
  refine three ⟨fun pins s σ H Q I ⟨S, G, R, h⟩ => (pe_un un_neg p1).run pins s σ H Q I ?_⟩ (fun _ => rfl) rfl
  rw [evE] at h
  refine rd_bind R h fun d k v G1 H1 _ E1 r1 R1 h1 => ?_
  cases d <;> try exact False.elim h1
  obtain rfl := r1.int
  exact ⟨_, rfl, h1.fin R1.sub (.int _)⟩
theorem snd_cmp2 (o1 o2 : COp) {a b c : ME} (ia : Snd a) (ib : Snd b) (ic : Snd c) : Snd (.cmp2 o1 o2 a b c) := by
  intro X N sc cl W k e x hc hf hg
  cases e <;> try exact absurd hc Bool.false_ne_true
  rename_i l ops cs pos
  match ops, cs, hc with
  | [op1, op2], [r, t], hc =>
    have hc : (decide (op1 = cmpOf o1) && (decide (op2 = cmpOf o2) && (chkE N a sc l && (chkE N b sc r && chkE N c sc t)))) = true := hc
    simp only [Bool.and_eq_true, decide_eq_true_eq] at hc
    obtain ⟨rfl, rfl, hc1, hc2, hc3⟩ := hc
    obtain ⟨f1, f2'⟩ := AllC.app (show AllC _ (callsE a ++ (callsE b ++ callsE c)) from hf)
    obtain ⟨f2, f3⟩ := AllC.app f2'
    obtain ⟨g1, g2'⟩ := AllC.app (show AllC _ (glosE a ++ (glosE b ++ glosE c)) from hg)
    obtain ⟨g2, g3⟩ := AllC.app g2'
    have p1 := (ia X N sc cl W k l x hc1 f1 g1).1
    have p2 := (ib X N sc cl W k r x hc2 f2 g2).1
    have p3 := (ic X N sc cl W k t x hc3 f3 g3).1
    have nm : lastMarks [cmpOf o1, cmpOf o2] [r, t] = false := by
      show behindInMarks (cmpOf o2) t = false
      cases t <;> first
        | rfl
        | (cases c <;> exact absurd hc3 Bool.false_ne_true)
    have hu := x.room.units
    refine ⟨⟨fun pins s σ H Q I ⟨S, G, R, h⟩ => (pe_chain (op_cmp (cl := cl) (W := W) (σ0 := σ) hu o1) (op_cmp (cl := cl) (W := W) (σ0 := σ) hu o2) p1 p2 p3 nm).run pins s σ H Q I ?_⟩, ⟨fun pins s σ H Q I ⟨S, G, R, h⟩ => (pt_chain (op_cmp (cl := cl) (W := W) (σ0 := σ) hu o1) (op_cmp (cl := cl) (W := W) (σ0 := σ) hu o2) p1 p2 p3 nm).run pins s σ H Q I ?_⟩, fun z => nomatch z⟩
    · rw [evE] at h
      refine rd_bind R h fun d k v G1 H1 _ E1 r1 R1 h1 => rd_bind R1 h1 fun d2 k2 v2 G2 H2 _ E2 r2 R2 h2 => ?_
      refine ⟨d, k, d2, k2, H, G2, E2.sub, r1.ext E2, r2.old E1.h, ?_⟩
      cases ev : evCmp o1 d d2 with
      | stuck => rw [ev] at h2; exact h2
      | exc c => rw [ev] at h2; exact h2
      | ok rr =>
        rw [ev] at h2
        obtain ⟨d3, k3⟩ := rr
        cases d3 with
        | bl bb =>
          intro v3 G3 H3 E3 xx
          obtain rfl := xx.bl
          cases bb with
          | false =>
            have h2 : Kx X.K cl W σ G2 H2 (.ok (.bl false, .sh)) Q := h2
            exact ⟨false, rfl, (Kx.ext h2 E3).fin (R2.ext E3).sub (.bl false)⟩
          | true =>
            refine ⟨true, rfl, ?_⟩
            show rd X.K cl W c σ H3 _
            refine rd_bind (R2.ext E3) (Kx.ext h2 E3) fun d4 k4 v4 G4 H4 _ E4 r4 R4 h4 => ?_
            exact ⟨d2, k2, d4, k4, H1, G4, E4.sub, (r2.ext E3).ext E4, r4.old (E2.h.trans E3.h), h4⟩
        | _ => exact False.elim h2
    · rw [evE] at h
      refine rd_bindT R h fun d k v G1 H1 _ E1 r1 R1 h1 => rd_bindT R1 h1 fun d2 k2 v2 G2 H2 _ E2 r2 R2 h2 => ?_
      refine ⟨d, k, d2, k2, H, G2, E2.sub, r1.ext E2, r2.old E1.h, ?_⟩
      cases ev : evCmp o1 d d2 with
      | stuck => rw [ev] at h2; exact h2
      | exc c => rw [ev] at h2; exact h2
      | ok rr =>
        rw [ev] at h2
        obtain ⟨d3, k3⟩ := rr
        cases d3 with
        | bl bb =>
          intro v3 G3 H3 E3 xx
          obtain rfl := xx.bl
          cases bb with
          | false =>
            have h2 : Kt cl W σ G2 H2 (.ok (.bl false, .sh)) Q := h2
            exact ⟨false, rfl, false, rfl, h2 G3 H3 E3⟩
          | true =>
            refine ⟨true, rfl, ?_⟩
            show rd X.K cl W c σ H3 _
            refine rd_bindT (R2.ext E3) (Kt.ext h2 E3) fun d4 k4 v4 G4 H4 _ E4 r4 R4 h4 => ?_
            refine ⟨d2, k2, d4, k4, H1, G4, E4.sub, (r2.ext E3).ext E4, r4.old (E2.h.trans E3.h), ?_⟩
            cases ev4 : evCmp o2 d2 d4 with
            | stuck => rw [ev4] at h4; exact h4
            | exc c => rw [ev4] at h4; exact h4
            | ok rr4 =>
              rw [ev4] at h4
              obtain ⟨d5, k5⟩ := rr4
              cases d5 with
              | bl b5 =>
                intro v5 G5 H5 E5 x5
                obtain rfl := x5.bl
                exact ⟨b5, rfl, h4 G5 H5 E5⟩
              | _ => exact False.elim h4
        | _ => exact False.elim h2
  | [], _, hc => exact absurd hc Bool.false_ne_true
  | [_], [], hc => exact absurd hc Bool.false_ne_true
  | [_], _ :: _, hc => exact absurd hc Bool.false_ne_true
  | _ :: _ :: _ :: _, _, hc => exact absurd hc Bool.false_ne_true
  | [_, _], [], hc => exact absurd hc Bool.false_ne_true
  | [_, _], [_], hc => exact absurd hc Bool.false_ne_true
  | [_, _], _ :: _ :: _ :: _, hc => exact absurd hc Bool.false_ne_true
theorem snd_isN (n : Bool) {a : ME} (ia : Snd a) : Snd (.isN n a) := by
  intro X N sc cl W k e x hc hf hg
  cases e <;> try exact absurd hc Bool.false_ne_true
  rename_i l ops cs pos
  match ops, cs, hc with
  | [op], [.Constant .none _ _], hc =>
    have hc : (decide (op = if n then CmpOp.IsNot else CmpOp.Is) && chkE N a sc l) = true := hc
    rw [Bool.and_eq_true, decide_eq_true_eq] at hc
    obtain ⟨e1, hc1⟩ := hc
    have p1 := (ia X N sc cl W k l x hc1 hf hg).1
    have val : ∀ {d : D} {k : Kd} {v : V} {Hs G H : Hp}, VR X.K Hs G H v d k → decide (v = .non) = (match d with | .non => true | _ => false) := fun {d k v Hs G H} r => by
      cases d with
      | non =>
        have q := r.rep (by intro ds e; cases e)
        cases q
        rfl
      | bl => obtain rfl := r.bl; rfl
      | int => obtain rfl := r.int; rfl
      | str => obtain rfl := r.str; rfl
      | tup =>
        obtain ⟨p, xs, rfl, _⟩ := r.tup
        rfl
      | lst =>
        cases k with
        | sh =>
          have q : Rep _ _ _ _ := r
          cases q
          rfl
        | fr =>
          rcases r with ⟨p, xs, ds, rfl, _⟩ | r
          · rfl
          · exact r.nolst.elim
        | bo => obtain ⟨p, xs, ds, rfl, _⟩ := r; rfl
      | scr => obtain ⟨p, rfl, _⟩ := r.scr; rfl
      | ob =>
        have q := r.rep (by intro ds e; cases e)
        cases q
        rfl
    cases n with
    | false =>
      have e1 : op = .Is := e1
      subst e1
      refine ⟨⟨fun pins s σ H Q I ⟨S, G, R, h⟩ => (pe_cmp (pc_isN p1)).run pins s σ H Q I ?_⟩, ⟨fun pins s σ H Q I ⟨S, G, R, h⟩ => (pt_cmp (pc_isN p1)).run pins s σ H Q I ?_⟩, fun z => nomatch z⟩
      · rw [evE] at h
        refine rd_bind R h fun d k v G1 H1 _ E1 r1 R1 h1 => ?_
        refine h1.fin R1.sub ?_
        rw [val r1]
        cases d <;> exact .bl _
      · rw [evE] at h
        refine rd_bindT R h fun d k v G1 H1 _ E1 r1 R1 h1 => ?_
        refine ⟨_, rfl, ?_⟩
        rw [val r1]
        cases d <;> exact h1 G1 H1 (Ext.refl R1.sub)
    | true =>
      have e1 : op = .IsNot := e1
      subst e1
      refine ⟨⟨fun pins s σ H Q I ⟨S, G, R, h⟩ => (pe_cmp (pc_notN p1)).run pins s σ H Q I ?_⟩, ⟨fun pins s σ H Q I ⟨S, G, R, h⟩ => (pt_cmp (pc_notN p1)).run pins s σ H Q I ?_⟩, fun z => nomatch z⟩
      · rw [evE] at h
        refine rd_bind R h fun d k v G1 H1 _ E1 r1 R1 h1 => ?_
        refine h1.fin R1.sub ?_
        rw [val r1]
        cases d <;> exact .bl _
      · rw [evE] at h
        refine rd_bindT R h fun d k v G1 H1 _ E1 r1 R1 h1 => ?_
        refine ⟨_, rfl, ?_⟩
        rw [val r1]
        cases d <;> exact h1 G1 H1 (Ext.refl R1.sub)
  | [], _, hc => exact absurd hc Bool.false_ne_true
  | [_], [], hc => exact absurd hc Bool.false_ne_true
  | [_], _ :: _ :: _, hc => exact absurd hc (by simp [chkE])
  | _ :: _ :: _, _, hc => exact absurd hc (by simp [chkE])

theorem and_core {X : Cx} {cl : Str → Value} {W : WX} {a b : ME} {σ : L2.St} {H : Hp} {Q : Bool → Hp → Prop} {S : List SV} {G : Hp} (R : EvRel X.K S σ G H) (h : Kt cl W σ G H (evE (.and a b) S) Q) :
    tAnd (rdT X.K cl W a) (rdT X.K cl W b) σ H Q := by
  rw [evE] at h
  refine rdT_bindT R h (fun d k z => by cases d <;> first | rfl | exact absurd rfl (z _)) fun b' k' G1 H1 _ E1 R1 h1 => ?_
  cases b' with
  | false => exact iteF (h1 G1 H1 (Ext.refl R1.sub))
  | true =>
    refine iteT (rdT_bindT R1 h1 (fun d k z => by cases d <;> first | rfl | exact absurd rfl (z _)) fun b2 k2 G2 H2 _ E2 R2 h2 => ?_)
    exact h2 G2 H2 (Ext.refl R2.sub)
theorem or_core {X : Cx} {cl : Str → Value} {W : WX} {a b : ME} {σ : L2.St} {H : Hp} {Q : Bool → Hp → Prop} {S : List SV} {G : Hp} (R : EvRel X.K S σ G H) (h : Kt cl W σ G H (evE (.or a b) S) Q) :
    tOr (rdT X.K cl W a) (rdT X.K cl W b) σ H Q := by
  rw [evE] at h
  refine rdT_bindT R h (fun d k z => by cases d <;> first | rfl | exact absurd rfl (z _)) fun b' k' G1 H1 _ E1 R1 h1 => ?_
  cases b' with
  | true => exact iteT (h1 G1 H1 (Ext.refl R1.sub))
  | false =>
    refine iteF (rdT_bindT R1 h1 (fun d k z => by cases d <;> first | rfl | exact absurd rfl (z _)) fun b2 k2 G2 H2 _ E2 R2 h2 => ?_)
    exact h2 G2 H2 (Ext.refl R2.sub)
theorem and_coreV {X : Cx} {cl : Str → Value} {W : WX} {a b : ME} {σ : L2.St} {H : Hp} {Q : VK} {S : List SV} {G : Hp} (R : EvRel X.K S σ G H) (h : Kx X.K cl W σ G H (evE (.and a b) S) Q) :
    tAndV (rd X.K cl W a) (rd X.K cl W b) σ H Q := by
  rw [evE] at h
  refine rd_bind R h fun d k v G1 H1 ev1 E1 r1 R1 h1 => ?_
  cases d <;> try exact False.elim h1
  rename_i b'
  obtain rfl := r1.bl
  clear ev1
  cases b' with
  | false => exact ⟨false, rfl, iteF (h1.fin R1.sub (.bl false))⟩
  | true =>
    refine ⟨true, rfl, iteT (rd_bind R1 h1 fun d2 k2 v2 G2 H2 _ E2 r2 R2 h2 => ?_)⟩
    cases d2 <;> try exact False.elim h2
    exact h2.fin R2.sub (r2.rep (by intro ds e; cases e))
theorem or_coreV {X : Cx} {cl : Str → Value} {W : WX} {a b : ME} {σ : L2.St} {H : Hp} {Q : VK} {S : List SV} {G : Hp} (R : EvRel X.K S σ G H) (h : Kx X.K cl W σ G H (evE (.or a b) S) Q) :
    tOrV (rd X.K cl W a) (rd X.K cl W b) σ H Q := by
  rw [evE] at h
  refine rd_bind R h fun d k v G1 H1 ev1 E1 r1 R1 h1 => ?_
  cases d <;> try exact False.elim h1
  rename_i b'
  obtain rfl := r1.bl
  clear ev1
  cases b' with
  | true => exact ⟨true, rfl, iteT (h1.fin R1.sub (.bl true))⟩
  | false =>
    refine ⟨false, rfl, iteF (rd_bind R1 h1 fun d2 k2 v2 G2 H2 _ E2 r2 R2 h2 => ?_)⟩
    cases d2 <;> try exact False.elim h2
    exact h2.fin R2.sub (r2.rep (by intro ds e; cases e))
theorem snd_and {a b : ME} (ia : Snd a) (ib : Snd b) : Snd (.and a b) := by
  intro X N sc cl W k e x hc hf hg
  obtain ⟨f1, f2⟩ := AllC.app (show AllC _ (callsE a ++ callsE b) from hf)
  obtain ⟨g1, g2⟩ := AllC.app (show AllC _ (glosE a ++ glosE b) from hg)
  cases e <;> try exact absurd hc Bool.false_ne_true
  rename_i op vs pos
  match op, vs, hc with
  | .And, [l, r], hc =>
    have hc : (chkE N a sc l && chkE N b sc r) = true := hc
    rw [Bool.and_eq_true] at hc
    have p1 := ia X N sc cl W k l x hc.1 f1 g1
    have p2 := ib X N sc cl W k r x hc.2 f2 g2
    have pw : PW X (.BoolOp .And [l, r] pos) (rdT X.K cl W (.and a b)) := pw_imp (pw_and p1.2.1 (pw_and1 p2.2.1)) fun σ H Q ⟨S, G, R, h⟩ => and_core R h
    exact ⟨pe_imp (pe_and p1.1 (pe_one p2.1)) fun σ H Q ⟨S, G, R, h⟩ => and_coreV R h, pw.pt, fun _ => pw⟩
  | .And, l :: r :: q :: t, hc =>
    have hc : (chkE N a sc l && chkE N b sc (.BoolOp .And (r :: q :: t) pos)) = true := hc
    rw [Bool.and_eq_true] at hc
    have p1 := ia X N sc cl W k l x hc.1 f1 g1
    have p2 := ib X N sc cl W k _ x hc.2 f2 g2
    have pw : PW X (.BoolOp .And (l :: r :: q :: t) pos) (rdT X.K cl W (.and a b)) := pw_imp (pw_and p1.2.1 (p2.2.2 rfl)) fun σ H Q ⟨S, G, R, h⟩ => and_core R h
    exact ⟨pe_imp (pe_and p1.1 p2.1) fun σ H Q ⟨S, G, R, h⟩ => and_coreV R h, pw.pt, fun _ => pw⟩
  | .And, [], hc => exact absurd hc Bool.false_ne_true
  | .And, [_], hc => exact absurd hc Bool.false_ne_true
  | .Or, _, hc => exact absurd hc (by simp [chkE])
theorem snd_or {a b : ME} (ia : Snd a) (ib : Snd b) : Snd (.or a b) := by
  intro X N sc cl W k e x hc hf hg
  obtain ⟨f1, f2⟩ := AllC.app (show AllC _ (callsE a ++ callsE b) from hf)
  obtain ⟨g1, g2⟩ := AllC.app (show AllC _ (glosE a ++ glosE b) from hg)
  cases e <;> try exact absurd hc Bool.false_ne_true
  rename_i op vs pos
  match op, vs, hc with
  | .Or, [l, r], hc =>
    have hc : (chkE N a sc l && chkE N b sc r) = true := hc
    rw [Bool.and_eq_true] at hc
    have p1 := ia X N sc cl W k l x hc.1 f1 g1
    have p2 := ib X N sc cl W k r x hc.2 f2 g2
    have pw : PW X (.BoolOp .Or [l, r] pos) (rdT X.K cl W (.or a b)) := pw_imp (pw_or p1.2.1 (pw_or1 p2.2.1)) fun σ H Q ⟨S, G, R, h⟩ => or_core R h
    exact ⟨pe_imp (pe_or p1.1 (pe_one p2.1)) fun σ H Q ⟨S, G, R, h⟩ => or_coreV R h, pw.pt, fun _ => pw⟩
  | .Or, l :: r :: q :: t, hc =>
    have hc : (chkE N a sc l && chkE N b sc (.BoolOp .Or (r :: q :: t) pos)) = true := hc
    rw [Bool.and_eq_true] at hc
    have p1 := ia X N sc cl W k l x hc.1 f1 g1
    have p2 := ib X N sc cl W k _ x hc.2 f2 g2
    have pw : PW X (.BoolOp .Or (l :: r :: q :: t) pos) (rdT X.K cl W (.or a b)) := pw_imp (pw_or p1.2.1 (p2.2.2 rfl)) fun σ H Q ⟨S, G, R, h⟩ => or_core R h
    exact ⟨pe_imp (pe_or p1.1 p2.1) fun σ H Q ⟨S, G, R, h⟩ => or_coreV R h, pw.pt, fun _ => pw⟩
  | .Or, [], hc => exact absurd hc Bool.false_ne_true
  | .Or, [_], hc => exact absurd hc Bool.false_ne_true
  | .And, _, hc => exact absurd hc (by simp [chkE])
theorem snd_not {a : ME} (ia : Snd a) : Snd (.not a) := by
  intro X N sc cl W k e x hc hf hg
  cases e <;> try exact absurd hc Bool.false_ne_true
  rename_i op l pos
  cases op <;> try exact absurd hc Bool.false_ne_true
  have p1 := ia X N sc cl W k l x hc hf hg
  refine ⟨pe_imp (pe_not p1.1) fun σ H Q ⟨S, G, R, h⟩ => ?_, pt_imp (pt_not p1.2.1) fun σ H Q ⟨S, G, R, h⟩ => ?_, fun z => nomatch z⟩
  · rw [evE] at h
    refine rd_bind R h fun d k v G1 H1 _ E1 r1 R1 h1 => ?_
    cases d <;> try exact False.elim h1
    obtain rfl := r1.bl
    exact ⟨_, rfl, h1.fin R1.sub (.bl _)⟩
  · rw [evE] at h
    refine rdT_bindT R h (fun d k z => by cases d <;> first | rfl | exact absurd rfl (z _)) fun b k' G1 H1 _ E1 R1 h1 => ?_
    exact h1 G1 H1 (Ext.refl R1.sub)
theorem snd_ife {c a b : ME} (ic : Snd c) (ia : Snd a) (ib : Snd b) : Snd (.ife c a b) := by
  intro X N sc cl W k e x hc hf hg
  obtain ⟨f0, f⟩ := AllC.app (show AllC _ (callsE c ++ (callsE a ++ callsE b)) from hf)
  obtain ⟨f1, f2⟩ := AllC.app f
  obtain ⟨g0, g⟩ := AllC.app (show AllC _ (glosE c ++ (glosE a ++ glosE b)) from hg)
  obtain ⟨g1, g2⟩ := AllC.app g
  cases e <;> try exact absurd hc Bool.false_ne_true
  rename_i d l r pos
  have hc : (chkE N c sc d && chkE N a sc l && chkE N b sc r) = true := hc
  rw [Bool.and_eq_true, Bool.and_eq_true] at hc
  have p0 := ic X N sc cl W k d x hc.1.1 f0 g0
  have p1 := ia X N sc cl W k l x hc.1.2 f1 g1
  have p2 := ib X N sc cl W k r x hc.2 f2 g2
  refine ⟨pe_imp (pe_ifExp p0.2.1 p1.1 p2.1) fun σ H Q ⟨S, G, R, h⟩ => ?_, ?_, fun z => nomatch z⟩
  · rw [evE] at h
    refine rdT_bind R h (fun d k z => by cases d <;> first | rfl | exact absurd rfl (z _)) fun b' k' G1 H1 _ E1 R1 h1 => ?_
    cases b' with
    | true => exact iteT ⟨S, G1, R1, h1⟩
    | false => exact iteF ⟨S, G1, R1, h1⟩
  · refine ⟨fun pins s σ H Q I ⟨S, G, R, h⟩ => ?_⟩
    refine isTrue_IfExp ?_
    have go : rdT X.K cl W c σ H (fun bb H1 => if bb = true then rdT X.K cl W a σ H1 Q else rdT X.K cl W b σ H1 Q) := by
      rw [evE] at h
      refine rdT_bindT R h (fun d k z => by cases d <;> first | rfl | exact absurd rfl (z _)) fun b' k' G1 H1 _ E1 R1 h1 => ?_
      cases b' with
      | true => exact iteT ⟨S, G1, R1, h1⟩
      | false => exact iteF ⟨S, G1, R1, h1⟩
    refine thn (p0.2.1.run pins s σ H _ I go) fun bb s1 ⟨H1, I1, q1⟩ => ?_
    cases bb with
    | true => exact p1.2.1.run pins s1 σ H1 Q I1 q1
    | false => exact p2.2.1.run pins s1 σ H1 Q I1 q1
end MP
set_option Elab.async false
set_option linter.all false
set_option maxRecDepth 100000
set_option maxHeartbeats 4000000
namespace MP
open PySem PySem.Spec PyProof.Rows L2 RT

/-! ### lists of a call's arguments taken among the plain data -/
def tops : List V → List (D × Kd) → List Addr
  | .ref p :: vs, r :: rs => if r.2 = .sh then tops vs rs else p :: tops vs rs
  | _ :: vs, _ :: rs => tops vs rs
  | _, _ => []
def over (G H : Hp) (L : List Addr) : Hp := fun b => match G b with
  | some o => some o
  | none => if b ∈ L then H b else none
section
variable {K : PySem.W.Frag} {G H G1 H1 Hs : Hp} {L : List Addr}
theorem over_same : Same G (over G H L) := fun b o q => by
  unfold over
  rw [q]
theorem over_at {p : Addr} (g : G p = none) (h : p ∈ L) : over G H L p = H p := by
  unfold over
  rw [g]
  exact if_pos h
theorem over_sub (s : Same G H) : Same (over G H L) H := fun b o q => by
  cases e : G b with
  | some u =>
    have z : over G H L b = some u := over_same b u e
    rw [z] at q
    rw [← q]
    exact s _ _ e
  | none =>
    unfold over at q
    rw [e] at q
    by_cases z : b ∈ L
    · simp only [z, if_true] at q
      exact q
    · simp only [z, if_false] at q
      cases q
theorem over_ext (e : Ext G H G1 H1) (hL : ∀ p ∈ L, H p = none) : Ext G H (over G1 H1 L) H1 := ⟨e.g.trans over_same, e.h, over_sub e.sub, fun b o q n => by
  cases z : G1 b with
  | some u => exact e.new b u z n
  | none =>
    unfold over at q
    rw [z] at q
    by_cases y : b ∈ L
    · exact hL b y
    · simp only [y, if_false] at q
      cases q⟩
theorem over_rep : ∀ {vs : List V} {rs : List (D × Kd)}, VRs K Hs G H vs rs → (∀ p ∈ tops vs rs, p ∈ L) → RepL K (over G H L) vs (args1 rs)
  | [], [], _, _ => .nil
  | v :: vs, (d, k) :: rs, h, hl => by
    obtain ⟨h1, h2⟩ := h
    have sub : ∀ p ∈ tops vs rs, p ∈ L := fun p hp => hl p (by
      cases v <;> simp only [tops] <;> first
        | exact hp
        | (split <;> first | exact hp | exact List.mem_cons_of_mem _ hp))
    refine .cons ?_ (over_rep h2 sub)
    cases k with
    | sh => exact Rep.mono over_same h1
    | fr =>
      rcases h1 with ⟨p, xs, ds, rfl, e2, h0, h1, g, r⟩ | h1
      · have e2 : d = .lst ds := e2
        subst e2
        refine .lst ?_ (r.mono over_same)
        rw [over_at g (hl p (by simp [tops]))]
        exact h1
      · exact Rep.mono over_same h1.rep
    | bo =>
      obtain ⟨p, xs, ds, rfl, e2, h1, g, r⟩ := h1
      have e2 : d = .lst ds := e2
      subst e2
      refine .lst ?_ (r.mono over_same)
      rw [over_at g (hl p (by simp [tops]))]
      exact h1
  | [], _ :: _, h, _ => False.elim h
  | _ :: _, [], h, _ => False.elim h
theorem tops_fresh : ∀ {vs : List V} {rs : List (D × Kd)}, VRs K Hs G H vs rs → hasBo rs = false → ∀ p ∈ tops vs rs, Hs p = none
  | [], [], _, _, p, hp => by simp [tops] at hp
  | v :: vs, (d, k) :: rs, h, hb, p, hp => by
    obtain ⟨h1, h2⟩ := h
    have hb' : (decide (k = .bo) || hasBo rs) = false := hb
    rw [Bool.or_eq_false_iff] at hb'
    have ih := tops_fresh h2 hb'.2
    cases k with
    | sh =>
      cases v <;> exact ih p (by simpa [tops] using hp)
    | fr =>
      rcases h1 with ⟨q, xs, ds, rfl, e2, h0, _⟩ | h1
      · have hp' : p = q ∨ p ∈ tops vs rs := by simpa [tops] using hp
        rcases hp' with rfl | hp'
        · exact h0
        · exact ih p hp'
      · obtain ⟨q, zs, rfl, h0, _⟩ := h1.top
        have hp' : p = q ∨ p ∈ tops vs rs := by simpa [tops] using hp
        rcases hp' with rfl | hp'
        · exact h0
        · exact ih p hp'
    | bo => exact absurd hb'.1 (by simp)
  | [], _ :: _, h, _, _, _ => False.elim h
  | _ :: _, [], h, _, _, _ => False.elim h
theorem VRs.len : ∀ {vs : List V} {rs : List (D × Kd)}, VRs K Hs G H vs rs → vs.length = rs.length
  | [], [], _ => rfl
  | _ :: _, _ :: _, h => by rw [List.length_cons, List.length_cons, VRs.len h.2]
  | [], _ :: _, h => False.elim h
  | _ :: _, [], h => False.elim h
/-- none of them a list of the def's own: all taken -/
theorem VRs.fix {vs : List V} {rs : List (D × Kd)} (e : Ext G H G1 H1) (h : VRs K H G1 H1 vs rs) (hb : hasBo rs = false) : ∃ G2, Ext G H G2 H1 ∧ Same G1 G2 ∧ RepL K G2 vs (args1 rs) :=
  ⟨over G1 H1 (tops vs rs), over_ext e (tops_fresh h hb), over_same, over_rep h fun _ z => z⟩
theorem seqT_but {a : Addr} {xs : List V} {L : List Addr} {G1 G' : Hp} (hL : ∀ p ∈ L, G1 p = none → ∃ ys, G' p = some (.lst ys)) (h : SqT K G' a xs) : SqT K (fun b => if b ∈ L ∧ G1 b = none then none else G' b) a xs := by
  have key : ∀ o, G' a = some o → (∀ ys, o ≠ .lst ys) → (if a ∈ L ∧ G1 a = none then none else G' a) = some o := fun o e ho => by
    split
    · rename_i z
      obtain ⟨ys, hy⟩ := hL a z.1 z.2
      rw [e] at hy
      cases hy
      exact absurd rfl (ho ys)
    · exact e
  rcases h with (h | ⟨o, h⟩) | h
  · exact .inl (.inl (key _ h fun _ z => by cases z))
  · exact .inl (.inr ⟨o, key _ h fun _ z => by cases z⟩)
  · exact .inr h
mutual
theorem noL_rep {L : List Addr} {G1 G' : Hp} (hL : ∀ p ∈ L, G1 p = none → ∃ ys, G' p = some (.lst ys)) : ∀ {v : V} {d : D}, Rep K G' v d → noL d = true → Rep K (fun b => if b ∈ L ∧ G1 b = none then none else G' b) v d
  | _, _, .non, _ => .non
  | _, _, .bl b, _ => .bl b
  | _, _, .int i, _ => .int i
  | _, _, .str i, _ => .str i
  | _, _, .tup h r, z => .tup (seqT_but hL h) (noLs_rep hL r (by unfold noL at z; exact z))
  | _, _, .lst h r, z => by unfold noL at z; cases z
  | _, _, .scr h, z => by unfold noL at z; cases z
  | _, _, .ob _ _ _ _ _ _, z => by unfold noL at z; cases z
theorem noLs_rep {L : List Addr} {G1 G' : Hp} (hL : ∀ p ∈ L, G1 p = none → ∃ ys, G' p = some (.lst ys)) : ∀ {v : List V} {d : List D}, RepL K G' v d → noLs d = true → RepL K (fun b => if b ∈ L ∧ G1 b = none then none else G' b) v d
  | _, _, .nil, _ => .nil
  | _, _, .cons h r, z => by
    unfold noLs at z
    rw [Bool.and_eq_true] at z
    exact .cons (noL_rep hL h z.1) (noLs_rep hL r z.2)
end
/-- the borrowed lists are lists -/
theorem tops_lst : ∀ {vs : List V} {rs : List (D × Kd)}, VRs K Hs G H vs rs → ∀ p ∈ tops vs rs, G p = none → ∃ ys, H p = some (.lst ys)
  | [], [], _, p, hp, _ => by simp [tops] at hp
  | v :: vs, (d, k) :: rs, h, p, hp, g => by
    obtain ⟨h1, h2⟩ := h
    have ih := tops_lst h2
    cases k with
    | sh =>
      cases v <;> exact ih p (by simpa [tops] using hp) g
    | fr =>
      rcases h1 with ⟨q, xs, ds, rfl, e2, h0, e3, _⟩ | h1
      · have hp' : p = q ∨ p ∈ tops vs rs := by simpa [tops] using hp
        rcases hp' with rfl | hp'
        · exact ⟨_, e3⟩
        · exact ih p hp' g
      · obtain ⟨q, zs, rfl, _, h0⟩ := h1.top
        have hp' : p = q ∨ p ∈ tops vs rs := by simpa [tops] using hp
        rcases hp' with rfl | hp'
        · rw [g] at h0; cases h0
        · exact ih p hp' g
    | bo =>
      obtain ⟨q, xs, ds, rfl, e2, e3, _⟩ := h1
      have hp' : p = q ∨ p ∈ tops vs rs := by simpa [tops] using hp
      rcases hp' with rfl | hp'
      · exact ⟨_, e3⟩
      · exact ih p hp' g
  | [], _ :: _, h, _, _, _ => False.elim h
  | _ :: _, [], h, _, _, _ => False.elim h
end

theorem snd_sub {a b : ME} (ia : Snd a) (ib : Snd b) : Snd (.sub a b) := by
  intro X N sc cl W k e x hc hf hg
  cases e <;> try exact absurd hc Bool.false_ne_true
  rename_i l r pos
  have hc : (chkE N a sc l && chkE N b sc r) = true := hc
  rw [Bool.and_eq_true] at hc
  obtain ⟨f1, f2⟩ := AllC.app (show AllC _ (callsE a ++ callsE b) from hf)
  obtain ⟨g1, g2⟩ := AllC.app (show AllC _ (glosE a ++ glosE b) from hg)
  have p1 := (ia X N sc cl W k l x hc.1 f1 g1).1
  have p2 := (ib X N sc cl W k r x hc.2 f2 g2).1
  refine three ⟨fun pins s σ H Q I ⟨S, G, R, h⟩ => (pe_ix (ix_any (cl := cl) (W := W) (σ0 := σ)) p1 p2 (chk_plainIx hc.2)).run pins s σ H Q I ?_⟩ (fun _ => rfl) rfl
  rw [evE] at h
  refine rd_bind R h fun d k v G1 H1 _ E1 r1 R1 h1 => rd_bind R1 h1 fun d2 k2 v2 G2 H2 _ E2 r2 R2 h2 => ?_
  exact ⟨d, k, d2, k2, H, G2, E2.sub, r1.ext E2, r2.old E1.h, h2⟩
theorem snd_slLo {a b : ME} (ia : Snd a) (ib : Snd b) : Snd (.slLo a b) := by
  intro X N sc cl W k e x hc hf hg
  cases e <;> try exact absurd hc Bool.false_ne_true
  rename_i l r pos
  match r, hc with
  | .Slice (some f) none none p2, hc =>
    have hc : (chkE N a sc l && chkE N b sc f) = true := hc
    rw [Bool.and_eq_true] at hc
    obtain ⟨f1, f2⟩ := AllC.app (show AllC _ (callsE a ++ callsE b) from hf)
    obtain ⟨g1, g2⟩ := AllC.app (show AllC _ (glosE a ++ glosE b) from hg)
    have p1 := (ia X N sc cl W k l x hc.1 f1 g1).1
    have p2 := (ib X N sc cl W k f x hc.2 f2 g2).1
    refine three ⟨fun pins s σ H Q I ⟨S, G, R, h⟩ => (pe_slice (sl_any (cl := cl) (W := W) (σ0 := σ)) p1 (po_some p2) po_none).run pins s σ H Q I ?_⟩ (fun _ => rfl) rfl
    rw [evE] at h
    refine rd_bind R h fun d k v G1 H1 _ E1 r1 R1 h1 => rd_bind R1 h1 fun d2 k2 v2 G2 H2 _ E2 r2 R2 h2 => ?_
    cases d2 <;> try exact False.elim h2
    obtain rfl := r2.int
    exact ⟨_, rfl, ⟨d, k, H, G2, E2.sub, r1.ext E2, h2⟩⟩
theorem snd_slHi {a b : ME} (ia : Snd a) (ib : Snd b) : Snd (.slHi a b) := by
  intro X N sc cl W k e x hc hf hg
  cases e <;> try exact absurd hc Bool.false_ne_true
  rename_i l r pos
  match r, hc with
  | .Slice none (some f) none p2, hc =>
    have hc : (chkE N a sc l && chkE N b sc f) = true := hc
    rw [Bool.and_eq_true] at hc
    obtain ⟨f1, f2⟩ := AllC.app (show AllC _ (callsE a ++ callsE b) from hf)
    obtain ⟨g1, g2⟩ := AllC.app (show AllC _ (glosE a ++ glosE b) from hg)
    have p1 := (ia X N sc cl W k l x hc.1 f1 g1).1
    have p2 := (ib X N sc cl W k f x hc.2 f2 g2).1
    refine three ⟨fun pins s σ H Q I ⟨S, G, R, h⟩ => (pe_slice (sl_any (cl := cl) (W := W) (σ0 := σ)) p1 po_none (po_some p2)).run pins s σ H Q I ?_⟩ (fun _ => rfl) rfl
    rw [evE] at h
    refine rd_bind R h fun d k v G1 H1 _ E1 r1 R1 h1 => rd_bind R1 h1 fun d2 k2 v2 G2 H2 _ E2 r2 R2 h2 => ?_
    cases d2 <;> try exact False.elim h2
    obtain rfl := r2.int
    exact ⟨_, rfl, ⟨d, k, H, G2, E2.sub, r1.ext E2, h2⟩⟩
theorem snd_sl {a b c : ME} (ia : Snd a) (ib : Snd b) (ic : Snd c) : Snd (.sl a b c) := by
  intro X N sc cl W k e x hc hf hg
  cases e <;> try exact absurd hc Bool.false_ne_true
  rename_i l r pos
  match r, hc with
  | .Slice (some f) (some g) none p2, hc =>
    have hc : (chkE N a sc l && chkE N b sc f && chkE N c sc g) = true := hc
    rw [Bool.and_eq_true, Bool.and_eq_true] at hc
    obtain ⟨f1, ff⟩ := AllC.app (show AllC _ (callsE a ++ (callsE b ++ callsE c)) from hf)
    obtain ⟨f2, f3⟩ := AllC.app ff
    obtain ⟨g1, gg⟩ := AllC.app (show AllC _ (glosE a ++ (glosE b ++ glosE c)) from hg)
    obtain ⟨g2, g3⟩ := AllC.app gg
    have p1 := (ia X N sc cl W k l x hc.1.1 f1 g1).1
    have p2 := (ib X N sc cl W k f x hc.1.2 f2 g2).1
    have p3 := (ic X N sc cl W k g x hc.2 f3 g3).1
    refine three ⟨fun pins s σ H Q I ⟨S, G, R, h⟩ => (pe_slice (sl_any (cl := cl) (W := W) (σ0 := σ)) p1 (po_some p2) (po_some p3)).run pins s σ H Q I ?_⟩ (fun _ => rfl) rfl
    rw [evE] at h
    refine rd_bind R h fun d k v G1 H1 _ E1 r1 R1 h1 => rd_bind R1 h1 fun d2 k2 v2 G2 H2 _ E2 r2 R2 h2 => ?_
    cases d2 with
    | int i =>
      obtain rfl := r2.int
      refine ⟨_, rfl, rd_bind R2 h2 fun d3 k3 v3 G3 H3 _ E3 r3 R3 h3 => ?_⟩
      cases d3 <;> try exact False.elim h3
      obtain rfl := r3.int
      exact ⟨_, rfl, ⟨d, k, H, G3, E3.sub, (r1.ext E2).ext E3, h3⟩⟩
    | _ => exact False.elim h2
theorem evEs_len : ∀ {es : List ME} {S : List SV} {rs : List (D × Kd)}, evEs es S = .ok rs → rs.length = es.length
  | [], _, _, h => by
    rw [evEs] at h
    cases h
    rfl
  | e :: es, S, rs, h => by
    rw [evEs] at h
    cases e1 : evE e S with
    | stuck => rw [e1] at h; cases h
    | exc => rw [e1] at h; cases h
    | ok r =>
      rw [e1] at h
      have h : ((evEs es S).bind fun rs => Res.ok (r :: rs)) = .ok rs := h
      cases e2 : evEs es S with
      | stuck => rw [e2] at h; cases h
      | exc => rw [e2] at h; cases h
      | ok r2 =>
        rw [e2] at h
        cases h
        rw [List.length_cons, List.length_cons, evEs_len e2]
theorem snd_call (y : Str) (f : Fn) {es : List ME} (ie : SndA es) : Snd (.call y f es) := by
  intro X N sc cl W k e x hc hf hg
  cases e <;> try exact absurd hc Bool.false_ne_true
  rename_i fn as kws pos
  match fn, as, kws, hc with
  | .Name z zp, a :: as, [], hc =>
    have hc : (decide (y = z) && glE sc y && chkEs N es sc (a :: as)) = true := hc
    rw [Bool.and_eq_true, Bool.and_eq_true, decide_eq_true_eq] at hc
    obtain ⟨⟨e1, hc1⟩, hc2⟩ := hc
    subst e1
    obtain ⟨gl1, gl2⟩ := glE_ok x hc1
    obtain ⟨⟨fa, fd, ps, m1, F, kp, bb⟩, ff⟩ := (show GoodFn X.prog X.w X.K X.mg X.base cl k (.fn y es.length f) ∧ AllC _ (callsEs es) from hf)
    have pa := ie X N sc cl W k _ x hc2 ff hg
    have hst : starEach (a :: as) X.env = (false, eval a X.env) :: starEach as X.env := by
      cases es with
      | nil => exact absurd hc2 Bool.false_ne_true
      | cons m ms =>
        have hc2 : (chkE N m sc a && chkEs N ms sc as) = true := hc2
        rw [Bool.and_eq_true] at hc2
        exact chk_star hc2.1
    have hbk : (backTo pos (starEach as X.env)).any (·.1) = false := by
      cases es with
      | nil => exact absurd hc2 Bool.false_ne_true
      | cons m ms =>
        have hc2 : (chkE N m sc a && chkEs N ms sc as) = true := hc2
        rw [Bool.and_eq_true] at hc2
        exact chks_back hc2.2
    refine three (pe_imp (pe_callS F x.room gl1 m1 kp bb (fun σ => passAt x.tk σ) pa gl2 hst hbk) fun σ H Q ⟨S, G, R, h⟩ => ?_) (fun _ => rfl) rfl
    rw [evE] at h
    refine rdA_bind R h fun rs vs G1 H1 ee E1 rr R1 h1 => ?_
    have hlen : vs.length = es.length := by
      rw [rr.len]
      exact evEs_len ee
    refine ⟨hlen, ?_⟩
    cases hb : hasBo rs with
    | false =>
      obtain ⟨G2, E2, s2, rp⟩ := rr.fix E1 hb
      refine ⟨G2, _, E2.sub, rp, ?_⟩
      try dsimp only
      cases ef : f (args1 rs) with
      | stuck => rw [ef] at h1; exact h1
      | exc c =>
        rw [ef] at h1
        exact fun G' H' E' => h1 G' H' (E2.trans E')
      | ok r =>
        rw [ef] at h1
        simp only [Res.bind, hb, Bool.false_eq_true, if_false] at h1
        exact fun v G' H' E' q => h1 v G' H' (E2.trans E') (VR.old E2.h q)
    | true =>
      refine ⟨over G1 H1 (tops vs rs), _, over_sub E1.sub, over_rep rr fun _ z => z, ?_⟩
      try dsimp only
      have hL : ∀ {G' H' : Hp}, Ext (over G1 H1 (tops vs rs)) H1 G' H' → ∀ p ∈ tops vs rs, G1 p = none → ∃ ys, G' p = some (.lst ys) := fun {G' H'} E' p hp g => by
        obtain ⟨ys, hy⟩ := tops_lst rr p hp g
        exact ⟨ys, E'.g _ _ ((over_at g hp).trans hy)⟩
      have mk : ∀ {G' H' : Hp}, Ext (over G1 H1 (tops vs rs)) H1 G' H' → Ext G H (fun b => if b ∈ tops vs rs ∧ G1 b = none then none else G' b) H' := fun {G' H'} E' => ⟨fun b o q => by
        have z := E1.g b o q
        show (if b ∈ tops vs rs ∧ G1 b = none then none else G' b) = _
        rw [if_neg (fun y => by rw [z] at y; cases y.2)]
        exact E'.g b o (over_same b o z), E1.h.trans E'.h, fun b o q => by
        replace q : (if b ∈ tops vs rs ∧ G1 b = none then none else G' b) = some o := q
        split at q
        · cases q
        · exact E'.sub b o q, fun b o q n => by
        replace q : (if b ∈ tops vs rs ∧ G1 b = none then none else G' b) = some o := q
        split at q
        · cases q
        · rename_i y
          cases z : G1 b with
          | some u => exact E1.new b u z n
          | none =>
            refine E1.h.free (E'.new b o q ?_)
            unfold over
            rw [z]
            exact if_neg fun m => y ⟨m, z⟩⟩
      cases ef : f (args1 rs) with
      | stuck => rw [ef] at h1; exact h1
      | exc c =>
        rw [ef] at h1
        exact fun G' H' E' => h1 _ H' (mk E')
      | ok r =>
        rw [ef] at h1
        simp only [Res.bind, hb, if_true] at h1
        split at h1
        · rename_i hz
          intro v G' H' E' q
          refine h1 v _ H' (mk E') ?_
          obtain ⟨d, fr⟩ := r
          cases fr with
          | false =>
            have hz : noL d = true := by cases d <;> exact hz
            exact noL_rep (hL E') q hz
          | true =>
            rcases q with ⟨p, xs, ds, e1, e2, h0, h2, h3, rp⟩ | q
            rotate_left
            · obtain ⟨_, e2⟩ := q.isTup
              have e2 : d = .tup _ := e2
              subst e2
              cases hz
            have e2 : d = .lst ds := e2
            subst e2
            refine .inl ⟨p, xs, ds, e1, rfl, E1.h.free h0, h2, ?_, noLs_rep (hL E') rp hz⟩
            show (if p ∈ tops vs rs ∧ G1 p = none then none else G' p) = none
            split
            · rfl
            · exact h3
        · exact False.elim h1
/-- a list of an object -/
theorem snd_attr (i : Nat) (w : Bool) : Snd (.attr i w) := by
  intro X N sc cl W k e x hc hf hg
  unfold chkE at hc
  split at hc
  case h_2 => exact absurd hc Bool.false_ne_true
  rename_i z zp y pos
  rw [Bool.and_eq_true, decide_eq_true_eq] at hc
  obtain ⟨hy, hv⟩ := hc
  obtain ⟨v1, v2, v3, v4⟩ := visE_ok x hv
  refine three (pe_imp (pe_fld (pe_var v1 v2 v3 v4) rfl) fun σ H Q ⟨S, G, R, h⟩ => ?_) (fun _ => rfl) rfl
  rw [evE] at h
  split at h
  · rename_i d hS
    obtain ⟨v, e1, r⟩ := R.sl i _ hS
    cases d <;> try exact False.elim h
    rename_i rows cls
    cases r with
    | ob hC ha hr hcl r1 r2 =>
      cases w with
      | false =>
        have hy : y = "rows" := hy
        subst hy
        exact ⟨_, e1, _, _, _, _, _, rfl, R.sub _ _ ha, hC.cl, hC.nR, spF_rows _ _, h.fin R.sub (.lst hr r1)⟩
      | true =>
        have hy : y = "cleared" := hy
        subst hy
        exact ⟨_, e1, _, _, _, _, _, rfl, R.sub _ _ ha, hC.cl, hC.nC, spF_cleared _ _, h.fin R.sub (.lst hcl r2)⟩
  · exact False.elim h
theorem isOb_ob {d : D} (h : isOb d = true) : ∃ rows cl, d = .ob rows cl := by
  cases d <;> first
    | exact ⟨_, _, rfl⟩
    | (unfold isOb at h; cases h)
theorem meth_ht {z y : Str} {zp ap pos : Pos} {a : Expr} {env : Env} (hst : starEach [a] env = (false, eval a env) :: starEach [] env) (hl : (ap.endLine == pos.line) = true) :
    eval (.Call (.Attribute (.Name z zp) y ap) [a] [] pos) env = (do
      let ov ← eval (.Name z zp) env
      standAt ap.atName
      let (f, first) ← holding [ov] (getMethod ov y (do return (← importBound (.Name z zp) env).getD true))
      callWith pos f first (backTo pos (starEach [a] env)) (backToKw pos (keywordEach [] env))) := by
  rw [arm_eval_Call]
  have hbase : attributeBase (.Name z zp) y env (eval (.Name z zp) env) = eval (.Name z zp) env := rfl
  have hform : methodCallForm ([a].length + ([] : List Keyword).length) (backTo pos (starEach [a] env)) (backToKw pos (keywordEach [] env)) = true := by
    rw [hst]; rfl
  rw [hbase]
  unfold methodCall
  rw [hform]
  unfold calleeOf methodCallPos
  simp only [hl, if_true, Bool.not_true, Bool.or_true]
  rfl
/-- a method that reads its object -/
theorem snd_mcall (i : Nat) (y : Str) (f : Fn) {m : ME} (ie : Snd m) : Snd (.mcall i y f m) := by
  intro X N sc cl W k e x hc hf hg
  unfold chkE at hc
  split at hc
  case h_2 => exact absurd hc Bool.false_ne_true
  rename_i z zp y' ap a pos
  simp only [Bool.and_eq_true, decide_eq_true_eq] at hc
  obtain ⟨⟨⟨rfl, hv⟩, hl⟩, hcM⟩ := hc
  obtain ⟨v1, v2, v3, v4⟩ := visE_ok x hv
  obtain ⟨⟨C, fa, fd, ps, hC, hm, hno, F, bb⟩, ff⟩ := (show GoodFn X.prog X.w X.K X.mg X.base cl k (.mt y' 2 f) ∧ AllC _ (callsE m) from hf)
  have pe := (ie X N sc cl W k a x hcM ff hg).1
  have hst : starEach [a] X.env = (false, eval a X.env) :: starEach [] X.env := chk_star hcM
  refine three (pe_imp (pe_meth (pe_var v1 v2 v3 v4) hC.cl hm F x.room bb .nil passL (pa_cons pe pa_nil hst) hst rfl (meth_ht hst hl)) fun σ H Q ⟨S, G, R, h⟩ => ?_) (fun _ => rfl) rfl
  rw [evE] at h
  split at h
  · rename_i d hS
    obtain ⟨v, e1, r⟩ := R.sl i _ hS
    split at h
    · rename_i hob
      obtain ⟨rows, cls, rfl⟩ := isOb_ob hob
      cases r with
      | ob hC' ha hr hcl r1 r2 =>
        cases hC.uniq hC'
        refine ⟨_, e1, _, _, _, rfl, R.sub _ _ ha, hno _ _, ?_⟩
        refine ⟨S, G, R, ?_⟩
        cases ev : evE m S with
        | stuck => rw [ev] at h; exact h
        | exc c => rw [ev] at h; exact h
        | ok q =>
          rw [ev] at h
          obtain ⟨d, kd⟩ := q
          intro v G1 H1 E1 rr
          have h1 : Kx X.K cl W σ G H (if kd = Kd.bo then Res.stuck else retD (f [.ob rows cls, d])) Q := h
          split at h1
          · exact False.elim h1
          · rename_i hb
            obtain ⟨G2, E2, s2, rp⟩ := VR.fix E1 rr hb
            have rp2 : RepL X.K G2 _ [.ob rows cls, d] := .cons (.ob hC' (E2.g _ _ ha) (E2.g _ _ hr) (E2.g _ _ hcl) (r1.mono E2.g) (r2.mono E2.g)) (.cons rp .nil)
            refine ⟨rfl, G2, [.ob rows cls, d], E2.sub, rp2, ?_⟩
            cases ef : f [.ob rows cls, d] with
            | stuck => rw [ef] at h1; exact False.elim h1
            | exc c => rw [ef] at h1; exact False.elim h1
            | ok r =>
              rw [ef] at h1
              exact fun v' G' H' E' q => h1 v' G' H' (E2.trans E') (VR.old E2.h q)
    · exact False.elim h
  · exact False.elim h
end MP
set_option Elab.async false
set_option linter.all false
set_option maxRecDepth 100000
set_option maxHeartbeats 4000000
namespace MP
open PySem PySem.Spec PyProof.Rows L2 RT

section
variable {X : Cx} {N : List Str} {sc : Scope} {W : WX} {k : Nat}
theorem chks_star {es : List ME} {a : Expr} {as : List Expr} (hc : chkEs N es sc (a :: as) = true) : starEach (a :: as) X.env = (false, eval a X.env) :: starEach as X.env ∧ ∀ pos, (backTo pos (starEach as X.env)).any (·.1) = false := by
  cases es with
  | nil => exact absurd hc Bool.false_ne_true
  | cons m ms =>
    have hc : (chkE N m sc a && chkEs N ms sc as) = true := hc
    rw [Bool.and_eq_true] at hc
    exact ⟨chk_star hc.1, fun pos => chks_back hc.2⟩
end
theorem snd_blt (b : Blt) {es : List ME} (ie : SndA es) : Snd (.blt b es) := by
  intro X N sc cl W k e x hc hf hg
  cases e <;> try exact absurd hc Bool.false_ne_true
  rename_i fn as kws pos
  match fn, as, kws, hc with
  | .Name z zp, a :: as, [], hc =>
    have hc : (decide (z = bltName b) && glE sc z && chkEs N es sc (a :: as)) = true := hc
    rw [Bool.and_eq_true, Bool.and_eq_true, decide_eq_true_eq] at hc
    obtain ⟨⟨e1, hc1⟩, hc2⟩ := hc
    subst e1
    obtain ⟨gl1, gl2⟩ := glE_ok x hc1
    have pa := ie X N sc cl W k _ x hc2 hf hg
    obtain ⟨hst, hbk⟩ := chks_star (X := X) hc2
    have go : ∀ {σ : L2.St} {H : Hp} {Q : VK}, rd X.K cl W (.blt b es) σ H Q → tCB (rArgs X.K cl W σ (evBlt b)) (rdA X.K cl W es) σ H Q := fun {σ H Q} ⟨S, G, R, h⟩ => by
      rw [evE] at h
      exact rdA_bind R h fun rs vs G1 H1 ee E1 rr R1 h1 => ⟨rs, H, G1, E1.sub, rr, h1.ext E1⟩
    cases b with
    | len => exact three ⟨fun pins s σ H Q I h => (pe_callB (b_len (cl := cl) (W := W) (σ0 := σ)) gl1 x.blt.len (by decide +kernel) pa (by decide +kernel) gl2 hst (hbk _)).run pins s σ H Q I (go h)⟩ (fun _ => rfl) rfl
    | abs => exact three ⟨fun pins s σ H Q I h => (pe_callB (b_abs (cl := cl) (W := W) (σ0 := σ)) gl1 x.blt.abs (by decide +kernel) pa (by decide +kernel) gl2 hst (hbk _)).run pins s σ H Q I (go h)⟩ (fun _ => rfl) rfl
    | max => exact three ⟨fun pins s σ H Q I h => (pe_callB (b_max (cl := cl) (W := W) (σ0 := σ) x.calm) gl1 x.blt.max (by decide +kernel) pa (by decide +kernel) gl2 hst (hbk _)).run pins s σ H Q I (go h)⟩ (fun _ => rfl) rfl
    | min => exact three ⟨fun pins s σ H Q I h => (pe_callB (b_min (cl := cl) (W := W) (σ0 := σ) x.calm) gl1 x.blt.min (by decide +kernel) pa (by decide +kernel) gl2 hst (hbk _)).run pins s σ H Q I (go h)⟩ (fun _ => rfl) rfl
    | list => exact three ⟨fun pins s σ H Q I h => (pe_callTy (b_list (cl := cl) (W := W) (σ0 := σ)) gl1 x.blt.list (by decide +kernel) pa (by decide +kernel) gl2 hst (hbk _)).run pins s σ H Q I (go h)⟩ (fun _ => rfl) rfl
    | tuple => exact three ⟨fun pins s σ H Q I h => (pe_callTy (b_tuple (cl := cl) (W := W) (σ0 := σ)) gl1 x.blt.tuple (by decide +kernel) pa (by decide +kernel) gl2 hst (hbk _)).run pins s σ H Q I (go h)⟩ (fun _ => rfl) rfl
    | str => exact three ⟨fun pins s σ H Q I h => (pe_callTy (b_str (cl := cl) (W := W) (σ0 := σ)) gl1 x.blt.str (by decide +kernel) pa (by decide +kernel) gl2 hst (hbk _)).run pins s σ H Q I (go h)⟩ (fun _ => rfl) rfl
    | int => exact three ⟨fun pins s σ H Q I h => (pe_callTy (b_int (cl := cl) (W := W) (σ0 := σ)) gl1 x.blt.int (by decide +kernel) pa (by decide +kernel) gl2 hst (hbk _)).run pins s σ H Q I (go h)⟩ (fun _ => rfl) rfl

theorem strs_rep {K : PySem.W.Frag} {G : Hp} : ∀ {ds : List D} {ys : List Str} {xs : List V}, strsOf ds = some ys → RepL K G xs ds → xs = ys.map V.str
  | [], ys, xs, h, r => by
    cases h
    cases r
    rfl
  | d :: ds, ys, xs, h, r => by
    cases d <;> try (cases h)
    rename_i s
    unfold strsOf at h
    split at h
    · rename_i ss hs
      cases h
      cases r with
      | cons q r =>
        cases q
        rw [strs_rep hs r]; rfl
    · cases h
/-- sep.join(e) -/
theorem snd_join (t : Str) {a : ME} (ia : Snd a) : Snd (.join t a) := by
  intro X N sc cl W k e x hc hf hg
  unfold chkE at hc
  split at hc
  case h_2 => exact absurd hc Bool.false_ne_true
  rename_i t' k1 p1 y ap f cp
  simp only [Bool.and_eq_true, decide_eq_true_eq] at hc
  obtain ⟨⟨⟨rfl, rfl⟩, hl⟩, hc2⟩ := hc
  have p := (ia X N sc cl W k f x hc2 hf hg).1
  refine three (pe_imp (pe_join (pe_str (X := X) (x := t)) p (chk_star hc2) rfl hl) fun σ H Q ⟨S, G, R, h⟩ => ?_) (fun _ => rfl) rfl
  rw [evE] at h
  refine ⟨⟨t, rfl⟩, ?_⟩
  refine rd_bind R h fun d kd v G1 H1 _ E1 r1 R1 h1 => ?_
  dsimp only at h1
  cases d <;> try exact False.elim h1
  · rename_i ds
    obtain ⟨p, xs, rfl, t1, q1⟩ := r1.tup
    simp only [joinD] at h1
    split at h1
    · rename_i ys hys
      split at h1
      · rename_i hz
        have e := strs_rep hys q1
        subst e
        exact ⟨t, p, ys, rfl, rfl, .inr (seqT E1.sub t1), hz, h1.fin E1.sub (.str _)⟩
      · exact False.elim h1
    · exact False.elim h1
  · rename_i ds
    obtain ⟨p, xs, rfl, t1, q1⟩ := r1.list E1.sub
    simp only [joinD] at h1
    split at h1
    · rename_i ys hys
      split at h1
      · rename_i hz
        have e := strs_rep hys q1
        subst e
        exact ⟨t, p, ys, rfl, rfl, .inl (SqL.of t1), hz, h1.fin E1.sub (.str _)⟩
      · exact False.elim h1
    · exact False.elim h1
theorem rep_strs {K : PySem.W.Frag} {G : Hp} : ∀ ys : List Str, RepL K G (ys.map V.str) (ys.map D.str)
  | [] => .nil
  | y :: ys => .cons (.str y) (rep_strs ys)
/-- e.split(sep) -/
theorem snd_split (t : Str) {a : ME} (ia : Snd a) : Snd (.split a t) := by
  intro X N sc cl W k e x hc hf hg
  unfold chkE at hc
  split at hc
  case h_2 => exact absurd hc Bool.false_ne_true
  rename_i o y ap t' k1 p1 cp
  simp only [Bool.and_eq_true, decide_eq_true_eq] at hc
  obtain ⟨⟨⟨⟨rfl, rfl⟩, hl⟩, ho⟩, hc2⟩ := hc
  have p := (ia X N sc cl W k o x hc2 hf hg).1
  have hb : attributeBase o "split" X.env (eval o X.env) = eval o X.env := by
    cases o <;> first
      | rfl
      | exact absurd ho Bool.false_ne_true
  refine three (pe_imp (pe_split p (pe_str (X := X) (x := t)) rfl hb hl) fun σ H Q ⟨S, G, R, h⟩ => ?_) (fun _ => rfl) rfl
  rw [evE] at h
  refine rd_bind R h fun d kd v G1 H1 hev E1 r1 R1 h1 => ?_
  dsimp only at h1
  clear hev
  cases d <;> try exact False.elim h1
  rename_i z
  obtain rfl := r1.str
  simp only [splitD] at h1
  split at h1
  · rename_i hz
    refine ⟨⟨z, rfl⟩, z, t, rfl, rfl, hz.1, by rw [szl]; exact hz.2, fun p hp => ?_⟩
    exact h1.new (Ext.newH E1.sub hp) (.inl ⟨p, _, _, rfl, rfl, hp, upd_same, E1.sub.free hp, rep_strs _⟩)
  · exact False.elim h1
/-- len(name) of lists within lists -/
theorem snd_dlen (i : Nat) : Snd (.dlen i) := by
  intro X N sc cl W k e x hc hf hg
  unfold chkE at hc
  split at hc
  case h_2 => exact absurd hc Bool.false_ne_true
  rename_i y yp z zp pos
  simp only [Bool.and_eq_true, decide_eq_true_eq] at hc
  obtain ⟨⟨rfl, hc1⟩, hc2⟩ := hc
  obtain ⟨gl1, gl2⟩ := glE_ok x hc1
  obtain ⟨v1, v2, v3, v4⟩ := visE_ok x hc2
  refine three (pe_imp (pe_callB call_len_seq gl1 x.blt.len (by decide +kernel) (pa_cons (pe_var v1 v2 v3 v4) pa_nil rfl) (by decide +kernel) gl2) fun σ H Q ⟨S, G, R, h⟩ => ?_) (fun _ => rfl) rfl
  rw [evE] at h
  split at h
  · rename_i n ds hS
    obtain ⟨a, xs, ds', e1, e2, e3, e4⟩ := R.sl i _ hS
    cases e1
    refine ⟨_, e2, _, _, rfl, .inl (SqL.of e3), ?_⟩
    rw [e4]
    exact h.fin R.sub (.int _)
  · exact False.elim h

theorem boot_ty (t : Ty) : bootBuiltins (PySem.Str.ofString (tyName t)) = some (.type (tyName t)) := by
  cases t <;> decide +kernel
theorem snd_isi (t : Ty) {a : ME} (ia : Snd a) : Snd (.isi a t) := by
  intro X N sc cl W k e x hc hf hg
  cases e <;> try exact absurd hc Bool.false_ne_true
  rename_i fn as kws pos
  match fn, as, kws, hc with
  | .Name y yp, [l, .Name z zp], [], hc =>
    have hc : (decide (y = "isinstance") && decide (z = PySem.Str.ofString (tyName t)) && glE sc y && glE sc z && chkE N a sc l) = true := hc
    simp only [Bool.and_eq_true, decide_eq_true_eq] at hc
    obtain ⟨⟨⟨⟨e1, e2⟩, hc1⟩, hc2⟩, hc3⟩ := hc
    subst e1 e2
    obtain ⟨gl1, gl2⟩ := glE_ok x hc1
    obtain ⟨gt1, gt2⟩ := glE_ok x hc2
    have p1 := (ia X N sc cl W k l x hc3 hf hg).1
    have hm : X.mg (PySem.Str.ofString (tyName t)) = none := by
      cases t
      · exact x.blt.int
      · exact x.blt.bool
      · exact x.blt.tuple
      · exact x.blt.list
      · exact x.blt.str
    have pty : PE X (.Name (PySem.Str.ofString (tyName t)) zp) (tC (.ty (tyName t))) := pe_bltn gt1 hm (boot_ty t) rfl (by cases t <;> decide +kernel) gt2
    have pa : PA X [l, .Name (PySem.Str.ofString (tyName t)) zp] _ := pa_cons p1 (pa_cons pty pa_nil) (chk_star hc3)
    refine three ⟨fun pins s σ H Q I ⟨S, G, R, h⟩ => (pe_callB call_isi gl1 x.blt.isi (by decide +kernel) pa (by decide +kernel) gl2 (chk_star hc3) rfl).run pins s σ H Q I ?_⟩ (fun _ => rfl) rfl
    rw [evE] at h
    show rd X.K cl W a σ H _
    refine rd_bind R h fun d kd v G1 H1 _ E1 r1 R1 h1 => ?_
    have fin : ∀ d', d = d' → (∀ ns, d' ≠ .scr ns) → (∀ rows cl, d' ≠ .ob rows cl) → Kx X.K cl W σ G1 H1 (.ok (.bl (evIsi d' t), .sh)) Q → rIsi X.K [v, .ty (tyName t)] H1 Q := fun d' e hd ho h1 => by
      subst e
      exact ⟨v, .ty (tyName t), .type (tyOfD d), .type (tyName t), evIsi d t, rfl, .ty _, tyx R1.sub r1 hd ho, kit_ty (kit_all d t hd ho), h1.fin R1.sub (.bl _)⟩
    cases d with
    | scr ns => exact False.elim h1
    | ob rows cls => exact False.elim h1
    | _ => exact fin _ rfl (fun _ z => by cases z) (fun _ _ z => by cases z) h1

theorem snd_tup {es : List ME} (ie : SndA es) : Snd (.tup es) := by
  intro X N sc cl W k e x hc hf hg
  cases e <;> try exact absurd hc Bool.false_ne_true
  rename_i as kk pos
  have pa := ie X N sc cl W k as x hc hf hg
  refine three (pe_imp (pe_tup pa) fun σ H Q ⟨S, G, R, h⟩ => ?_) (fun _ => rfl) rfl
  rw [evE] at h
  refine rdA_bind R h fun rs vs G1 H1 ee E1 rr R1 h1 => ?_
  split at h1
  · exact False.elim h1
  · rename_i hb
    split at h1
    · rename_i hl
      obtain ⟨G2, E2, s2, rp⟩ := rr.fix E1 (by simpa using hb)
      refine ⟨by rw [rr.len, szl]; omega, fun p hp => ?_⟩
      exact h1.new (E2.trans (Ext.newG E2.sub hp)) (show Rep _ _ _ _ from .tup (SqT.of upd_same) (rp.mono (same_upd (E2.sub.free hp) _)))
    · exact False.elim h1
theorem snd_lst {es : List ME} (ie : SndA es) : Snd (.lst es) := by
  intro X N sc cl W k e x hc hf hg
  cases e <;> try exact absurd hc Bool.false_ne_true
  rename_i as pos
  have pa := ie X N sc cl W k as x hc hf hg
  refine three (pe_imp (pe_lst pa) fun σ H Q ⟨S, G, R, h⟩ => ?_) (fun _ => rfl) rfl
  rw [evE] at h
  refine rdA_bind R h fun rs vs G1 H1 ee E1 rr R1 h1 => ?_
  split at h1
  · exact False.elim h1
  · rename_i hb
    split at h1
    · rename_i hl
      obtain ⟨G2, E2, s2, rp⟩ := rr.fix E1 (by simpa using hb)
      refine ⟨by rw [rr.len, szl]; omega, fun p hp => ?_⟩
      exact h1.new (E2.trans (Ext.newH E2.sub hp)) (.inl ⟨p, _, _, rfl, rfl, E2.h.free hp, upd_same, E2.sub.free hp, rp⟩)
    · exact False.elim h1
theorem snd_nil : SndA [] := by
  intro X N sc cl W k es x hc hf hg
  cases es with
  | cons => exact absurd hc Bool.false_ne_true
  | nil =>
    refine pa_imp pa_nil fun σ H Q ⟨S, G, R, h⟩ => ?_
    rw [evEs] at h
    exact h [] G H (Ext.refl R.sub) trivial
theorem snd_cons {m : ME} {ms : List ME} (ia : Snd m) (ib : SndA ms) : SndA (m :: ms) := by
  intro X N sc cl W k es x hc hf hg
  cases es with
  | nil => exact absurd hc Bool.false_ne_true
  | cons e es =>
    have hc : (chkE N m sc e && chkEs N ms sc es) = true := hc
    rw [Bool.and_eq_true] at hc
    obtain ⟨f1, f2⟩ := AllC.app (show AllC _ (callsE m ++ callsEs ms) from hf)
    obtain ⟨g1, g2⟩ := AllC.app (show AllC _ (glosE m ++ glosEs ms) from hg)
    have p1 := (ia X N sc cl W k e x hc.1 f1 g1).1
    have p2 := ib X N sc cl W k es x hc.2 f2 g2
    refine pa_imp (pa_cons p1 p2 (chk_star hc.1)) fun σ H Q ⟨S, G, R, h⟩ => ?_
    rw [evEs] at h
    refine ⟨S, G, R, ?_⟩
    cases e1 : evE m S with
    | stuck => rw [e1] at h; exact h
    | exc c => rw [e1] at h; exact h
    | ok r =>
      rw [e1] at h
      intro v G1 H1 E1 r1
      refine ⟨S, G1, R.ext E1, ?_⟩
      cases e2 : evEs ms S with
      | stuck => simp only [Res.bind, e2] at h; exact h
      | exc c =>
        simp only [Res.bind, e2] at h
        exact fun G' H' E' => h G' H' (E1.trans E')
      | ok rs =>
        simp only [Res.bind, e2] at h
        intro vs G2 H2 E2 r2
        exact h (v :: vs) G2 H2 (E1.trans E2) ⟨r1.ext E2, VRs.old E1.h r2⟩
theorem snd_tupRev {a : ME} (ia : Snd a) : Snd (.tupRev a) := by
  intro X N sc cl W k e x hc hf hg
  unfold chkE at hc
  split at hc
  case h_2 => exact absurd hc Bool.false_ne_true
  rename_i y yp z zp f p2 pos
  have hcB : (decide (y = "tuple") && decide (z = "reversed") && glE sc y && glE sc z && chkE N a sc f) = true := hc
  simp only [Bool.and_eq_true, decide_eq_true_eq] at hcB
  obtain ⟨⟨⟨⟨rfl, rfl⟩, h1⟩, h2⟩, hcM⟩ := hcB
  have p1 := (ia X N sc cl W k f x hcM hf hg).1
  refine three (pe_imp (pe_tupRevA x.calm (glE_ok x h1).1 x.blt.tuple (glE_ok x h2).1 x.blt.rev p1 (chk_star hcM) rfl) fun σ H Q ⟨S, G, R, h⟩ => ?_) (fun _ => rfl) rfl
  rw [evE] at h
  refine rd_bind R h fun d k v G1 H1 _ E1 r1 R1 h1 => ?_
  cases d <;> try exact False.elim h1
  · obtain ⟨p, xs, rfl, t, q⟩ := r1.tup
    exact ⟨p, xs, rfl, .inr (seqT R1.sub t), fun q' hq => Kx.new h1 (Ext.newG R1.sub hq) (show Rep _ _ _ _ from .tup (SqT.of upd_same) (q.rev.mono (same_upd (R1.sub.free hq) _)))⟩
  · obtain ⟨p, xs, rfl, t, q⟩ := r1.list R1.sub
    exact ⟨p, xs, rfl, .inl (SqL.of t), fun q' hq => Kx.new h1 (Ext.newG R1.sub hq) (show Rep _ _ _ _ from .tup (SqT.of upd_same) (q.rev.mono (same_upd (R1.sub.free hq) _)))⟩
end MP
set_option Elab.async false
set_option linter.all false
set_option maxRecDepth 100000
set_option maxHeartbeats 4000000
namespace MP
open PySem PySem.Spec PyProof.Rows L2 RT

/-! ### what is walked, by its data -/
def evI (k : IK) (es : List ME) (S : List SV) : Res (List D) := (evEs es S).bind fun rs => if hasBo rs = true then .stuck else items k (args1 rs)
def Ki (K : PySem.W.Frag) (cl : Str → Value) (W : WX) (σ : L2.St) (G H : Hp) (r : Res (List D)) (R : It → Hp → Prop) : Prop := match r with
  | .ok ds => ∀ J vs G' H', Ext G H G' H' → WalkOk J G' vs → RepL K G' vs ds → R J H'
  | .exc c => ∀ G' H', Ext G H G' H' → W (cl c) none σ H'
  | .stuck => False
def rdI (K : PySem.W.Frag) (cl : Str → Value) (W : WX) (k : IK) (es : List ME) : TI := fun σ H R => ∃ S G, EvRel K S σ G H ∧ Ki K cl W σ G H (evI k es S) R
theorem pi_imp {X : Cx} {tg e : Expr} {t t' : TI} (h : PI X tg e t) (i : ∀ σ H R, t' σ H R → t σ H R) : PI X tg e t' := ⟨fun pins s σ H R I q => h.run pins s σ H R I (i σ H R q)⟩
def chkI (N : List Str) (sc : Scope) (k : IK) (es : List ME) (it : Expr) : Bool := match k, it with
  | .range1, .Call (.Name y _) [f] [] _ => decide (y = "range") && glE sc y && chkEs N es sc [f]
  | .range2, .Call (.Name y _) [f, g] [] _ => decide (y = "range") && glE sc y && chkEs N es sc [f, g]
  | .rev, .Call (.Name y _) [f] [] _ => decide (y = "reversed") && glE sc y && chkEs N es sc [f]
  | .val, f => chkEs N es sc [f]
  | _, _ => false
theorem chks_one {N : List Str} {sc : Scope} {es : List ME} {f : Expr} (h : chkEs N es sc [f] = true) : ∃ m, es = [m] ∧ chkE N m sc f = true := by
  match es, h with
  | [m], h =>
    have h : (chkE N m sc f && true) = true := h
    rw [Bool.and_true] at h
    exact ⟨m, rfl, h⟩
  | [], h => exact absurd h Bool.false_ne_true
  | m :: m2 :: ms, h =>
    have h : (chkE N m sc f && false) = true := h
    rw [Bool.and_false] at h
    cases h
theorem evI_args {k : IK} {es : List ME} {S : List SV} {K : PySem.W.Frag} {cl : Str → Value} {W : WX} {σ : L2.St} {G H : Hp} {R : It → Hp → Prop} {Q' : List V → Hp → Prop} (r : EvRel K S σ G H) (h : Ki K cl W σ G H (evI k es S) R)
    (hk : ∀ rs vs G1 H1, Ext G H G1 H1 → RepL K G1 vs (args1 rs) → Ki K cl W σ G H (items k (args1 rs)) R → Q' vs H1) : rdA K cl W es σ H Q' := by
  refine ⟨S, G, r, ?_⟩
  unfold evI at h
  cases e : evEs es S with
  | stuck => rw [e] at h; exact h
  | exc c => rw [e] at h; exact h
  | ok rs =>
    simp only [e, Res.bind] at h
    intro vs G1 H1 E1 rr
    split at h
    · exact False.elim h
    · rename_i hb
      obtain ⟨G2, E2, s2, rp⟩ := rr.fix E1 (by simpa using hb)
      exact hk rs vs G2 H1 E2 rp h
theorem sndA_of : ∀ {es : List ME}, AllC Snd es → SndA es
  | [], _ => snd_nil
  | _ :: _, h => snd_cons h.1 (sndA_of h.2)
theorem rd_one {X : Cx} {cl : Str → Value} {W : WX} {σ : L2.St} {m : ME} {k : IK} {S : List SV} {G H : Hp} {R : It → Hp → Prop} {Q' : VK} (r : EvRel X.K S σ G H) (h : Ki X.K cl W σ G H (evI k [m] S) R)
    (hk : ∀ d v G1 H1, Ext G H G1 H1 → Rep X.K G1 v d → Ki X.K cl W σ G H (items k [d]) R → Q' v H1) : rd X.K cl W m σ H Q' := by
  refine ⟨S, G, r, ?_⟩
  unfold evI at h
  rw [evEs] at h
  cases e : evE m S with
  | stuck => rw [e] at h; exact h
  | exc c => rw [e] at h; exact h
  | ok p =>
    obtain ⟨d, kd⟩ := p
    rw [e] at h
    simp only [Res.bind, evEs] at h
    intro v G1 H1 E1 rr
    by_cases hb : kd = .bo
    · subst hb
      exact False.elim h
    · have hb' : hasBo [(d, kd)] = false := by simp [hasBo, hb]
      rw [hb'] at h
      obtain ⟨G2, E2, s2, rp⟩ := rr.fix E1 hb
      exact hk d v G2 H1 E2 rp h
theorem chks_two {N : List Str} {sc : Scope} {es : List ME} {f g : Expr} (h : chkEs N es sc [f, g] = true) : ∃ m l, es = [m, l] ∧ chkE N m sc f = true ∧ chkE N l sc g = true := by
  cases es with
  | nil => exact absurd h Bool.false_ne_true
  | cons m ms =>
    have h : (chkE N m sc f && chkEs N ms sc [g]) = true := h
    rw [Bool.and_eq_true] at h
    obtain ⟨l, e, z⟩ := chks_one h.2
    subst e
    exact ⟨m, l, rfl, h.1, z⟩
theorem rng_items {lo : Int} {n : Nat} {K : PySem.W.Frag} {G : Hp} : RepL K G ((List.range n).map fun (i : Nat) => V.int (lo + i)) ((List.range n).map fun (i : Nat) => D.int (lo + i)) := by
  have e1 : ((List.range n).map fun (i : Nat) => V.int (lo + i)) = ((List.range n).map fun (i : Nat) => lo + (i : Int)).map V.int := by rw [List.map_map]; rfl
  have e2 : ((List.range n).map fun (i : Nat) => D.int (lo + i)) = ((List.range n).map fun (i : Nat) => lo + (i : Int)).map D.int := by rw [List.map_map]; rfl
  rw [e1, e2]
  exact RepL.ints _
theorem chars_rep {K : PySem.W.Frag} {G : Hp} : ∀ cs : List Nat, RepL K G (cs.map fun c => V.str ⟨#[c]⟩) (cs.map fun c => D.str ⟨#[c]⟩)
  | [] => .nil
  | c :: cs => .cons (.str _) (chars_rep cs)
theorem snd_pi {k : IK} {es : List ME} (ie : AllC Snd es) {X : Cx} {N : List Str} {sc : Scope} {cl : Str → Value} {W : WX} {n : Nat} {tg it : Expr} (x : XOk X N sc W n) (hc : chkI N sc k es it = true)
    (hf : AllC (GoodFn X.prog X.w X.K X.mg X.base cl n) (callsEs es)) (hg : AllC (GoodGl X.K X.mg) (glosEs es)) : PI X tg it (rdI X.K cl W k es) ∧ ∀ v, foldedSetIterable it X.env v = pure v := by
  have single : ∀ {m : ME} {f : Expr}, es = [m] → chkE N m sc f = true → PE X f (rd X.K cl W m) := fun {m f} e hm => by
    subst e
    exact (ie.1 X N sc cl W n f x hm (AllC.app (show AllC _ (callsE m ++ callsEs []) from hf)).1 (AllC.app (show AllC _ (glosE m ++ glosEs []) from hg)).1).1
  cases k with
  | val =>
    obtain ⟨m, e, hm⟩ := chks_one (show chkEs N es sc [it] = true from hc)
    refine ⟨pi_imp (pi_any (single e hm)) fun σ H R ⟨S, G, r, h⟩ => ?_, chk_folded hm⟩
    subst e
    refine rd_one r h fun d v G1 H1 E1 rp h1 => ?_
    cases d <;> try exact False.elim h1
    · rename_i z
      cases rp
      exact .inr ⟨z, rfl, h1 _ _ G1 H1 E1 (walk_str z) (chars_rep _)⟩
    · cases rp with
      | tup t q => exact .inl ⟨_, rfl, .inr ⟨⟨_, seqT E1.sub t⟩, h1 _ _ G1 H1 E1 (walk_tup t) q⟩⟩
    · cases rp with
      | lst t q => exact .inl ⟨_, rfl, .inl ⟨⟨_, SqL.of (E1.sub _ _ t)⟩, h1 _ _ G1 H1 E1 (walk_list t) q⟩⟩
  | rev =>
    cases it <;> try exact absurd hc Bool.false_ne_true
    rename_i fn as kws pos
    match fn, as, kws, hc with
    | .Name y yp, [f], [], hc =>
      have hc : (decide (y = "reversed") && glE sc y && chkEs N es sc [f]) = true := hc
      simp only [Bool.and_eq_true, decide_eq_true_eq] at hc
      obtain ⟨⟨e1, hc1⟩, hc2⟩ := hc
      subst e1
      obtain ⟨m, e, hm⟩ := chks_one hc2
      refine ⟨pi_imp (pi_revA (glE_ok x hc1).1 x.blt.rev (single e hm) (chk_star hm)) fun σ H R ⟨S, G, r, h⟩ => ?_, fun _ => rfl⟩
      subst e
      refine rd_one r h fun d v G1 H1 E1 rp h1 => ?_
      cases d <;> try exact False.elim h1
      · cases rp with
        | tup t q => exact ⟨_, _, rfl, .inr ⟨seqT E1.sub t, h1 _ _ G1 H1 E1 (walk_revT t) q.rev⟩⟩
      · cases rp with
        | lst t q => exact ⟨_, _, rfl, .inl ⟨SqL.of (E1.sub _ _ t), h1 _ _ G1 H1 E1 (walk_rev t) q.rev⟩⟩
    | .Name y yp, [], [], hc => exact absurd hc Bool.false_ne_true
    | .Name y yp, [_], _ :: _, hc => exact absurd hc Bool.false_ne_true
    | .Name y yp, _ :: _ :: _, _, hc => exact absurd hc (by simp [chkI])
  | range1 =>
    cases it <;> try exact absurd hc Bool.false_ne_true
    rename_i fn as kws pos
    match fn, as, kws, hc with
    | .Name y yp, [f], [], hc =>
      have hc : (decide (y = "range") && glE sc y && chkEs N es sc [f]) = true := hc
      simp only [Bool.and_eq_true, decide_eq_true_eq] at hc
      obtain ⟨⟨e1, hc1⟩, hc2⟩ := hc
      subst e1
      obtain ⟨m, e, hm⟩ := chks_one hc2
      have pa := sndA_of ie X N sc cl W n [f] x hc2 hf hg
      refine ⟨pi_imp (pi_range1 (glE_ok x hc1).1 x.blt.range pa (chk_star hm)) fun σ H R ⟨S, G, r, h⟩ => ?_, fun _ => rfl⟩
      refine evI_args r h fun rs vs G1 H1 E1 rp h1 => ?_
      generalize args1 rs = as at h1 rp
      match as, h1, rp with
      | [.int j], h1, rp =>
        cases rp with
        | cons q qs =>
          cases q
          cases qs
          simp only [items] at h1
          split at h1
          · refine ⟨j, rfl, by omega, by omega, ?_⟩
            have w := walk_rng (G := G1) 0 j.toNat
            have rr := rng_items (lo := 0) (n := j.toNat) (K := X.K) (G := G1)
            simp only [Int.zero_add] at w rr
            exact h1 _ _ G1 H1 E1 w rr
          · exact False.elim h1
    | .Name y yp, [], [], hc => exact absurd hc Bool.false_ne_true
    | .Name y yp, [_], _ :: _, hc => exact absurd hc Bool.false_ne_true
    | .Name y yp, _ :: _ :: _, _, hc => exact absurd hc (by simp [chkI])
  | range2 =>
    cases it <;> try exact absurd hc Bool.false_ne_true
    rename_i fn as kws pos
    match fn, as, kws, hc with
    | .Name y yp, [f, g], [], hc =>
      have hc : (decide (y = "range") && glE sc y && chkEs N es sc [f, g]) = true := hc
      simp only [Bool.and_eq_true, decide_eq_true_eq] at hc
      obtain ⟨⟨e1, hc1⟩, hc2⟩ := hc
      subst e1
      obtain ⟨m, l, e, hm, hl⟩ := chks_two hc2
      have pa := sndA_of ie X N sc cl W n [f, g] x hc2 hf hg
      refine ⟨pi_imp (pi_range2 (glE_ok x hc1).1 x.blt.range pa (by rw [chk_star hm, chk_star hl]; rfl) (chk_star hl)) fun σ H R ⟨S, G, r, h⟩ => ?_, fun _ => rfl⟩
      refine evI_args r h fun rs vs G1 H1 E1 rp h1 => ?_
      generalize args1 rs = as at h1 rp
      match as, h1, rp with
      | [.int i, .int j], h1, rp =>
        cases rp with
        | cons q qs =>
          cases q
          cases qs with
          | cons q2 qs =>
            cases q2
            cases qs
            simp only [items] at h1
            split at h1
            · rename_i hz
              refine ⟨i, j, rfl, ⟨by omega, by omega, by omega, by omega⟩, ?_⟩
              exact h1 _ _ G1 H1 E1 (walk_rng i (j - i).toNat) rng_items
            · exact False.elim h1
    | .Name y yp, [], _, hc => exact absurd hc (by simp [chkI])
    | .Name y yp, [_], _, hc => exact absurd hc (by simp [chkI])
    | .Name y yp, [_, _], _ :: _, hc => exact absurd hc Bool.false_ne_true
    | .Name y yp, _ :: _ :: _ :: _, _, hc => exact absurd hc (by simp [chkI])

/-! ### comprehensions -/
theorem Ext.mut {G H G' H' : Hp} {D : Addr} {o : HO} (e : Ext G H G' H') (h : H D = none) (g : G' D = none) : Ext G H G' (upd H' D o) := ⟨e.g, fun b u q => by
  rw [upd_ne (ne_of_none q h)]
  exact e.h _ _ q, fun b u q => by
  rw [upd_ne (ne_of_none q g)]
  exact e.sub _ _ q, e.new⟩
theorem EvRel.blk {K : PySem.W.Frag} {S : List SV} {σ : L2.St} {G H : Hp} {i : Nat} {v : V} {d : D} (R : EvRel K S σ G H) (r : Rep K G v d) (hi : i < σ.length) : EvRel K (S.set i (.sh d)) ((wipe σ [i]).set i (some v)) G H := by
  have ew : wipe σ [i] = σ.set i none := rfl
  refine ⟨R.sub, by rw [ew]; simp [R.len], fun j sv hj => ?_⟩
  rw [ew, List.set_set]
  by_cases e : i = j
  · subst e
    rw [List.getElem?_set_self (by rw [R.len]; exact hi)] at hj
    cases hj
    exact ⟨v, by rw [List.getElem?_set_self hi], r⟩
  · rw [List.getElem?_set_ne e] at hj ⊢
    exact R.sl j sv hj
theorem comp_loop {X : Cx} {cl : Str → Value} {elt : ME} {i : Nat} {S : List SV} {σ : L2.St} {G H G1 H1 : Hp} {Q : VK} {J : It} {vs : List V} {xs ds : List D} (R : EvRel X.K S σ G H) (E1 : Ext G H G1 H1) (hi : i < σ.length)
    (w : WalkOk J G1 vs) (rp : RepL X.K G1 vs xs) (hl : xs.length ≤ 16777216) (hd : compL i (evE elt) S xs = .ok ds)
    (q : ∀ v G' H', Ext G H G' H' → VR X.K H G' H' v (.lst ds) .fr → Q v H') (Da : Addr) (hD : H1 Da = none) :
    ∃ W : Nat → Nat → Hp → Prop, (∃ m, W 0 m (upd H1 Da (.lst []))) ∧ ∀ i' m H, W i' m H →
      (J.stop i' H ∧ Q (.ref Da) H) ∨ (J.go i' H ∧ ∃ Nx : Hp → Prop, (∀ H', Nx H' → ∃ m', m' < m ∧ W (i' + 1) m' H') ∧ ∀ x H', J.yld i' H x H' → gName i x (wipe σ [i]) H' fun σ2 H2 => wipe σ2 [i] = wipe σ [i] ∧ tYes σ2 H2 fun b H3 =>
        if b = true then rd X.K cl W0 elt σ2 H3 fun y H4 => ∃ acc, H4 Da = some (.lst acc) ∧ acc.length < sizeLine ∧ Nx (upd H4 Da (.lst (acc ++ [y]))) else Nx H3) := by
  -- the state at turn n
  let P : Nat → Hp → Prop := fun n H' => ∃ G' acc dacc drest, Ext G1 H1 G' H' ∧ G' Da = none ∧ H' Da = some (.lst acc) ∧ RepL X.K G' acc dacc ∧ compL i (evE elt) S (xs.drop n) = .ok drest ∧ dacc ++ drest = ds ∧ acc.length = n
  refine ⟨fun n m H' => m = vs.length - n ∧ n ≤ vs.length ∧ P n H', ⟨vs.length, by simp, Nat.zero_le _, G1, [], [], ds, Ext.newH E1.sub hD, E1.sub.free hD, upd_same, .nil, hd, rfl, rfl⟩, ?_⟩
  rintro n m H' ⟨rfl, hn, G', acc, dacc, drest, E2, gD, eD, ra, ed, es, el⟩
  have s1 : Same G1 H' := E2.g.trans E2.sub
  by_cases hlt : n < vs.length
  · refine .inr ⟨w.1 n H' s1 hlt, P (n + 1), fun H3 p => ⟨vs.length - (n + 1), by omega, rfl, hlt, p⟩, fun x H3 y => ?_⟩
    obtain ⟨e3, hx⟩ := w.2.2 n H' x H3 s1 hlt y
    subst e3
    have hln : n < xs.length := by rw [← rp.len]; exact hlt
    have hdr : xs.drop n = xs[n] :: xs.drop (n + 1) := List.drop_eq_getElem_cons hln
    obtain ⟨x', hx', rx⟩ := rp.get (i := n) (x := xs[n]) (List.getElem?_eq_getElem hln)
    rw [hx] at hx'
    cases hx'
    rw [hdr, compL] at ed
    split at ed <;> try exact (stuck_ne ed).elim
    rename_i r er
    split at ed
    · exact (stuck_ne ed).elim
    · rename_i hk
      cases e4 : compL i (evE elt) S (xs.drop (n + 1)) with
      | stuck => rw [e4] at ed; exact (stuck_ne ed).elim
      | exc => rw [e4] at ed; exact (exc_ne ed).elim
      | ok d4 =>
        rw [e4] at ed
        have ed : r.1 :: d4 = drest := Res.ok.inj ed
        subst ed
        refine ⟨by show ((σ.set i none).set i (some x)).set i none = σ.set i none; rw [List.set_set, List.set_set], ?_⟩
        unfold tYes
        dsimp only
        rw [if_pos rfl]
        refine ⟨S.set i (.sh xs[n]), G', ((R.ext E1).ext E2).blk (rx.mono E2.g) hi, ?_⟩
        rw [er]
        intro v G4 H4 E4 rv
        obtain ⟨G5, E5, s5, r5⟩ := rv.fix E4 hk
        refine ⟨acc, E5.h _ _ eD, by rw [szl, el]; omega, G5, acc ++ [v], dacc ++ [r.1], d4, (E2.trans E5).mut hD (E5.gnone eD gD), E5.gnone eD gD, upd_same, (ra.mono E5.g).app (.cons r5 .nil), e4, by rw [← es]; simp, by simp [el]⟩
  · have e : n = vs.length := by omega
    subst e
    have hdr : xs.drop vs.length = [] := List.drop_eq_nil_of_le (by rw [rp.len]; exact Nat.le_refl _)
    rw [hdr, compL] at ed
    have ed : [] = drest := Res.ok.inj ed
    subst ed
    rw [List.append_nil] at es
    subst es
    exact .inl ⟨w.2.1 _ H' s1 (Nat.le_refl _), q _ G' H' (E1.trans E2) (.inl ⟨Da, acc, dacc, rfl, rfl, E1.h.free hD, eD, gD, ra⟩)⟩
theorem compX_loop {X : Cx} {cl : Str → Value} {W : WX} {elt : ME} {i : Nat} {S : List SV} {σ : L2.St} {G H G1 H1 : Hp} {Q : VK} {J : It} {vs : List V} {xs : List D} (R : EvRel X.K S σ G H) (E1 : Ext G H G1 H1) (hi : i < σ.length)
    (w : WalkOk J G1 vs) (rp : RepL X.K G1 vs xs) (hl : xs.length ≤ 16777216) (h : Kx X.K cl W σ G H ((compX i (evE elt) S xs).bind fun ds => .ok (.tup ds, .sh)) Q) (Da : Addr) (hD : H1 Da = none) :
    ∃ Wt : Nat → Nat → Hp → Prop, (∃ m, Wt 0 m (upd H1 Da (.lst []))) ∧ ∀ i' m H, Wt i' m H →
      (J.stop i' H ∧ kTup X.K (.ref Da) H Q) ∨ (J.go i' H ∧ ∃ Nx : Hp → Prop, (∀ H', Nx H' → ∃ m', m' < m ∧ Wt (i' + 1) m' H') ∧ ∀ x H', J.yld i' H x H' → gName i x (wipe σ [i]) H' fun σ2 H2 => wipe σ2 [i] = wipe σ [i] ∧
        rd X.K cl (fun c d _ H => W c d σ H) elt σ2 H2 fun y H4 => ∃ acc, H4 Da = some (.lst acc) ∧ acc.length < sizeLine ∧ Nx (upd H4 Da (.lst (acc ++ [y])))) := by
  let P : Nat → Hp → Prop := fun n H' => ∃ G' acc dacc, Ext G1 H1 G' H' ∧ G' Da = none ∧ H' Da = some (.lst acc) ∧ RepL X.K G' acc dacc ∧ (compX i (evE elt) S xs = (compX i (evE elt) S (xs.drop n)).bind fun dr => .ok (dacc ++ dr)) ∧ acc.length = n
  refine ⟨fun n m H' => m = vs.length - n ∧ n ≤ vs.length ∧ P n H', ⟨vs.length, by simp, Nat.zero_le _, G1, [], [], Ext.newH E1.sub hD, E1.sub.free hD, upd_same, .nil, ?_, rfl⟩, ?_⟩
  · rw [List.drop_zero]
    cases compX i (evE elt) S xs <;> rfl
  rintro n m H' ⟨rfl, hn, G', acc, dacc, E2, gD, eD, ra, e0, el⟩
  have s1 : Same G1 H' := E2.g.trans E2.sub
  by_cases hlt : n < vs.length
  · refine .inr ⟨w.1 n H' s1 hlt, P (n + 1), fun H3 p => ⟨vs.length - (n + 1), by omega, rfl, hlt, p⟩, fun x H3 y => ?_⟩
    obtain ⟨e3, hx⟩ := w.2.2 n H' x H3 s1 hlt y
    subst e3
    have hln : n < xs.length := by rw [← rp.len]; exact hlt
    have hdr : xs.drop n = xs[n] :: xs.drop (n + 1) := List.drop_eq_getElem_cons hln
    obtain ⟨x', hx', rx⟩ := rp.get (i := n) (x := xs[n]) (List.getElem?_eq_getElem hln)
    rw [hx] at hx'
    cases hx'
    refine ⟨by show ((σ.set i none).set i (some x)).set i none = σ.set i none; rw [List.set_set, List.set_set], ?_⟩
    refine ⟨S.set i (.sh xs[n]), G', ((R.ext E1).ext E2).blk (rx.mono E2.g) hi, ?_⟩
    rw [hdr, compX] at e0
    cases er : evE elt (S.set i (.sh xs[n])) with
    | stuck =>
      rw [er] at e0
      rw [e0] at h
      exact False.elim h
    | exc c =>
      rw [er] at e0
      rw [e0] at h
      exact fun G4 H4 E4 => h G4 H4 (E1.trans (E2.trans E4))
    | ok r =>
      rw [er] at e0
      by_cases hk : r.2 = .bo
      · have e0 : compX i (evE elt) S xs = (if r.2 = .bo then Res.stuck else (compX i (evE elt) S (xs.drop (n + 1))).bind fun ds => Res.ok (r.1 :: ds)).bind fun dr => .ok (dacc ++ dr) := e0
        rw [if_pos hk] at e0
        rw [e0] at h
        exact False.elim h
      · have e1 : compX i (evE elt) S xs = (compX i (evE elt) S (xs.drop (n + 1))).bind fun dr => .ok (dacc ++ [r.1] ++ dr) := by
          rw [e0]
          show (if r.2 = .bo then Res.stuck else (compX i (evE elt) S (xs.drop (n + 1))).bind fun ds => Res.ok (r.1 :: ds)).bind _ = _
          rw [if_neg hk]
          cases compX i (evE elt) S (xs.drop (n + 1)) with
          | ok d => simp
          | exc c => rfl
          | stuck => rfl
        intro v G4 H4 E4 rv
        obtain ⟨G5, E5, s5, r5⟩ := rv.fix E4 hk
        exact ⟨acc, E5.h _ _ eD, by rw [szl, el]; omega, G5, acc ++ [v], dacc ++ [r.1], (E2.trans E5).mut hD (E5.gnone eD gD), E5.gnone eD gD, upd_same, (ra.mono E5.g).app (.cons r5 .nil), e1, by simp [el]⟩
  · have e : n = vs.length := by omega
    subst e
    have hdr : xs.drop vs.length = [] := List.drop_eq_nil_of_le (by rw [rp.len]; exact Nat.le_refl _)
    rw [hdr, compX] at e0
    have e0 : compX i (evE elt) S xs = .ok dacc := by
      rw [e0]
      simp
    rw [e0] at h
    refine .inl ⟨w.2.1 _ H' s1 (Nat.le_refl _), .inl ⟨Da, acc, rfl, SqL.of eD, fun q hq => ?_⟩⟩
    exact h _ _ _ ((E1.trans E2).trans (Ext.newG E2.sub hq)) (show Rep _ _ _ _ from .tup (SqT.of upd_same) (ra.mono (same_upd (E2.sub.free hq) _)))
theorem compIf_loop {X : Cx} {cl : Str → Value} {elt c : ME} {i : Nat} {S : List SV} {σ : L2.St} {G H G1 H1 : Hp} {Q : VK} {J : It} {vs : List V} {xs ds : List D} (R : EvRel X.K S σ G H) (E1 : Ext G H G1 H1) (hi : i < σ.length)
    (w : WalkOk J G1 vs) (rp : RepL X.K G1 vs xs) (hl : xs.length ≤ 16777216) (hd : compC i (evE elt) (evE c) S xs = .ok ds)
    (q : ∀ v G' H', Ext G H G' H' → VR X.K H G' H' v (.lst ds) .fr → Q v H') (Da : Addr) (hD : H1 Da = none) :
    ∃ W : Nat → Nat → Hp → Prop, (∃ m, W 0 m (upd H1 Da (.lst []))) ∧ ∀ i' m H, W i' m H →
      (J.stop i' H ∧ Q (.ref Da) H) ∨ (J.go i' H ∧ ∃ Nx : Hp → Prop, (∀ H', Nx H' → ∃ m', m' < m ∧ W (i' + 1) m' H') ∧ ∀ x H', J.yld i' H x H' → gName i x (wipe σ [i]) H' fun σ2 H2 => wipe σ2 [i] = wipe σ [i] ∧ rdT X.K cl W0 c σ2 H2 fun b H3 =>
        if b = true then rd X.K cl W0 elt σ2 H3 fun y H4 => ∃ acc, H4 Da = some (.lst acc) ∧ acc.length < sizeLine ∧ Nx (upd H4 Da (.lst (acc ++ [y]))) else Nx H3) := by
  let P : Nat → Hp → Prop := fun n H' => ∃ G' acc dacc drest, Ext G1 H1 G' H' ∧ G' Da = none ∧ H' Da = some (.lst acc) ∧ RepL X.K G' acc dacc ∧ compC i (evE elt) (evE c) S (xs.drop n) = .ok drest ∧ dacc ++ drest = ds ∧ acc.length ≤ n
  refine ⟨fun n m H' => m = vs.length - n ∧ n ≤ vs.length ∧ P n H', ⟨vs.length, by simp, Nat.zero_le _, G1, [], [], ds, Ext.newH E1.sub hD, E1.sub.free hD, upd_same, .nil, hd, rfl, Nat.le_refl _⟩, ?_⟩
  rintro n m H' ⟨rfl, hn, G', acc, dacc, drest, E2, gD, eD, ra, ed, es, el⟩
  have s1 : Same G1 H' := E2.g.trans E2.sub
  by_cases hlt : n < vs.length
  · refine .inr ⟨w.1 n H' s1 hlt, P (n + 1), fun H3 p => ⟨vs.length - (n + 1), by omega, rfl, hlt, p⟩, fun x H3 y => ?_⟩
    obtain ⟨e3, hx⟩ := w.2.2 n H' x H3 s1 hlt y
    subst e3
    have hln : n < xs.length := by rw [← rp.len]; exact hlt
    have hdr : xs.drop n = xs[n] :: xs.drop (n + 1) := List.drop_eq_getElem_cons hln
    obtain ⟨x', hx', rx⟩ := rp.get (i := n) (x := xs[n]) (List.getElem?_eq_getElem hln)
    rw [hx] at hx'
    cases hx'
    have RB := ((R.ext E1).ext E2).blk (rx.mono E2.g) hi
    refine ⟨by show ((σ.set i none).set i (some x)).set i none = σ.set i none; rw [List.set_set, List.set_set], ⟨S.set i (.sh xs[n]), G', RB, ?_⟩⟩
    rw [hdr, compC] at ed
    split at ed <;> try exact (stuck_ne ed).elim
    · rename_i kc ec
      rw [ec]
      intro G3 H3 E3
      split at ed <;> try exact (stuck_ne ed).elim
      rename_i r er
      split at ed
      · exact (stuck_ne ed).elim
      · rename_i hk
        cases e4 : compC i (evE elt) (evE c) S (xs.drop (n + 1)) with
        | stuck => rw [e4] at ed; exact (stuck_ne ed).elim
        | exc => rw [e4] at ed; exact (exc_ne ed).elim
        | ok d4 =>
          rw [e4] at ed
          have ed : r.1 :: d4 = drest := Res.ok.inj ed
          subst ed
          refine iteT ⟨S.set i (.sh xs[n]), G3, RB.ext E3, ?_⟩
          rw [er]
          intro v G4 H4 E4 rv
          obtain ⟨G5, E5, s5, r5⟩ := rv.fix E4 hk
          have E6 := E3.trans E5
          refine ⟨acc, E6.h _ _ eD, by rw [szl]; omega, G5, acc ++ [v], dacc ++ [r.1], d4, (E2.trans E6).mut hD (E6.gnone eD gD), E6.gnone eD gD, upd_same, (ra.mono E6.g).app (.cons r5 .nil), e4, by rw [← es]; simp, by simp; omega⟩
    · rename_i kc ec
      rw [ec]
      intro G3 H3 E3
      exact iteF ⟨G3, acc, dacc, drest, E2.trans E3, E3.gnone eD gD, E3.h _ _ eD, ra.mono E3.g, ed, es, by omega⟩
  · have e : n = vs.length := by omega
    subst e
    have hdr : xs.drop vs.length = [] := List.drop_eq_nil_of_le (by rw [rp.len]; exact Nat.le_refl _)
    rw [hdr, compC] at ed
    have ed : [] = drest := Res.ok.inj ed
    subst ed
    rw [List.append_nil] at es
    subst es
    exact .inl ⟨w.2.1 _ H' s1 (Nat.le_refl _), q _ G' H' (E1.trans E2) (.inl ⟨Da, acc, dacc, rfl, rfl, E1.h.free hD, eD, gD, ra⟩)⟩
end MP
set_option Elab.async false
set_option linter.all false
set_option maxRecDepth 100000
set_option maxHeartbeats 4000000
namespace MP
open PySem PySem.Spec PyProof.Rows L2 RT

theorem comp_facts {X : Cx} {N : List Str} {sc : Scope} {W : WX} {n : Nat} (x : XOk X N sc W n) {scope : Scope} {i : Nat} {y : Str} (h : ownE N sc scope i y = true) :
    BlkOk X.N X.env.scope scope [(y, i)] ∧ i < N.length ∧
    (∀ (p : Pos) (s : Shared) (H : Hp) (C : Addr) (cl : List (Str × Addr)) (fp : List Addr), PG (X.blk s H scope (compEnvC scope cl C X.env) fp) (.Name y p) (gName i)) ∧
    (∀ (s : Shared) (H : Hp) (C : Addr) (cl : List (Str × Addr)) (fp : List Addr), XOk (X.blk s H scope (compEnvC scope cl C X.env) fp) N (relS scope sc) W0 n) ∧
    (∀ (p : Pos) (s : Shared) (H : Hp) (C : Addr) (cl : List (Str × Addr)) (fp : List Addr) (xe : Value → Shared → Prop), PG (blkx X s H scope (compEnvC scope cl C X.env) fp xe) (.Name y p) (gName i)) ∧
    ∀ (s : Shared) (H : Hp) (C : Addr) (cl : List (Str × Addr)) (fp : List Addr) (xe : Value → Shared → Prop) (W' : WX), Takes (blkx X s H scope (compEnvC scope cl C X.env) fp xe) W' → topSc (relS scope sc) = false → XOk (blkx X s H scope (compEnvC scope cl C X.env) fp xe) N (relS scope sc) W' n := by
  unfold ownE locE at h
  simp only [Bool.and_eq_true, Bool.or_eq_true, decide_eq_true_eq] at h
  obtain ⟨⟨⟨⟨h1, h2⟩, h3⟩, h4⟩, h5⟩ := h
  have hb : BlkOk X.N X.env.scope scope [(y, i)] := by
    rw [x.hN, x.sc]
    exact blkOk_by h5
  have es : ∀ (C : Addr) (cl : List (Str × Addr)), (compEnvC scope cl C X.env).scope = relS scope sc := fun C cl => by
    rw [← x.sc]
    rfl
  refine ⟨hb, (List.getElem?_eq_some_iff.mp h1).1, fun p s H C cl fp => ?_, fun s H C cl fp => ⟨x.hN, es C cl, x.calm, x.nd, x.room, takes0, x.blt, fun _ => .inl fun _ _ _ _ z => z⟩, fun p s H C cl fp xe => ?_, fun s H C cl fp xe W' tk nt => ⟨x.hN, es C cl, x.calm, x.nd, x.room, tk, x.blt, fun z => by rw [es C cl, nt] at z; cases z⟩⟩
  all_goals refine pg_name x.nd (by show X.N[i]? = some y; rw [x.hN]; exact h1) ?_ ?_
  all_goals first
    | (show Loc (compEnvC scope cl C X.env).scope y
       rw [es]
       exact h2)
    | (rcases h4 with h4 | h4
       · left
         show (scope.names.lookup y == some .cell) = true
         rw [h4]
         rfl
       · right
         show (compEnvC scope cl C X.env).scope.names.lookup y = _
         rw [es]
         exact h4)
/-- a list comprehension, taken apart -/
structure IsLc (X : Cx) (T : TE) (elt tg iter : Expr) (ifs : List Expr) (scope : Scope) (own : List (Str × Nat)) (wi : TI) (g : TG) (tt : TT) (te : TE) : Prop where
  pi : PI X tg iter wi
  ok : BlkOk X.N X.env.scope scope own
  hg : ∀ (s : Shared) (H : Hp) (C : Addr) (cl : List (Str × Addr)) (fp : List Addr), PG (X.blk s H scope (compEnvC scope cl C X.env) fp) tg g
  ht : ∀ (s : Shared) (H : Hp) (C : Addr) (cl : List (Str × Addr)) (fp : List Addr), PTs (X.blk s H scope (compEnvC scope cl C X.env) fp) ifs tt
  he : ∀ (s : Shared) (H : Hp) (C : Addr) (cl : List (Str × Addr)) (fp : List Addr), PE (X.blk s H scope (compEnvC scope cl C X.env) fp) elt te
  hs : ∀ x, foldedSetIterable iter X.env x = pure x
  rd : ∀ (σ : L2.St) (H : Hp) (Q : VK), σ.length = X.N.length → T σ H Q → tLc wi g tt te (own.map (·.2)) σ H Q
theorem lc_comp {elt : ME} (i : Nat) (k : IK) {es : List ME} (ia : Snd elt) (ie : AllC Snd es) {X : Cx} {N : List Str} {sc : Scope} {cl : Str → Value} {W : WX} {n : Nat} (x : XOk X N sc W n) {b it : Expr} {scope : Scope} {y : Str} {yp : Pos}
    (hc1 : ownE N sc scope i y = true) (hc2 : chkE N elt (relS scope sc) b = true) (hc3 : chkI N sc k es it = true) (hf : AllC (GoodFn X.prog X.w X.K X.mg X.base cl n) (callsE (.comp elt i k es))) (hg : AllC (GoodGl X.K X.mg) (glosE (.comp elt i k es))) :
    IsLc X (rd X.K cl W (.comp elt i k es)) b (.Name y yp) it [] scope [(y, i)] (rdI X.K cl W k es) (gName i) tYes (rd X.K cl W0 elt) := by
  obtain ⟨f1, f2⟩ := AllC.app (show AllC _ (callsE elt ++ callsEs es) from hf)
  obtain ⟨g1, g2⟩ := AllC.app (show AllC _ (glosE elt ++ glosEs es) from hg)
  obtain ⟨ok, hi, pg, xo, _, _⟩ := comp_facts x hc1
  obtain ⟨pi, hs⟩ := snd_pi (cl := cl) (tg := .Name y yp) ie x hc3 f2 g2
  refine ⟨pi, ok, fun s H C c fp => pg yp s H C c fp, fun _ _ _ _ _ => pts_nil, fun s H C c fp => (ia _ N (relS scope sc) cl W0 n b (xo s H C c fp) hc2 f1 g1).1, hs, fun σ H Q hlen ⟨S, G, R, h⟩ => ?_⟩
  rw [evE] at h
  have hi' : i < σ.length := by rw [hlen, x.hN]; exact hi
  refine ⟨S, G, R, ?_⟩
  unfold evI
  cases e1 : evEs es S with
  | stuck => rw [e1] at h; exact h
  | exc c => rw [e1] at h; exact h
  | ok rs =>
    simp only [e1, Res.bind] at h ⊢
    cases hb : hasBo rs with
    | true => rw [hb] at h; exact h
    | false =>
      simp only [hb, Bool.false_eq_true, if_false] at h ⊢
      cases e2 : items k (args1 rs) with
      | stuck => simp only [e2] at h; exact h
      | exc c => simp only [e2] at h; exact h
      | ok xs =>
        simp only [e2] at h
        intro J vs G1 H1 E1 w rp Da hD
        split at h
        · rename_i hl
          cases e3 : compL i (evE elt) S xs with
          | stuck => rw [e3] at h; exact False.elim h
          | exc c =>
            exfalso
            clear h e2 hl rp
            revert c e3
            induction xs with
            | nil => intro c e3; rw [compL] at e3; cases e3
            | cons x xs ih =>
              intro c e3
              rw [compL] at e3
              split at e3
              · split at e3
                · cases e3
                · cases e4 : compL i (evE elt) S xs with
                  | stuck => rw [e4] at e3; cases e3
                  | exc c => exact ih _ e4
                  | ok d => rw [e4] at e3; cases e3
              · cases e3
          | ok ds =>
            rw [e3] at h
            exact comp_loop R E1 hi' w rp hl e3 h Da hD
        · exact False.elim h
theorem lc_compIf {elt c : ME} (i : Nat) (k : IK) {es : List ME} (ia : Snd elt) (ic : Snd c) (ie : AllC Snd es) {X : Cx} {N : List Str} {sc : Scope} {cl : Str → Value} {W : WX} {n : Nat} (x : XOk X N sc W n) {b it t : Expr} {scope : Scope} {y : Str} {yp : Pos}
    (hc1 : ownE N sc scope i y = true) (hc2 : chkE N elt (relS scope sc) b = true) (hct : chkE N c (relS scope sc) t = true) (hc3 : chkI N sc k es it = true) (hf : AllC (GoodFn X.prog X.w X.K X.mg X.base cl n) (callsE (.compIf elt i k es c))) (hg : AllC (GoodGl X.K X.mg) (glosE (.compIf elt i k es c))) :
    IsLc X (rd X.K cl W (.compIf elt i k es c)) b (.Name y yp) it [t] scope [(y, i)] (rdI X.K cl W k es) (gName i) (rdT X.K cl W0 c) (rd X.K cl W0 elt) := by
  obtain ⟨f1, f⟩ := AllC.app (show AllC _ (callsE elt ++ (callsE c ++ callsEs es)) from hf)
  obtain ⟨f3, f2⟩ := AllC.app f
  obtain ⟨g1, g⟩ := AllC.app (show AllC _ (glosE elt ++ (glosE c ++ glosEs es)) from hg)
  obtain ⟨g3, g2⟩ := AllC.app g
  obtain ⟨ok, hi, pg, xo, _, _⟩ := comp_facts x hc1
  obtain ⟨pi, hs⟩ := snd_pi (cl := cl) (tg := .Name y yp) ie x hc3 f2 g2
  refine ⟨pi, ok, fun s H C c fp => pg yp s H C c fp, fun s H C cc fp => pts_one (ic _ N (relS scope sc) cl W0 n t (xo s H C cc fp) hct f3 g3).2.1, fun s H C c fp => (ia _ N (relS scope sc) cl W0 n b (xo s H C c fp) hc2 f1 g1).1, hs, fun σ H Q hlen ⟨S, G, R, h⟩ => ?_⟩
  rw [evE] at h
  have hi' : i < σ.length := by rw [hlen, x.hN]; exact hi
  refine ⟨S, G, R, ?_⟩
  unfold evI
  cases e1 : evEs es S with
  | stuck => rw [e1] at h; exact h
  | exc c => rw [e1] at h; exact h
  | ok rs =>
    simp only [e1, Res.bind] at h ⊢
    cases hb : hasBo rs with
    | true => rw [hb] at h; exact h
    | false =>
      simp only [hb, Bool.false_eq_true, if_false] at h ⊢
      cases e2 : items k (args1 rs) with
      | stuck => simp only [e2] at h; exact h
      | exc c => simp only [e2] at h; exact h
      | ok xs =>
        simp only [e2] at h
        intro J vs G1 H1 E1 w rp Da hD
        split at h
        · rename_i hl
          cases e3 : compC i (evE elt) (evE c) S xs with
          | stuck => rw [e3] at h; exact False.elim h
          | exc cc =>
            exfalso
            clear h e2 hl rp
            revert cc e3
            induction xs with
            | nil => intro cc e3; rw [compC] at e3; cases e3
            | cons x xs ih =>
              intro cc e3
              rw [compC] at e3
              split at e3
              · split at e3
                · split at e3
                  · cases e3
                  · cases e4 : compC i (evE elt) (evE c) S xs with
                    | stuck => rw [e4] at e3; cases e3
                    | exc c => exact ih _ e4
                    | ok d => rw [e4] at e3; cases e3
                · cases e3
              · exact ih _ e3
              · cases e3
          | ok ds =>
            rw [e3] at h
            exact compIf_loop R E1 hi' w rp hl e3 h Da hD
        · exact False.elim h
theorem snd_tupComp {elt : ME} (i : Nat) (k : IK) {es : List ME} (ia : Snd elt) (ie : AllC Snd es) : Snd (.tupComp elt i k es) := by
  intro X N sc cl W n e x hc hf hg
  unfold chkE at hc
  split at hc
  case h_2 => exact absurd hc Bool.false_ne_true
  rename_i z zp b y yp it scope lp pos
  have hcB : ((decide (z = "tuple") && glE sc z && topSc sc && !topSc (relS scope sc)) && (ownE N sc scope i y && chkE N elt (relS scope sc) b && chkI N sc k es it)) = true := hc
  simp only [Bool.and_eq_true, decide_eq_true_eq, Bool.not_eq_true'] at hcB
  obtain ⟨⟨⟨⟨rfl, hgl⟩, ht⟩, hnt⟩, ⟨hc1, hc2⟩, hc3⟩ := hcB
  obtain ⟨f1, f2⟩ := AllC.app (show AllC _ (callsE elt ++ callsEs es) from hf)
  obtain ⟨g1, g2⟩ := AllC.app (show AllC _ (glosE elt ++ glosEs es) from hg)
  obtain ⟨ok, hi, pg, xo, pgx, xox⟩ := comp_facts x hc1
  obtain ⟨pi, hs⟩ := snd_pi (cl := cl) (tg := .Name y yp) ie x hc3 f2 g2
  have pl := pe_lcx (pos := lp) (te := fun σ0 => rd X.K cl (fun c d _ H => W c d σ0 H) elt) x.calm x.nd pi ok x.tk (x.top (by rw [x.sc]; exact ht)) (fun s H C c fp xe => pgx yp s H C c fp xe)
    (fun σ0 s H C c fp xe tk => (ia _ N (relS scope sc) cl (fun c d _ H => W c d σ0 H) n b (xox s H C c fp xe _ tk hnt) hc2 f1 g1).1) hs
  refine three ⟨fun pins s σ H Q I h => (pe_tupleOf (glE_ok x hgl).1 x.blt.tuple pl).run pins s σ H Q I ?_⟩ (fun _ => rfl) rfl
  have hlen := I.len
  obtain ⟨S, G, R, h⟩ := h
  rw [evE] at h
  have hi' : i < σ.length := by rw [hlen, x.hN]; exact hi
  refine ⟨S, G, R, ?_⟩
  unfold evI
  cases e1 : evEs es S with
  | stuck => rw [e1] at h; exact h
  | exc c => rw [e1] at h; exact h
  | ok rs =>
    simp only [e1, Res.bind] at h ⊢
    cases hb : hasBo rs with
    | true => rw [hb] at h; exact h
    | false =>
      simp only [hb, Bool.false_eq_true, if_false] at h ⊢
      cases e2 : items k (args1 rs) with
      | stuck => simp only [e2] at h; exact h
      | exc c => simp only [e2] at h; exact h
      | ok xs =>
        simp only [e2] at h
        intro J vs G1 H1 E1 w rp Da hD
        split at h
        · rename_i hl
          exact compX_loop R E1 hi' w rp hl h Da hD
        · exact False.elim h
theorem snd_comp {elt : ME} (i : Nat) (k : IK) {es : List ME} (ia : Snd elt) (ie : AllC Snd es) : Snd (.comp elt i k es) := by
  intro X N sc cl W n e x hc hf hg
  cases e <;> try exact absurd hc Bool.false_ne_true
  rename_i b gens scope pos
  match gens, hc with
  | [⟨.Name y yp, it, [], 0⟩], hc =>
    have hc : (ownE N sc scope i y && chkE N elt (relS scope sc) b && chkI N sc k es it) = true := hc
    rw [Bool.and_eq_true, Bool.and_eq_true] at hc
    have L := lc_comp (cl := cl) (W := W) (yp := yp) i k ia ie x hc.1.1 hc.1.2 hc.2 hf hg
    exact three ⟨fun pins s σ H Q I h => (pe_lc x.calm x.nd L.pi L.ok L.hg L.ht L.he L.hs).run pins s σ H Q I (L.rd σ H Q I.len h)⟩ (fun _ => rfl) rfl
theorem snd_compIf {elt c : ME} (i : Nat) (k : IK) {es : List ME} (ia : Snd elt) (ic : Snd c) (ie : AllC Snd es) : Snd (.compIf elt i k es c) := by
  intro X N sc cl W n e x hc hf hg
  cases e <;> try exact absurd hc Bool.false_ne_true
  rename_i b gens scope pos
  match gens, hc with
  | [⟨.Name y yp, it, [t], 0⟩], hc =>
    have hc : (ownE N sc scope i y && chkE N elt (relS scope sc) b && chkE N c (relS scope sc) t && chkI N sc k es it) = true := hc
    rw [Bool.and_eq_true, Bool.and_eq_true, Bool.and_eq_true] at hc
    have L := lc_compIf (cl := cl) (W := W) (yp := yp) i k ia ic ie x hc.1.1.1 hc.1.1.2 hc.1.2 hc.2 hf hg
    exact three ⟨fun pins s σ H Q I h => (pe_lc x.calm x.nd L.pi L.ok L.hg L.ht L.he L.hs).run pins s σ H Q I (L.rd σ H Q I.len h)⟩ (fun _ => rfl) rfl

mutual
theorem snd_all : ∀ m : ME, Snd m
  | .loc i => snd_loc i
  | .glo x d => snd_glo x d
  | .int i => snd_int i
  | .bl b => snd_bl b
  | .non => snd_non
  | .str s => snd_str s
  | .bin o a b => snd_bin o (snd_all a) (snd_all b)
  | .neg a => snd_neg (snd_all a)
  | .cmp o a b => snd_cmp o (snd_all a) (snd_all b)
  | .cmp2 o1 o2 a b c => snd_cmp2 o1 o2 (snd_all a) (snd_all b) (snd_all c)
  | .isN n a => snd_isN n (snd_all a)
  | .and a b => snd_and (snd_all a) (snd_all b)
  | .or a b => snd_or (snd_all a) (snd_all b)
  | .not a => snd_not (snd_all a)
  | .ife c a b => snd_ife (snd_all c) (snd_all a) (snd_all b)
  | .sub a i => snd_sub (snd_all a) (snd_all i)
  | .slLo a i => snd_slLo (snd_all a) (snd_all i)
  | .slHi a i => snd_slHi (snd_all a) (snd_all i)
  | .sl a i j => snd_sl (snd_all a) (snd_all i) (snd_all j)
  | .call x f es => snd_call x f (sndA_of (snd_alls es))
  | .blt b es => snd_blt b (sndA_of (snd_alls es))
  | .isi a t => snd_isi t (snd_all a)
  | .tup es => snd_tup (sndA_of (snd_alls es))
  | .lst es => snd_lst (sndA_of (snd_alls es))
  | .comp elt i k es => snd_comp i k (snd_all elt) (snd_alls es)
  | .compIf elt i k es c => snd_compIf i k (snd_all elt) (snd_all c) (snd_alls es)
  | .tupRev a => snd_tupRev (snd_all a)
  | .tupComp elt i k es => snd_tupComp i k (snd_all elt) (snd_alls es)
  | .attr i w => snd_attr i w
  | .mcall i x f a => snd_mcall i x f (snd_all a)
  | .dlen i => snd_dlen i
  | .join s a => snd_join s (snd_all a)
  | .split a s => snd_split s (snd_all a)
theorem snd_alls : ∀ ms : List ME, AllC Snd ms
  | [] => trivial
  | m :: ms => ⟨snd_all m, snd_alls ms⟩
end
end MP
set_option Elab.async false
set_option linter.all false
set_option maxRecDepth 100000
set_option maxHeartbeats 4000000
namespace MP
open PySem PySem.Spec PyProof.Rows L2 RT

/-! ### lists within lists that nothing else leans on -/
inductive OwnL (P : List Addr → V → D → Prop) : List Addr → List V → List D → Prop
  | nil : OwnL P [] [] []
  | cons {A B : List Addr} {v : V} {d : D} {vs : List V} {ds : List D} : P A v d → OwnL P B vs ds → (∀ b ∈ A, ¬ b ∈ B) → OwnL P (A ++ B) (v :: vs) (d :: ds)
def Own (K : PySem.W.Frag) (G H : Hp) : Nat → List Addr → V → D → Prop
  | 0, A, v, d => A = [] ∧ Rep K G v d
  | n + 1, A, v, d => ∃ a xs ds B, A = a :: B ∧ v = .ref a ∧ d = .lst ds ∧ H a = some (.lst xs) ∧ G a = none ∧ (¬ a ∈ B) ∧ OwnL (Own K G H n) B xs ds
section
variable {P Q : List Addr → V → D → Prop} {A B : List Addr} {xs : List V} {ds : List D}
theorem OwnL.imp (h : OwnL P B xs ds) : (∀ A v d, (∀ b ∈ A, b ∈ B) → P A v d → Q A v d) → OwnL Q B xs ds := by
  induction h with
  | nil => exact fun _ => .nil
  | cons p _ n ih => exact fun i => .cons (i _ _ _ (fun b hb => List.mem_append_left _ hb) p) (ih fun A v d hA => i A v d fun b hb => List.mem_append_right _ (hA b hb)) n
theorem OwnL.len (h : OwnL P B xs ds) : xs.length = ds.length := by
  induction h with
  | nil => rfl
  | cons _ _ _ ih => rw [List.length_cons, List.length_cons, ih]
theorem OwnL.mem (h : OwnL P B xs ds) {b : Addr} : b ∈ B → ∃ A v d, P A v d ∧ b ∈ A := by
  induction h with
  | nil => exact fun hb => absurd hb (List.not_mem_nil)
  | cons p _ _ ih =>
    intro hb
    rcases List.mem_append.mp hb with hb | hb
    · exact ⟨_, _, _, p, hb⟩
    · exact ih hb
theorem OwnL.snoc (h : OwnL P B xs ds) {v : V} {d : D} (p : P A v d) : (∀ b ∈ B, ¬ b ∈ A) → ∃ B', (∀ b, b ∈ B' ↔ b ∈ B ∨ b ∈ A) ∧ OwnL P B' (xs ++ [v]) (ds ++ [d]) := by
  induction h with
  | nil => exact fun _ => ⟨A ++ [], fun b => by simp, .cons p .nil fun _ _ => List.not_mem_nil⟩
  | @cons A1 B1 _ _ _ _ p1 _ n ih =>
    intro z
    obtain ⟨B', m, o⟩ := ih fun b hb => z b (List.mem_append_right _ hb)
    refine ⟨_, fun b => ?_, .cons p1 o fun b hb => ?_⟩
    · rw [List.mem_append, List.mem_append, m, or_assoc]
    · rw [m, not_or]
      exact ⟨n b hb, z b (List.mem_append_left _ hb)⟩
/-- the element at a place, and another in its stead -/
theorem OwnL.at_ (h : OwnL P B xs ds) : ∀ {j : Nat} {d0 : D}, ds[j]? = some d0 → ∃ A0 v0, xs[j]? = some v0 ∧ P A0 v0 d0 ∧ (∀ b ∈ A0, b ∈ B) ∧
    ∀ {Q : List Addr → V → D → Prop} {A1 : List Addr} {v1 : V} {d1 : D}, (∀ b ∈ A1, b ∈ A0) → Q A1 v1 d1 → (∀ A v d, P A v d → (∀ b ∈ A, b ∈ B) → (∀ b ∈ A, ¬ b ∈ A0) → Q A v d) → ∃ B', (∀ b ∈ B', b ∈ B) ∧ OwnL Q B' (xs.set j v1) (ds.set j d1) := by
  induction h with
  | nil => exact fun e => by simp at e
  | @cons A B v d vs ds p h n ih =>
    intro j d0 e
    cases j with
    | zero =>
      have e : d = d0 := by simpa using e
      subst e
      refine ⟨A, v, rfl, p, fun b hb => List.mem_append_left _ hb, fun {Q A1 v1 d1} hs q oth => ⟨A1 ++ B, fun b hb => ?_, .cons q (h.imp fun A' v' d' hA p' => oth A' v' d' p' (fun b hb => List.mem_append_right _ (hA b hb)) fun b hb z => n b z (hA b hb)) fun b hb => n b (hs b hb)⟩⟩
      rcases List.mem_append.mp hb with hb | hb
      · exact List.mem_append_left _ (hs b hb)
      · exact List.mem_append_right _ hb
    | succ j =>
      have e : ds[j]? = some d0 := by simpa using e
      obtain ⟨A0, v0, x0, p0, s0, k0⟩ := ih e
      refine ⟨A0, v0, by simpa using x0, p0, fun b hb => List.mem_append_right _ (s0 b hb), fun {Q A1 v1 d1} hs q oth => ?_⟩
      obtain ⟨B', m, o⟩ := k0 hs q fun A' v' d' p' hA z => oth A' v' d' p' (fun b hb => List.mem_append_right _ (hA b hb)) z
      refine ⟨A ++ B', fun b hb => ?_, .cons (oth A v d p (fun b hb => List.mem_append_left _ hb) fun b hb z => n b hb (s0 b z)) o fun b hb z => n b hb (m b z)⟩
      rcases List.mem_append.mp hb with hb | hb
      · exact List.mem_append_left _ hb
      · exact List.mem_append_right _ (m b hb)
end
section
variable {K : PySem.W.Frag} {G H G1 H1 : Hp}
theorem Own.dom : ∀ {n : Nat} {A : List Addr} {v : V} {d : D}, Own K G H n A v d → ∀ b ∈ A, (∃ o, H b = some o) ∧ G b = none
  | 0, A, v, d, h, b, hb => by
    rw [h.1] at hb
    cases hb
  | n + 1, A, v, d, h, b, hb => by
    obtain ⟨a, xs, ds, B, rfl, rfl, rfl, ha, ga, nb, o⟩ := h
    rcases List.mem_cons.mp hb with e | hb
    · subst e; exact ⟨⟨_, ha⟩, ga⟩
    · obtain ⟨A', v', d', p, hb'⟩ := o.mem hb
      exact Own.dom p b hb'
theorem Own.chg (s : Same G G1) : ∀ {n : Nat} {A : List Addr} {v : V} {d : D}, (∀ b ∈ A, ∀ o, H b = some o → H1 b = some o) → (∀ b ∈ A, ∀ o, H b = some o → G b = none → G1 b = none) → Own K G H n A v d → Own K G1 H1 n A v d
  | 0, A, v, d, _, _, h => ⟨h.1, h.2.mono s⟩
  | n + 1, A, v, d, h1, h2, h => by
    obtain ⟨a, xs, ds, B, rfl, rfl, rfl, ha, ga, nb, o⟩ := h
    exact ⟨a, xs, ds, B, rfl, rfl, rfl, h1 a List.mem_cons_self _ ha, h2 a List.mem_cons_self _ ha ga, nb, o.imp fun A v d hA p => Own.chg s (fun b hb => h1 b (List.mem_cons_of_mem _ (hA b hb))) (fun b hb => h2 b (List.mem_cons_of_mem _ (hA b hb))) p⟩
theorem Own.ext {n : Nat} {A : List Addr} {v : V} {d : D} (e : Ext G H G1 H1) (h : Own K G H n A v d) : Own K G1 H1 n A v d := h.chg e.g (fun b _ o z => e.h b o z) (fun b _ o z g => e.gnone z g)
theorem Own.upd_ {n : Nat} {A : List Addr} {v : V} {d : D} {b : Addr} {o : HO} (hb : ¬ b ∈ A) (h : Own K G H n A v d) : Own K G (upd H b o) n A v d := h.chg (Same.refl _) (fun c hc o' z => by rw [upd_ne (fun e => by subst e; exact hb hc)]; exact z) (fun _ _ _ _ g => g)
theorem Own.updG {n : Nat} {A : List Addr} {v : V} {d : D} {b : Addr} {o : HO} (hb : ¬ b ∈ A) (g : G b = none) (h : Own K G H n A v d) : Own K (upd G b o) H n A v d := h.chg (same_upd g o) (fun _ _ _ z => z) (fun c hc o' _ g' => by rw [upd_ne (fun e => by subst e; exact hb hc)]; exact g')
/-- taken among the plain data -/
theorem Own.rep (s : Same G G1) : ∀ {n : Nat} {A : List Addr} {v : V} {d : D}, (∀ b ∈ A, ∀ o, H b = some o → G1 b = some o) → Own K G H n A v d → Rep K G1 v d
  | 0, A, v, d, _, h => h.2.mono s
  | n + 1, A, v, d, h1, h => by
    obtain ⟨a, xs, ds, B, rfl, rfl, rfl, ha, ga, nb, o⟩ := h
    have key : ∀ {B : List Addr} {xs : List V} {ds : List D}, OwnL (Own K G H n) B xs ds → (∀ b ∈ B, ∀ o, H b = some o → G1 b = some o) → RepL K G1 xs ds := fun {B xs ds} o => by
      induction o with
      | nil => exact fun _ => .nil
      | cons p _ _ ih => exact fun i => .cons (Own.rep s (fun b hb => i b (List.mem_append_left _ hb)) p) (ih fun b hb => i b (List.mem_append_right _ hb))
    exact .lst (h1 a List.mem_cons_self _ ha) (key o fun b hb => h1 b (List.mem_cons_of_mem _ hb))
theorem OwnL.rep {n : Nat} {B : List Addr} {xs : List V} {ds : List D} (s : Same G G1) (o : OwnL (Own K G H n) B xs ds) : (∀ b ∈ B, ∀ o, H b = some o → G1 b = some o) → RepL K G1 xs ds := by
  induction o with
  | nil => exact fun _ => .nil
  | cons p _ _ ih => exact fun i => .cons (Own.rep s (fun b hb => i b (List.mem_append_left _ hb)) p) (ih fun b hb => i b (List.mem_append_right _ hb))
end
/-! paths -/
def getP : List Nat → D → Option D
  | [], d => some d
  | j :: js, .lst ds => match ds[j]? with
    | some d => getP js d
    | none => none
  | _ :: _, _ => none
def putP (x : D) : List Nat → D → Option D
  | [], _ => some x
  | j :: js, .lst ds => match ds[j]? with
    | some d => (match putP x js d with
      | some d' => some (.lst (ds.set j d'))
      | none => none)
    | none => none
  | _ :: _, _ => none
/-- where a path leads -/
def Wk (H : Hp) : V → List Nat → V → Prop
  | v, [], w => v = w
  | v, j :: js, w => ∃ a xs u, v = .ref a ∧ H a = some (.lst xs) ∧ xs[j]? = some u ∧ Wk H u js w
section
variable {K : PySem.W.Frag} {G H G1 H1 : Hp}
theorem Wk.mono (s : Same H H1) : ∀ {js : List Nat} {v w : V}, Wk H v js w → Wk H1 v js w
  | [], _, _, h => h
  | _ :: _, _, _, ⟨a, xs, u, e, ha, hu, h⟩ => ⟨a, xs, u, e, s _ _ ha, hu, Wk.mono s h⟩
theorem Wk.uniq : ∀ {js : List Nat} {v w w' : V}, Wk H v js w → Wk H v js w' → w = w'
  | [], _, _, _, h, h' => h.symm.trans h'
  | _ :: _, _, _, _, ⟨a, xs, u, e, ha, hu, h⟩, ⟨a', xs', u', e', ha', hu', h'⟩ => by
    rw [e] at e'
    cases e'
    rw [ha] at ha'
    cases ha'
    rw [hu] at hu'
    cases hu'
    exact Wk.uniq h h'
theorem Wk.snoc {j : Nat} {a : Addr} {xs : List V} {u : V} : ∀ {js : List Nat} {v : V}, Wk H v js (.ref a) → H a = some (.lst xs) → xs[j]? = some u → Wk H v (js ++ [j]) u
  | [], _, h, ha, hu => ⟨a, xs, u, h, ha, hu, rfl⟩
  | _ :: _, _, ⟨b, ys, y, e, hb, hy, h⟩, ha, hu => ⟨b, ys, y, e, hb, hy, Wk.snoc h ha hu⟩
theorem getP_snoc {j : Nat} {ds : List D} {d1 : D} : ∀ {js : List Nat} {d : D}, getP js d = some (.lst ds) → ds[j]? = some d1 → getP (js ++ [j]) d = some d1
  | [], d, h, e => by
    have h : some d = some (.lst ds) := h
    cases h
    show (match ds[j]? with | some d => getP [] d | none => none) = _
    rw [e]; rfl
  | i :: js, d, h, e => by
    cases d <;> try (unfold getP at h; cases h)
    rename_i es
    have h : (match es[i]? with | some d => getP js d | none => none) = some (.lst ds) := h
    show (match es[i]? with | some d => getP (js ++ [j]) d | none => none) = _
    split at h
    · rename_i d' hd
      exact getP_snoc h e
    · cases h
/-- the lists on a path -/
theorem Own.get : ∀ {js : List Nat} {n : Nat} {A : List Addr} {v : V} {d d1 : D}, Own K G H (js.length + n) A v d → getP js d = some d1 → ∃ A1 v1, Wk H v js v1 ∧ Own K G H n A1 v1 d1
  | [], n, A, v, d, d1, h, e => by
    have e : some d = some d1 := e
    cases e
    rw [List.length_nil, Nat.zero_add] at h
    exact ⟨A, v, rfl, h⟩
  | j :: js, n, A, v, d, d1, h, e => by
    rw [List.length_cons, Nat.add_right_comm] at h
    obtain ⟨a, xs, ds, B, rfl, rfl, rfl, ha, ga, nb, o⟩ := h
    have e : (match ds[j]? with | some d => getP js d | none => none) = some d1 := e
    split at e
    · rename_i d' hd
      obtain ⟨A0, v0, x0, p0, _⟩ := o.at_ hd
      obtain ⟨A1, v1, w, o1⟩ := Own.get p0 e
      exact ⟨A1, v1, ⟨a, xs, v0, rfl, ha, x0, w⟩, o1⟩
    · cases e
/-- an element at the end of a path is another from then on -/
theorem Own.put {u : V} {x : D} {j : Nat} (ru : Rep K G u x) : ∀ {js : List Nat} {A : List Addr} {v : V} {d d' : D}, Own K G H (js.length + 1) A v d → putP x (js ++ [j]) d = some d' →
    ∃ b xs, Wk H v js (.ref b) ∧ b ∈ A ∧ H b = some (.lst xs) ∧ G b = none ∧ j < xs.length ∧ ∃ A', (∀ c ∈ A', c ∈ A) ∧ Own K G (upd H b (.lst (xs.set j u))) (js.length + 1) A' v d'
  | [], A, v, d, d', h, e => by
    obtain ⟨a, xs, ds, B, rfl, rfl, rfl, ha, ga, nb, o⟩ := h
    have e : (match ds[j]? with | some d => some (D.lst (ds.set j x)) | none => none) = some d' := e
    split at e
    · rename_i d0 hd
      cases e
      obtain ⟨A0, v0, x0, p0, s0, k0⟩ := o.at_ hd
      obtain ⟨B', m, o'⟩ := k0 (Q := Own K G (upd H a (.lst (xs.set j u))) 0) (A1 := []) (fun _ hb => absurd hb List.not_mem_nil) ⟨rfl, ru⟩ fun A v d p _ _ => p
      refine ⟨a, xs, rfl, List.mem_cons_self, ha, ga, (List.getElem?_eq_some_iff.mp x0).1, a :: B', fun c hc => ?_, a, _, _, B', rfl, rfl, rfl, upd_same, ga, fun z => nb (m a z), o'⟩
      rcases List.mem_cons.mp hc with e | hc
      · subst e; exact List.mem_cons_self
      · exact List.mem_cons_of_mem _ (m c hc)
    · cases e
  | i :: js, A, v, d, d', h, e => by
    obtain ⟨a, xs, ds, B, rfl, rfl, rfl, ha, ga, nb, o⟩ := h
    have e : (match ds[i]? with | some d => (match putP x (js ++ [j]) d with | some d' => some (D.lst (ds.set i d')) | none => none) | none => none) = some d' := e
    split at e
    · rename_i d0 hd
      split at e
      · rename_i d1 hp
        cases e
        obtain ⟨A0, v0, x0, p0, s0, k0⟩ := o.at_ hd
        obtain ⟨b, ys, w, hb, hy, gb, hj, A1, s1, o1⟩ := Own.put ru p0 hp
        have nab : ¬ a = b := fun z => nb (by rw [z]; exact s0 b hb)
        obtain ⟨B', m, o'⟩ := k0 (Q := Own K G (upd H b (.lst (ys.set j u))) (js.length + 1)) s1 o1 fun A v d p _ hd => p.upd_ fun z => hd b z hb
        have ev : xs.set i v0 = xs := by
          have hl := (List.getElem?_eq_some_iff.mp x0)
          rw [← hl.2]
          exact List.set_getElem_self hl.1
        rw [ev] at o'
        refine ⟨b, ys, ⟨a, xs, v0, rfl, ha, x0, w⟩, List.mem_cons_of_mem _ (s0 b hb), hy, gb, hj, a :: B', fun c hc => ?_, a, xs, _, B', rfl, rfl, rfl, by rw [upd_ne nab]; exact ha, ga, fun z => nb (m a z), o'⟩
        rcases List.mem_cons.mp hc with e | hc
        · subst e; exact List.mem_cons_self
        · exact List.mem_cons_of_mem _ (m c hc)
      · cases e
    · cases e
end
/-! ### such lists made -/
inductive DE where
  | lf (e : ME)
  | cmp (elt : DE) (i : Nat) (k : IK) (es : List ME)
def DE.dep : DE → Nat
  | .lf _ => 1
  | .cmp e _ _ _ => e.dep + 1
def compD (i : Nat) (f : List SV → Res D) (S : List SV) : List D → Res (List D)
  | [] => .ok []
  | x :: xs => match f (S.set i (.sh x)) with
    | .ok d => (compD i f S xs).bind fun ds => .ok (d :: ds)
    | _ => .stuck
theorem compD_exc {i : Nat} {f : List SV → Res D} {S : List SV} : ∀ (xs : List D) (c : Str), compD i f S xs ≠ .exc c
  | [], c, h => by rw [compD] at h; cases h
  | x :: xs, c, h => by
    rw [compD] at h
    split at h
    · cases e4 : compD i f S xs with
      | stuck => rw [e4] at h; cases h
      | exc c' => exact compD_exc xs c' e4
      | ok d => rw [e4] at h; cases h
    · cases h
def evD : DE → List SV → Res D
  | .lf e, S => (evE e S).bind fun r => match r with
    | (.lst ds, .fr) => .ok (.lst ds)
    | _ => .stuck
  | .cmp elt i k es, S => (evI k es S).bind fun xs => if xs.length ≤ 16777216 then (compD i (evD elt) S xs).bind fun ds => .ok (.lst ds) else .stuck
def callsD : DE → List CallI
  | .lf e => callsE e
  | .cmp elt _ _ es => callsD elt ++ callsEs es
def glosD : DE → List (Str × D)
  | .lf e => glosE e
  | .cmp elt _ _ es => glosD elt ++ glosEs es
def chkD (N : List Str) : DE → Scope → Expr → Bool
  | .lf m, sc, e => chkE N m sc e
  | .cmp elt i k es, sc, e => match e with
    | .ListComp e [⟨.Name x _, it, [], 0⟩] scope _ => ownE N sc scope i x && chkD N elt (relS scope sc) e && chkI N sc k es it
    | _ => false
section
variable (K : PySem.W.Frag) (cl : Str → Value) (W : WX)
def KxD (n : Nat) (σ : L2.St) (G H : Hp) (r : Res D) (Q : VK) : Prop := match r with
  | .ok d => ∀ A v G' H', Ext G H G' H' → Own K G' H' n A v d → (∀ b ∈ A, H b = none) → Q v H'
  | .exc c => ∀ G' H', Ext G H G' H' → W (cl c) none σ H'
  | .stuck => False
def rdD (m : DE) : TE := fun σ H Q => ∃ S G, EvRel K S σ G H ∧ KxD K cl W m.dep σ G H (evD m S) Q
end
def SndD (m : DE) : Prop := ∀ (X : Cx) (N : List Str) (sc : Scope) (cl : Str → Value) (W : WX) (n : Nat) (e : Expr), XOk X N sc W n → chkD N m sc e = true →
  AllC (GoodFn X.prog X.w X.K X.mg X.base cl n) (callsD m) → AllC (GoodGl X.K X.mg) (glosD m) → PE X e (rdD X.K cl W m)
theorem repl_own {K : PySem.W.Frag} {G H : Hp} : ∀ {xs : List V} {ds : List D}, RepL K G xs ds → OwnL (Own K G H 0) [] xs ds
  | _, _, .nil => .nil
  | _, _, .cons r t => .cons (A := []) (B := []) ⟨rfl, r⟩ (repl_own t) fun _ hb => absurd hb List.not_mem_nil
theorem sndD_lf (m : ME) : SndD (.lf m) := by
  intro X N sc cl W n e x hc hf hg
  refine pe_imp (snd_all m X N sc cl W n e x hc hf hg).1 fun σ H Q ⟨S, G, R, h⟩ => ?_
  refine ⟨S, G, R, ?_⟩
  unfold evD at h
  cases e : evE m S with
  | stuck => rw [e] at h; exact h
  | exc c => rw [e] at h; exact h
  | ok r =>
    rw [e] at h
    intro v G' H' E' rv
    obtain ⟨d, kd⟩ := r
    dsimp only [Res.bind] at h
    cases kd with
    | sh => cases d <;> exact False.elim h
    | bo => cases d <;> exact False.elim h
    | fr =>
      rcases rv with ⟨p, xs, ds', rfl, e2, h0, hp, gp, rp⟩ | rv
      · have e2 : d = .lst ds' := e2
        subst e2
        have key : ∀ {xs : List V} {ds : List D}, RepL X.K G' xs ds → OwnL (Own X.K G' H' 0) [] xs ds := fun {xs ds} r => repl_own r
        refine h [p] _ G' H' E' ⟨p, xs, _, [], rfl, rfl, rfl, hp, gp, List.not_mem_nil, key rp⟩ fun b hb => ?_
        rw [List.mem_singleton] at hb
        subst hb
        exact h0
      · obtain ⟨_, e2⟩ := rv.isTup
        have e2 : d = .tup _ := e2
        subst e2
        exact False.elim h
theorem compD_loop {X : Cx} {cl : Str → Value} {elt : DE} {i : Nat} {S : List SV} {σ : L2.St} {G H G1 H1 : Hp} {Q : VK} {J : It} {vs : List V} {xs ds : List D} (R : EvRel X.K S σ G H) (E1 : Ext G H G1 H1) (hi : i < σ.length)
    (w : WalkOk J G1 vs) (rp : RepL X.K G1 vs xs) (hl : xs.length ≤ 16777216) (hd : compD i (evD elt) S xs = .ok ds)
    (q : ∀ A v G' H', Ext G H G' H' → Own X.K G' H' (elt.dep + 1) A v (.lst ds) → (∀ b ∈ A, H b = none) → Q v H') (Da : Addr) (hD : H1 Da = none) :
    ∃ W : Nat → Nat → Hp → Prop, (∃ m, W 0 m (upd H1 Da (.lst []))) ∧ ∀ i' m H, W i' m H →
      (J.stop i' H ∧ Q (.ref Da) H) ∨ (J.go i' H ∧ ∃ Nx : Hp → Prop, (∀ H', Nx H' → ∃ m', m' < m ∧ W (i' + 1) m' H') ∧ ∀ x H', J.yld i' H x H' → gName i x (wipe σ [i]) H' fun σ2 H2 => wipe σ2 [i] = wipe σ [i] ∧ tYes σ2 H2 fun b H3 =>
        if b = true then rdD X.K cl W0 elt σ2 H3 fun y H4 => ∃ acc, H4 Da = some (.lst acc) ∧ acc.length < sizeLine ∧ Nx (upd H4 Da (.lst (acc ++ [y]))) else Nx H3) := by
  let P : Nat → Hp → Prop := fun n H' => ∃ G' acc dacc drest B, Ext G1 H1 G' H' ∧ G' Da = none ∧ H' Da = some (.lst acc) ∧ OwnL (Own X.K G' H' elt.dep) B acc dacc ∧ (∀ b ∈ B, H1 b = none ∧ ¬ b = Da) ∧ compD i (evD elt) S (xs.drop n) = .ok drest ∧ dacc ++ drest = ds ∧ acc.length = n
  refine ⟨fun n m H' => m = vs.length - n ∧ n ≤ vs.length ∧ P n H', ⟨vs.length, by simp, Nat.zero_le _, G1, [], [], ds, [], Ext.newH E1.sub hD, E1.sub.free hD, upd_same, .nil, fun _ hb => absurd hb List.not_mem_nil, hd, rfl, rfl⟩, ?_⟩
  rintro n m H' ⟨rfl, hn, G', acc, dacc, drest, B, E2, gD, eD, ra, fB, ed, es, el⟩
  have s1 : Same G1 H' := E2.g.trans E2.sub
  by_cases hlt : n < vs.length
  · refine .inr ⟨w.1 n H' s1 hlt, P (n + 1), fun H3 p => ⟨vs.length - (n + 1), by omega, rfl, hlt, p⟩, fun x H3 y => ?_⟩
    obtain ⟨e3, hx⟩ := w.2.2 n H' x H3 s1 hlt y
    subst e3
    have hln : n < xs.length := by rw [← rp.len]; exact hlt
    have hdr : xs.drop n = xs[n] :: xs.drop (n + 1) := List.drop_eq_getElem_cons hln
    obtain ⟨x', hx', rx⟩ := rp.get (i := n) (x := xs[n]) (List.getElem?_eq_getElem hln)
    rw [hx] at hx'
    cases hx'
    rw [hdr, compD] at ed
    split at ed <;> try exact (stuck_ne ed).elim
    rename_i d er
    cases e4 : compD i (evD elt) S (xs.drop (n + 1)) with
    | stuck => rw [e4] at ed; exact (stuck_ne ed).elim
    | exc => rw [e4] at ed; exact (exc_ne ed).elim
    | ok d4 =>
      rw [e4] at ed
      have ed : d :: d4 = drest := Res.ok.inj ed
      subst ed
      refine ⟨by show ((σ.set i none).set i (some x)).set i none = σ.set i none; rw [List.set_set, List.set_set], ?_⟩
      unfold tYes
      dsimp only
      rw [if_pos rfl]
      refine ⟨S.set i (.sh xs[n]), G', ((R.ext E1).ext E2).blk (rx.mono E2.g) hi, ?_⟩
      rw [er]
      intro A v G4 H4 E4 ov fA
      have eD4 : H4 Da = some (.lst acc) := E4.h _ _ eD
      have ra4 : OwnL (Own X.K G4 (upd H4 Da (.lst (acc ++ [v]))) elt.dep) B acc dacc := ra.imp fun A v d hA p => (p.ext E4).upd_ fun z => (fB Da (hA Da z)).2 rfl
      have nA : ¬ Da ∈ A := fun z => by rw [fA Da z] at eD; cases eD
      obtain ⟨B', m', o'⟩ := ra4.snoc (ov.upd_ nA) fun b hb z => by
        obtain ⟨A', v', d', p, hb'⟩ := ra.mem hb
        obtain ⟨⟨o, ho⟩, _⟩ := p.dom b hb'
        rw [fA b z] at ho
        cases ho
      refine ⟨acc, eD4, by rw [szl, el]; omega, G4, acc ++ [v], dacc ++ [d], d4, B', (E2.trans E4).mut hD (E4.gnone eD gD), E4.gnone eD gD, upd_same, o', fun b hb => ?_, e4, by rw [← es]; simp, by simp [el]⟩
      rcases (m' b).mp hb with hb | hb
      · exact fB b hb
      · exact ⟨E2.h.free (fA b hb), fun e => nA (by rw [← e]; exact hb)⟩
  · have e : n = vs.length := by omega
    subst e
    have hdr : xs.drop vs.length = [] := List.drop_eq_nil_of_le (by rw [rp.len]; exact Nat.le_refl _)
    rw [hdr, compD] at ed
    have ed : [] = drest := Res.ok.inj ed
    subst ed
    rw [List.append_nil] at es
    subst es
    refine .inl ⟨w.2.1 _ H' s1 (Nat.le_refl _), q (Da :: B) _ G' H' (E1.trans E2) ⟨Da, acc, dacc, B, rfl, rfl, rfl, eD, gD, fun z => (fB Da z).2 rfl, ra⟩ fun b hb => ?_⟩
    rcases List.mem_cons.mp hb with e | hb
    · subst e; exact E1.h.free hD
    · exact E1.h.free (fB b hb).1
theorem lc_compD {elt : DE} (i : Nat) (k : IK) {es : List ME} (ia : SndD elt) {X : Cx} {N : List Str} {sc : Scope} {cl : Str → Value} {W : WX} {n : Nat} (x : XOk X N sc W n) {b it : Expr} {scope : Scope} {y : Str} {yp : Pos}
    (hc1 : ownE N sc scope i y = true) (hc2 : chkD N elt (relS scope sc) b = true) (hc3 : chkI N sc k es it = true) (hf : AllC (GoodFn X.prog X.w X.K X.mg X.base cl n) (callsD (.cmp elt i k es))) (hg : AllC (GoodGl X.K X.mg) (glosD (.cmp elt i k es))) :
    IsLc X (rdD X.K cl W (.cmp elt i k es)) b (.Name y yp) it [] scope [(y, i)] (rdI X.K cl W k es) (gName i) tYes (rdD X.K cl W0 elt) := by
  obtain ⟨f1, f2⟩ := AllC.app (show AllC _ (callsD elt ++ callsEs es) from hf)
  obtain ⟨g1, g2⟩ := AllC.app (show AllC _ (glosD elt ++ glosEs es) from hg)
  obtain ⟨ok, hi, pg, xo, _, _⟩ := comp_facts x hc1
  obtain ⟨pi, hs⟩ := snd_pi (cl := cl) (tg := .Name y yp) (snd_alls es) x hc3 f2 g2
  refine ⟨pi, ok, fun s H C c fp => pg yp s H C c fp, fun _ _ _ _ _ => pts_nil, fun s H C c fp => ia _ N (relS scope sc) cl W0 n b (xo s H C c fp) hc2 f1 g1, hs, fun σ H Q hlen ⟨S, G, R, h⟩ => ?_⟩
  rw [evD] at h
  have hi' : i < σ.length := by rw [hlen, x.hN]; exact hi
  refine ⟨S, G, R, ?_⟩
  cases e1 : evI k es S with
  | stuck => rw [e1] at h; exact h
  | exc c => rw [e1] at h; exact h
  | ok xs =>
    rw [e1] at h
    intro J vs G1 H1 E1 w rp Da hD
    have h : KxD X.K cl W (DE.cmp elt i k es).dep σ G H (if xs.length ≤ 16777216 then (compD i (evD elt) S xs).bind fun ds => .ok (.lst ds) else .stuck) Q := h
    split at h
    · rename_i hl
      cases e3 : compD i (evD elt) S xs with
      | stuck => rw [e3] at h; exact False.elim h
      | exc c =>
        exact (compD_exc xs c e3).elim
      | ok ds =>
        rw [e3] at h
        exact compD_loop R E1 hi' w rp hl e3 h Da hD
    · exact False.elim h
theorem sndD_all : ∀ m : DE, SndD m
  | .lf e => sndD_lf e
  | .cmp elt i k es => by
    intro X N sc cl W n e x hc hf hg
    cases e <;> try exact absurd hc Bool.false_ne_true
    rename_i b gens scope pos
    match gens, hc with
    | [⟨.Name y yp, it, [], 0⟩], hc =>
      have hc : (ownE N sc scope i y && chkD N elt (relS scope sc) b && chkI N sc k es it) = true := hc
      rw [Bool.and_eq_true, Bool.and_eq_true] at hc
      have L := lc_compD (cl := cl) (W := W) (yp := yp) i k (sndD_all elt) x hc.1.1 hc.1.2 hc.2 hf hg
      exact ⟨fun pins s σ H Q I h => (pe_lc x.calm x.nd L.pi L.ok L.hg L.ht L.he L.hs).run pins s σ H Q I (L.rd σ H Q I.len h)⟩
end MP
set_option Elab.async false
set_option linter.all false
set_option maxRecDepth 100000
set_option maxHeartbeats 4000000
namespace MP
open PySem PySem.Spec PyProof.Rows L2 RT

inductive MS where
  | set (i : Nat) (e : ME)
  | own (i : Nat) (e : ME)
  | unp (is : List Nat) (e : ME)
  | app (i : Nat) (e : ME)
  | ins (i : Nat) (k e : ME)
  | popd (i : Nat) (k : ME)
  | spop (j i : Nat) (k : ME)
  | sto (i : Nat) (k e : ME)
  | ife (c : ME) (a b : List MS)
  | forI (i : Nat) (k : IK) (es : List ME) (b : List MS)
  | forU (is : List Nat) (k : IK) (es : List ME) (b : List MS)
  | whil (c : ME) (b : List MS)
  | ret (e : ME)
  | retL (i : Nat)
  /-- return (x, y), two lists of the def's own -/
  | ret2 (i j : Nat)
  /-- return (e, f), f a new list -/
  | retT (e f : ME)
  /-- return (e, x.rows), x the def's own object -/
  | retO (e : ME) (i : Nat)
  /-- x, y = e, where e hands back something and a new list -/
  | unpF (i j : Nat) (e : ME)
  | exp (e : ME)
  | rais (c : Str)
  | frz (i : Nat)
  /-- try: b; except K as e: marks = [isinstance(e, C), ..] -/
  | tryI (b : List MS) (K : Str) (i j : Nat) (cs : List Str) (tab : List (Str × List Bool))
  /-- try: b; except K: x = True or False -/
  | tryS (b : List MS) (K : Str) (j : Nat) (v : Bool) (tab : List (Str × List Bool))
  /-- try: b; except K: .., where b raises nothing -/
  | tryR (b : List MS) (K : Str)
  /-- name = Span() -/
  | mk (i : Nat)
  /-- name = lists within lists, new -/
  | dset (i : Nat) (m : DE)
  /-- name[..][l] = e; the keys before the last one, the last of these first -/
  | dsto (i : Nat) (ks : List ME) (l e : ME)
  /-- other.append(name.pop(k)) -/
  | apop (j i : Nat) (k : ME)
  /-- name.put(e); if name.put(e): a else: b -/
  | put (i : Nat) (g : PutFn) (e : ME)
  | ifPut (i : Nat) (g : PutFn) (e : ME) (a b : List MS)

def tabAt : List (Str × List Bool) → Str → Option (List Bool)
  | [], _ => none
  | p :: ps, c => if c = p.1 then some p.2 else tabAt ps c
/-- what a body asks of the classes of errors -/
inductive ExI where
  | rais (c : Str)
  | tri (K : Str) (cs : List Str) (tab : List (Str × List Bool))

inductive SRes where
  | nx (S : List SV) | ret (d : D) (fr : Bool) | exc (c : Str) (S : List SV) | stuck

def bindS {α : Type} (S : List SV) (r : Res α) (f : α → SRes) : SRes := match r with
  | .ok a => f a
  | .exc c => .exc c S
  | .stuck => .stuck
def setAll : List SV → List Nat → List D → Option (List SV)
  | S, [], [] => some S
  | S, i :: is, d :: ds => setAll (S.set i (.sh d)) is ds
  | _, _, _ => none
def tgU (is : List Nat) (S : List SV) (d : D) : Option (List SV) := match d with
  | .tup ds => setAll S is ds
  | _ => none
def forL (f : List SV → SRes) (tg : List SV → D → Option (List SV)) : List D → List SV → SRes
  | [], S => .nx S
  | x :: xs, S => match tg S x with
    | none => .stuck
    | some S1 => match f S1 with
      | .nx S2 => forL f tg xs S2
      | r => r
def whileL (c : List SV → Res (D × Kd)) (f : List SV → SRes) : Nat → List SV → SRes
  | 0, _ => .stuck
  | n + 1, S => bindS S (c S) fun r => match r.1 with
    | .bl true => (match f S with
      | .nx S2 => whileL c f n S2
      | r => r)
    | .bl false => .nx S
    | _ => .stuck
/-- along the keys, the last one first: the path, what is there -/
def evP (d : D) : List ME → List SV → Res (List Nat × D)
  | [], _ => .ok ([], d)
  | k :: ks, S => (evP d ks S).bind fun p => (evE k S).bind fun q => match p.2, q.1 with
    | .lst ds, .int z => (match ixN ds.length z with
      | some j => (match ds[j]? with
        | some x => .ok (p.1 ++ [j], x)
        | none => .stuck)
      | none => .stuck)
    | _, _ => .stuck
def isLst : D → Bool
  | .lst _ => true
  | _ => false
theorem isLst_no {d : D} (h : isLst d = false) : ∀ es, d ≠ .lst es := fun es e => by subst e; cases h
def isObS : SV → Bool
  | .ob _ _ => true
  | .dp _ _ => true
  | _ => false
mutual
def exS (n : Nat) : MS → List SV → SRes
  | .set i e, S => bindS S (evE e S) fun r => if r.2 = .bo then .stuck else .nx (S.set i (.sh r.1))
  | .own i e, S => bindS S (evE e S) fun r => match r with
    | (.lst ds, .fr) => .nx (S.set i (.ow ds))
    | (.non, .sh) => .nx (S.set i (.sh .non))
    | _ => .stuck
  | .unp is e, S => bindS S (evE e S) fun r => match tgU is S r.1 with
    | some S1 => .nx S1
    | none => .stuck
  | .app i e, S => match S[i]? with
    | some (.ow xs) => bindS S (evE e S) fun r => if r.2 = .bo then .stuck else (if xs.length < 16777216 then .nx (S.set i (.ow (xs ++ [r.1]))) else .stuck)
    | _ => .stuck
  | .ins i k e, S => match S[i]? with
    | some (.ow xs) => bindS S (evE k S) fun q => match q.1 with
      | .int z => bindS S (evE e S) fun r => if r.2 = .bo then .stuck else (if xs.length < 16777216 ∧ 0 ≤ z ∧ z.natAbs < 16777216 then .nx (S.set i (.ow (xs.take z.toNat ++ [r.1] ++ xs.drop z.toNat))) else .stuck)
      | _ => .stuck
    | _ => .stuck
  | .popd i k, S => match S[i]? with
    | some (.ow xs) => bindS S (evE k S) fun q => match q.1 with
      | .int z => if 0 ≤ z ∧ z < xs.length ∧ xs.length ≤ 16777216 then .nx (S.set i (.ow (xs.eraseIdx z.toNat))) else .stuck
      | _ => .stuck
    | _ => .stuck
  | .spop j i k, S => match S[i]? with
    | some (.ow xs) => bindS S (evE k S) fun q => match q.1 with
      | .int z => if 0 ≤ z ∧ xs.length ≤ 16777216 then (match xs[z.toNat]? with
        | some d => .nx ((S.set i (.ow (xs.eraseIdx z.toNat))).set j (.sh d))
        | none => .stuck) else .stuck
      | _ => .stuck
    | _ => .stuck
  | .sto i k e, S => bindS S (evE e S) fun r => if r.2 = .bo then .stuck else (match S[i]? with
    | some (.ow xs) => bindS S (evE k S) fun q => match q.1 with
      | .int z => (match ixN xs.length z with
        | some j => .nx (S.set i (.ow (xs.set j r.1)))
        | none => .stuck)
      | _ => .stuck
    | _ => .stuck)
  | .ife c a b, S => bindS S (evE c S) fun r => match r.1 with
    | .bl true => exSs n a S
    | .bl false => exSs n b S
    | _ => .stuck
  | .forI i k es b, S => bindS S (evI k es S) fun xs => forL (exSs n b) (fun S d => some (S.set i (.sh d))) xs S
  | .forU is k es b, S => bindS S (evI k es S) fun xs => forL (exSs n b) (tgU is) xs S
  | .whil c b, S => whileL (evE c) (exSs n b) n S
  | .ret e, S => bindS S (evE e S) fun r => if r.2 = .bo then .stuck else .ret r.1 (decide (r.2 = .fr))
  | .retL i, S => match S[i]? with
    | some (.ow ds) => .ret (.lst ds) true
    | _ => .stuck
  | .ret2 i j, S => match S[i]?, S[j]? with
    | some (.ow ds), some (.ow es) => if i = j then .stuck else .ret (.tup [.lst ds, .lst es]) true
    | _, _ => .stuck
  | .retT e f, S => bindS S (evE e S) fun r => if r.2 = .bo ∨ isLst r.1 = true then .stuck else bindS S (evE f S) fun q => match q with
    | (.lst ds, .fr) => .ret (.tup [r.1, .lst ds]) true
    | _ => .stuck
  | .retO e i, S => match S[i]? with
    | some (.ob rows _) => bindS S (evE e S) fun r => if r.2 = .bo ∨ isLst r.1 = true then .stuck else .ret (.tup [r.1, .lst rows]) true
    | _ => .stuck
  | .unpF i j e, S => if i = j then .stuck else bindS S (evE e S) fun r => match r with
    | (.tup [x, .lst ds], .fr) => if isLst x = true then .stuck else .nx ((S.set i (.sh x)).set j (.ow ds))
    | _ => .stuck
  | .exp e, S => bindS S (evE e S) fun _ => .nx S
  | .rais c, S => .exc c S
  | .frz i, S => match S[i]? with
    | some (.ow ds) => .nx (S.set i (.sh (.lst ds)))
    | some (.ob rows cl) => .nx (S.set i (.sh (.ob rows cl)))
    | some (.dp (_ + 1) (.lst ds)) => .nx (S.set i (.ow ds))
    | _ => .stuck
  | .dset i m, S => if S.any isObS = true then .stuck else bindS S (evD m S) fun d => .nx (S.set i (.dp m.dep d))
  | .dsto i ks l e, S => bindS S (evE e S) fun r => if r.2 = .bo then .stuck else (match S[i]? with
    | some (.dp n d) => if ks.length + 1 = n then bindS S (evP d ks S) fun p => bindS S (evE l S) fun q => match p.2, q.1 with
      | .lst ds, .int z => (match ixN ds.length z with
        | some j => (match putP r.1 (p.1 ++ [j]) d with
          | some d' => .nx (S.set i (.dp n d'))
          | none => .stuck)
        | none => .stuck)
      | _, _ => .stuck
      else .stuck
    | _ => .stuck)
  | .apop j i k, S => match S[j]?, S[i]? with
    | some (.ow ys), some (.ow xs) => bindS S (evE k S) fun q => match q.1 with
      | .int z => if 0 ≤ z ∧ xs.length ≤ 16777216 ∧ ys.length < 16777216 ∧ i ≠ j then (match xs[z.toNat]? with
        | some d => .nx ((S.set i (.ow (xs.eraseIdx z.toNat))).set j (.ow (ys ++ [d])))
        | none => .stuck) else .stuck
      | _ => .stuck
    | _, _ => .stuck
  | .mk i, S => if S.any isObS = true then .stuck else .nx (S.set i (.ob [] []))
  | .put i g e, S => match S[i]? with
    | some (.ob rows cl) => bindS S (evE e S) fun r => if r.2 = .bo then .stuck else (match g rows cl r.1 with
      | .ok q => .nx (S.set i (.ob q.2.1 q.2.2))
      | _ => .stuck)
    | _ => .stuck
  | .ifPut i g e a b, S => match S[i]? with
    | some (.ob rows cl) => bindS S (evE e S) fun r => if r.2 = .bo then .stuck else (match g rows cl r.1 with
      | .ok q => if q.1 = true then exSs n a (S.set i (.ob q.2.1 q.2.2)) else exSs n b (S.set i (.ob q.2.1 q.2.2))
      | _ => .stuck)
    | _ => .stuck
  | .tryI b _ i j _ tab, S => match exSs n b S with
    | .exc c S1 => (match tabAt tab c with
      | some bs => if S1.length = S.length then .nx ((S1.set i .no).set j (.sh (.lst (bs.map D.bl)))) else .stuck
      | none => .stuck)
    | r => r
  | .tryR b _, S => match exSs n b S with
    | .exc _ _ => .stuck
    | r => r
  | .tryS b _ j v tab, S => match exSs n b S with
    | .exc c S1 => (match tabAt tab c with
      | some _ => if S1.length = S.length then .nx (S1.set j (.sh (.bl v))) else .stuck
      | none => .stuck)
    | r => r
def exSs (n : Nat) : List MS → List SV → SRes
  | [], S => .nx S
  | s :: ss, S => match exS n s S with
    | .nx S1 => exSs n ss S1
    | r => r
end

mutual
def callsS : MS → List CallI
  | .set _ e => callsE e
  | .own _ e => callsE e
  | .unp _ e => callsE e
  | .app _ e => callsE e
  | .ins _ k e => callsE k ++ callsE e
  | .popd _ k => callsE k
  | .spop _ _ k => callsE k
  | .sto _ k e => callsE k ++ callsE e
  | .ife c a b => callsE c ++ (callsSs a ++ callsSs b)
  | .forI _ _ es b => callsEs es ++ callsSs b
  | .forU _ _ es b => callsEs es ++ callsSs b
  | .whil c b => callsE c ++ callsSs b
  | .ret e => callsE e
  | .retL _ => []
  | .ret2 _ _ => []
  | .retT e f => callsE e ++ callsE f
  | .retO e _ => callsE e
  | .unpF _ _ e => callsE e
  | .exp e => callsE e
  | .rais _ => []
  | .frz _ => []
  | .tryI b _ _ _ _ _ => callsSs b
  | .tryS b _ _ _ _ => callsSs b
  | .tryR b _ => callsSs b
  | .mk _ => [.ini]
  | .dset _ m => callsD m
  | .dsto _ ks l e => callsEs ks ++ (callsE l ++ callsE e)
  | .apop _ _ k => callsE k
  | .put _ g e => .put g :: callsE e
  | .ifPut _ g e a b => .put g :: (callsE e ++ (callsSs a ++ callsSs b))
def callsSs : List MS → List CallI
  | [] => []
  | s :: ss => callsS s ++ callsSs ss
end
mutual
def glosS : MS → List (Str × D)
  | .set _ e => glosE e
  | .own _ e => glosE e
  | .unp _ e => glosE e
  | .app _ e => glosE e
  | .ins _ k e => glosE k ++ glosE e
  | .popd _ k => glosE k
  | .spop _ _ k => glosE k
  | .sto _ k e => glosE k ++ glosE e
  | .ife c a b => glosE c ++ (glosSs a ++ glosSs b)
  | .forI _ _ es b => glosEs es ++ glosSs b
  | .forU _ _ es b => glosEs es ++ glosSs b
  | .whil c b => glosE c ++ glosSs b
  | .ret e => glosE e
  | .retL _ => []
  | .ret2 _ _ => []
  | .retT e f => glosE e ++ glosE f
  | .retO e _ => glosE e
  | .unpF _ _ e => glosE e
  | .exp e => glosE e
  | .rais _ => []
  | .frz _ => []
  | .tryI b _ _ _ _ _ => glosSs b
  | .tryS b _ _ _ _ => glosSs b
  | .tryR b _ => glosSs b
  | .mk _ => []
  | .dset _ m => glosD m
  | .dsto _ ks l e => glosEs ks ++ (glosE l ++ glosE e)
  | .apop _ _ k => glosE k
  | .put _ _ e => glosE e
  | .ifPut _ _ e a b => glosE e ++ (glosSs a ++ glosSs b)
def glosSs : List MS → List (Str × D)
  | [] => []
  | s :: ss => glosS s ++ glosSs ss
end
mutual
def excsS : MS → List ExI
  | .rais c => [.rais c]
  | .ife _ a b => excsSs a ++ excsSs b
  | .forI _ _ _ b => excsSs b
  | .forU _ _ _ b => excsSs b
  | .whil _ b => excsSs b
  | .ifPut _ _ _ a b => excsSs a ++ excsSs b
  | .tryI b K _ _ cs tab => .tri K cs tab :: excsSs b
  | .tryS b K _ _ tab => .tri K [] tab :: excsSs b
  | .tryR b K => .tri K [] [] :: excsSs b
  | _ => []
def excsSs : List MS → List ExI
  | [] => []
  | s :: ss => excsS s ++ excsSs ss
end
/-- isinstance(n, C), .. -/
def isChk (N : List Str) (sc : Scope) (i : Nat) : List Str → List Expr → Bool
  | [], [] => true
  | c :: cs, .Call (.Name y _) [.Name x _, .Name z _] [] _ :: es => decide (y = "isinstance") && glE sc y && visE N sc i x && decide (z = c) && glE sc z && isChk N sc i cs es
  | _, _ => false

def namesU (N : List Str) (sc : Scope) : List Nat → List Expr → Bool
  | [], [] => true
  | i :: is, .Name x _ :: es => locE N sc i x && namesU N sc is es
  | _, _ => false
def notTup : Expr → Bool
  | .Tuple _ _ _ => false
  | _ => true
def isCall : Expr → Bool
  | .Call _ _ _ _ => true
  | _ => false
def chkPth (N : List Str) (sc : Scope) (i : Nat) : List ME → Expr → Bool
  | [], .Name x _ => visE N sc i x
  | k :: ks, .Subscript b f _ => chkPth N sc i ks b && chkE N k sc f
  | _, _ => false
mutual
def chkS (N : List Str) : MS → Scope → Stmt → Bool
  | .set i m, sc, st => match st with
    | .Assign [.Name x _] e _ => locE N sc i x && chkE N m sc e
    | _ => false
  | .own i m, sc, st => match st with
    | .Assign [.Name x _] e _ => locE N sc i x && chkE N m sc e
    | _ => false
  | .unp is m, sc, st => match st with
    | .Assign [.Tuple ts _ _] e _ => namesU N sc is ts && notTup e && chkE N m sc e
    | _ => false
  | .app i m, sc, st => match st with
    | .Expr (.Call (.Attribute (.Name x _) y ap) [e] [] cp) _ => decide (y = "append") && visE N sc i x && (ap.endLine == cp.line) && chkE N m sc e
    | _ => false
  | .ins i k m, sc, st => match st with
    | .Expr (.Call (.Attribute (.Name x _) y ap) [f, e] [] cp) _ => decide (y = "insert") && visE N sc i x && (ap.endLine == cp.line) && chkE N k sc f && chkE N m sc e
    | _ => false
  | .popd i k, sc, st => match st with
    | .Expr (.Call (.Attribute (.Name x _) y ap) [f] [] cp) _ => decide (y = "pop") && visE N sc i x && (ap.endLine == cp.line) && chkE N k sc f
    | _ => false
  | .spop j i k, sc, st => match st with
    | .Assign [.Name z _] (.Call (.Attribute (.Name x _) y ap) [f] [] cp) _ => decide (y = "pop") && visE N sc i x && (ap.endLine == cp.line) && chkE N k sc f && locE N sc j z && decide (j ≠ i)
    | _ => false
  | .sto i k m, sc, st => match st with
    | .Assign [.Subscript (.Name x _) f _] e _ => visE N sc i x && chkE N k sc f && chkE N m sc e
    | _ => false
  | .ife c a b, sc, st => match st with
    | .If t p q _ => chkE N c sc t && chkSs N a sc p && chkSs N b sc q
    | _ => false
  | .forI i k es b, sc, st => match st with
    | .For (.Name x _) it p [] _ => locE N sc i x && chkI N sc k es it && chkSs N b sc p
    | _ => false
  | .forU is k es b, sc, st => match st with
    | .For (.Tuple ts _ _) it p [] _ => namesU N sc is ts && chkI N sc k es it && chkSs N b sc p
    | _ => false
  | .whil c b, sc, st => match st with
    | .While t p [] _ => chkE N c sc t && chkSs N b sc p
    | _ => false
  | .ret m, sc, st => match st with
    | .Return (some e) _ => chkE N m sc e
    | _ => false
  | .retL i, sc, st => match st with
    | .Return (some (.Name x _)) _ => visE N sc i x
    | _ => false
  | .ret2 i j, sc, st => match st with
    | .Return (some (.Tuple [.Name x _, .Name y _] _ _)) _ => visE N sc i x && visE N sc j y
    | _ => false
  | .retT m l, sc, st => match st with
    | .Return (some (.Tuple [e, f] _ _)) _ => chkE N m sc e && chkE N l sc f
    | _ => false
  | .retO m i, sc, st => match st with
    | .Return (some (.Tuple [e, .Attribute (.Name x _) y _] _ _)) _ => chkE N m sc e && visE N sc i x && decide (y = "rows")
    | _ => false
  | .unpF i j m, sc, st => match st with
    | .Assign [.Tuple ts _ _] e _ => namesU N sc [i, j] ts && notTup e && chkE N m sc e
    | _ => false
  | .exp m, sc, st => match st with
    | .Expr e _ => isCall e && chkE N m sc e
    | _ => false
  | .rais c, sc, st => match st with
    | .Raise (some (.Call (.Name x _) [.Constant (.str _) _ _] [] _)) none _ => decide (x = c) && glE sc x
    | _ => false
  | .frz _, _, _ => false
  | .tryI b K i j cs _, sc, st => match st with
    | .Try body [.ExceptHandler (some (.Name x _)) (some e) [.Assign [.Name y _] (.List es _) _] _] [] [] _ => decide (x = K) && glE sc x && decide (N[i]? = some e) && decide (sc.names.lookup e = some .local) && locE N sc j y && decide (i ≠ j) && decide (cs.length ≤ 1000) && isChk N sc i cs es && chkSs N b sc body
    | _ => false
  | .tryS b K j v _, sc, st => match st with
    | .Try body [.ExceptHandler (some (.Name x _)) none [.Assign [.Name y _] (.Constant (.bool u) _ _) _] _] [] [] _ => decide (x = K) && glE sc x && locE N sc j y && decide (u = v) && chkSs N b sc body
    | _ => false
  | .tryR b K, sc, st => match st with
    | .Try body [.ExceptHandler (some (.Name x _)) none (_ :: _) _] [] [] _ => decide (x = K) && glE sc x && chkSs N b sc body
    | _ => false
  | .dset i m, sc, st => match st with
    | .Assign [.Name x _] (.ListComp b gens scope p) _ => locE N sc i x && chkD N m sc (.ListComp b gens scope p) && (match m with
      | .cmp _ _ _ _ => true
      | _ => false)
    | _ => false
  | .dsto i ks l m, sc, st => match st with
    | .Assign [.Subscript b f _] e _ => chkPth N sc i ks b && chkE N l sc f && chkE N m sc e
    | _ => false
  | .apop j i k, sc, st => match st with
    | .Expr (.Call (.Attribute (.Name x _) y ap) [.Call (.Attribute (.Name w _) z ap2) [f] [] cp2] [] cp) _ => decide (y = "append") && visE N sc j x && (ap.endLine == cp.line) && decide (z = "pop") && visE N sc i w && (ap2.endLine == cp2.line) && chkE N k sc f
    | _ => false
  | .mk i, sc, st => match st with
    | .Assign [.Name x _] (.Call (.Name y _) [] [] _) _ => decide (y = "Span") && glE sc y && locE N sc i x
    | _ => false
  | .put i _ m, sc, st => match st with
    | .Expr (.Call (.Attribute (.Name x _) y ap) [e] [] cp) _ => decide (y = "put") && visE N sc i x && (ap.endLine == cp.line) && chkE N m sc e
    | _ => false
  | .ifPut i _ m a b, sc, st => match st with
    | .If (.Call (.Attribute (.Name x _) y ap) [e] [] cp) p q _ => decide (y = "put") && visE N sc i x && (ap.endLine == cp.line) && chkE N m sc e && chkSs N a sc p && chkSs N b sc q
    | _ => false
def chkSs (N : List Str) : List MS → Scope → List Stmt → Bool
  | [], _, sts => match sts with
    | [] => true
    | _ => false
  | .frz _ :: ms, sc, sts => chkSs N ms sc sts
  | m :: ms, sc, sts => match sts with
    | st :: sts => chkS N m sc st && chkSs N ms sc sts
    | [] => false
end
/-- the same, but nothing computes through it -/
noncomputable def hide {α : Type} (a : α) : α := (Classical.choice (⟨⟨a, rfl⟩⟩ : Nonempty {b : α // b = a})).1
@[simp] theorem hide_eq {α : Type} (a : α) : hide a = a := (Classical.choice (⟨⟨a, rfl⟩⟩ : Nonempty {b : α // b = a})).2
/-- the mirror of a def: its slots, its body -/
noncomputable def mirror (slots : Nat) (n : Nat) (body : List MS) : Fn := hide fun ds => match exSs n body (ds.map SV.sh ++ List.replicate (slots - ds.length) SV.no) with
  | .nx _ => .ok (.non, false)
  | .ret d fr => .ok (d, fr)
  | .exc c _ => .exc c
  | .stuck => .stuck
end MP
set_option Elab.async false
set_option linter.all false
set_option maxRecDepth 100000
set_option maxHeartbeats 4000000
namespace MP
open PySem PySem.Spec PyProof.Rows L2 RT

/-! ### the state of a def's body: G0, H0 its entry -/
/-- the object at a, its two lists -/
def ObAt (H : Hp) (a r c : Addr) : Prop := ∃ C dx, H a = some (.ins C dx (spF r c))
theorem ObAt.uniq {H : Hp} {a r c r' c' : Addr} (h : ObAt H a r c) (h' : ObAt H a r' c') : r = r' ∧ c = c' := by
  obtain ⟨C, dx, h⟩ := h
  obtain ⟨C', dx', h'⟩ := h'
  rw [h] at h'
  injection h' with h'
  injection h' with _ _ h'
  exact spF_inj h'
theorem ObAt.mono {H H' : Hp} {a r c : Addr} (h : ObAt H a r c) (s : Same H H') : ObAt H' a r c := by
  obtain ⟨C, dx, h⟩ := h
  exact ⟨C, dx, s _ _ h⟩
def DpAt (K : PySem.W.Frag) (G H H0 : Hp) (S : List SV) (σ : L2.St) (i n : Nat) (d : D) : Prop := ∃ A v, σ[i]? = some (some v) ∧ Own K G H n A v d ∧ (∀ b ∈ A, H0 b = none) ∧
  ∀ (j : Nat) (ds : List D) (b : Addr), S[j]? = some (.ow ds) → σ[j]? = some (some (.ref b)) → ¬ b ∈ A
structure StRel (K : PySem.W.Frag) (G0 H0 : Hp) (S : List SV) (σ : L2.St) (G H : Hp) : Prop where
  ev : EvRel K S σ G H
  ext : Ext G0 H0 G H
  own : ∀ (i : Nat) (a : Addr) (ds : List D), S[i]? = some (.ow ds) → σ[i]? = some (some (.ref a)) → H0 a = none
  dis : ∀ (i j : Nat) (a : Addr) (ds es : List D), i ≠ j → S[i]? = some (.ow ds) → S[j]? = some (.ow es) → σ[i]? = some (some (.ref a)) → σ[j]? = some (some (.ref a)) → False
  obo : ∀ (i : Nat) (a : Addr) (rows cl : List D), S[i]? = some (.ob rows cl) → σ[i]? = some (some (.ref a)) → ∃ r c, ObAt H a r c ∧ H0 a = none ∧ H0 r = none ∧ H0 c = none
  obd : ∀ (i j : Nat) (a b : Addr) (rows cl ds : List D), S[i]? = some (.ob rows cl) → S[j]? = some (.ow ds) → σ[i]? = some (some (.ref a)) → σ[j]? = some (some (.ref b)) → ∃ r c, ObAt H a r c ∧ b ≠ r ∧ b ≠ c
  obu : ∀ (i j : Nat) (rows cl rows' cl' : List D), S[i]? = some (.ob rows cl) → S[j]? = some (.ob rows' cl') → i = j
  dpo : ∀ (i n : Nat) (d : D), S[i]? = some (.dp n d) → DpAt K G H H0 S σ i n d
  dpu : ∀ (i j n : Nat) (d : D) (sv : SV), S[i]? = some (.dp n d) → S[j]? = some sv → isObS sv = true → i = j
section
variable {K : PySem.W.Frag} {G0 H0 G H G1 H1 : Hp} {S : List SV} {σ : L2.St}
theorem StRel.grow (R : StRel K G0 H0 S σ G H) (e : Ext G H G1 H1) : StRel K G0 H0 S σ G1 H1 := ⟨R.ev.ext e, R.ext.trans e, R.own, R.dis, fun i a rows cl h q => by
  obtain ⟨r, c, h1, h2⟩ := R.obo i a rows cl h q
  exact ⟨r, c, h1.mono e.h, h2⟩, fun i j a b rows cl ds h1 h2 q1 q2 => by
  obtain ⟨r, c, h3, h4⟩ := R.obd i j a b rows cl ds h1 h2 q1 q2
  exact ⟨r, c, h3.mono e.h, h4⟩, R.obu, fun i n d h => by
  obtain ⟨A, v, h1, h2, h3, h4⟩ := R.dpo i n d h
  exact ⟨A, v, h1, h2.ext e, h3, h4⟩, R.dpu⟩
theorem set_iso {i j : Nat} {sv sv' : SV} (hs : isObS sv = false) (h : (S.set i sv)[j]? = some sv') (hb : isObS sv' = true) : i ≠ j ∧ S[j]? = some sv' := by
  by_cases e : i = j
  · subst e
    by_cases hi : i < S.length
    · rw [List.getElem?_set_self hi] at h
      cases h
      rw [hs] at hb
      cases hb
    · rw [List.getElem?_eq_none (by simp; omega)] at h
      cases h
  · rw [List.getElem?_set_ne e] at h
    exact ⟨e, h⟩
theorem StRel.sub (R : StRel K G0 H0 S σ G H) : Same G H := R.ev.sub
/-- what is left where a slot is set -/
theorem set_ob {i j : Nat} {sv : SV} {rows cl : List D} (hs : ∀ rows cl, sv ≠ .ob rows cl) (h : (S.set i sv)[j]? = some (.ob rows cl)) : i ≠ j ∧ S[j]? = some (.ob rows cl) := by
  by_cases e : i = j
  · subst e
    by_cases hi : i < S.length
    · rw [List.getElem?_set_self hi] at h
      cases h
      exact absurd rfl (hs _ _)
    · rw [List.getElem?_eq_none (by simp; omega)] at h
      cases h
  · rw [List.getElem?_set_ne e] at h
    exact ⟨e, h⟩
theorem set_ow {i j : Nat} {sv : SV} {ds : List D} (hs : ∀ ds, sv ≠ .ow ds) (h : (S.set i sv)[j]? = some (.ow ds)) : i ≠ j ∧ S[j]? = some (.ow ds) := by
  by_cases e : i = j
  · subst e
    by_cases hi : i < S.length
    · rw [List.getElem?_set_self hi] at h
      cases h
      exact absurd rfl (hs _)
    · rw [List.getElem?_eq_none (by simp; omega)] at h
      cases h
  · rw [List.getElem?_set_ne e] at h
    exact ⟨e, h⟩
/-- a slot takes what is no list and no object of the def's own -/
theorem StRel.setPlain (R : StRel K G0 H0 S σ G H) {i : Nat} {o : Option V} {sv : SV} (hs : ∀ ds, sv ≠ .ow ds) (ho : ∀ rows cl, sv ≠ .ob rows cl) (hb : isObS sv = false) (r : ∀ {o'}, o' = some o → SlotRel K G H o' sv) (hz : i < σ.length ∨ sv = .no) : StRel K G0 H0 (S.set i sv) (σ.set i o) G H := by
  refine ⟨⟨R.sub, by simp [R.ev.len], fun j sv' h => ?_⟩, R.ext, fun j a ds h q => ?_, fun j l a ds es ne h1 h2 q1 q2 => ?_, fun j a rows cl h q => ?_, fun j l a b rows cl ds h1 h2 q1 q2 => ?_, fun j l rows cl rows' cl' h1 h2 => ?_, fun j n d h => ?_, fun j l n d sv' h1 h2 h3 => R.dpu j l n d sv' (set_iso hb h1 rfl).2 (set_iso hb h2 h3).2 h3⟩
  · by_cases e : i = j
    · subst e
      by_cases hi : i < S.length
      · rw [List.getElem?_set_self hi] at h
        cases h
        rcases hz with hz | hz
        · exact r (by rw [List.getElem?_set_self hz])
        · rw [hz]; trivial
      · rw [List.getElem?_eq_none (by simp; omega)] at h; cases h
    · rw [List.getElem?_set_ne e] at h ⊢
      exact R.ev.sl j sv' h
  · obtain ⟨ne, h⟩ := set_ow hs h
    rw [List.getElem?_set_ne ne] at q
    exact R.own j a ds h q
  · obtain ⟨n1, h1⟩ := set_ow hs h1
    obtain ⟨n2, h2⟩ := set_ow hs h2
    rw [List.getElem?_set_ne n1] at q1
    rw [List.getElem?_set_ne n2] at q2
    exact R.dis j l a ds es ne h1 h2 q1 q2
  · obtain ⟨ne, h⟩ := set_ob ho h
    rw [List.getElem?_set_ne ne] at q
    exact R.obo j a rows cl h q
  · obtain ⟨n1, h1⟩ := set_ob ho h1
    obtain ⟨n2, h2⟩ := set_ow hs h2
    rw [List.getElem?_set_ne n1] at q1
    rw [List.getElem?_set_ne n2] at q2
    exact R.obd j l a b rows cl ds h1 h2 q1 q2
  · exact R.obu j l _ _ _ _ (set_ob ho h1).2 (set_ob ho h2).2
  · obtain ⟨ne, h⟩ := set_iso hb h rfl
    obtain ⟨A, v, q, ow, f, dj⟩ := R.dpo j n d h
    refine ⟨A, v, by rw [List.getElem?_set_ne ne]; exact q, ow, f, fun l es b h2 q2 => ?_⟩
    obtain ⟨n2, h2⟩ := set_ow hs h2
    rw [List.getElem?_set_ne n2] at q2
    exact dj l es b h2 q2
/-- a slot takes plain data -/
theorem StRel.setSh (R : StRel K G0 H0 S σ G H) {i : Nat} {v : V} {d : D} (r : Rep K G v d) (hi : i < σ.length) : StRel K G0 H0 (S.set i (.sh d)) (σ.set i (some v)) G H :=
  R.setPlain (fun _ z => by cases z) (fun _ _ z => by cases z) rfl (fun e => ⟨v, e, r⟩) (.inl hi)
theorem StRel.setNo (R : StRel K G0 H0 S σ G H) (i : Nat) (o : Option V) : StRel K G0 H0 (S.set i .no) (σ.set i o) G H :=
  R.setPlain (fun _ z => by cases z) (fun _ _ z => by cases z) rfl (fun _ => trivial) (.inr rfl)
/-- a slot takes a new list of the def's own -/
theorem StRel.setOw (R : StRel K G0 H0 S σ G H) {i : Nat} {p : Addr} {xs : List V} {ds : List D} (h1 : H p = some (.lst xs)) (g : G p = none) (r : RepL K G xs ds) (h0 : H0 p = none) (hi : i < σ.length)
    (hn : ∀ (j : Nat) (es : List D), S[j]? = some (.ow es) → σ[j]? = some (some (.ref p)) → False) (ho : ∀ (j : Nat) (a : Addr) (rows cl : List D), S[j]? = some (.ob rows cl) → σ[j]? = some (some (.ref a)) → ∃ r c, ObAt H a r c ∧ p ≠ r ∧ p ≠ c)
    (hd : ∀ (j n : Nat) (d : D), S[j]? = some (.dp n d) → ∃ A v, σ[j]? = some (some v) ∧ Own K G H n A v d ∧ (∀ b ∈ A, H0 b = none) ∧ (∀ (l : Nat) (es : List D) (b : Addr), S[l]? = some (.ow es) → σ[l]? = some (some (.ref b)) → ¬ b ∈ A) ∧ ¬ p ∈ A) : StRel K G0 H0 (S.set i (.ow ds)) (σ.set i (some (.ref p))) G H := by
  have hS : i < S.length := by rw [R.ev.len]; exact hi
  have hob : ∀ rows cl, (SV.ow ds) ≠ .ob rows cl := fun _ _ z => by cases z
  refine ⟨⟨R.sub, by simp [R.ev.len], fun j sv h => ?_⟩, R.ext, fun j a es h q => ?_, fun j l a es fs ne q1 q2 q3 q4 => ?_, fun j a rows cl h q => ?_, fun j l a b rows cl es h1 h2 q1 q2 => ?_, fun j l rows cl rows' cl' h1 h2 => R.obu j l _ _ _ _ (set_ob hob h1).2 (set_ob hob h2).2, fun j n d h => ?_, fun j l n d sv' h1 h2 h3 => R.dpu j l n d sv' (set_iso rfl h1 rfl).2 (set_iso rfl h2 h3).2 h3⟩
  · by_cases e : i = j
    · subst e
      rw [List.getElem?_set_self hS] at h
      cases h
      exact ⟨p, xs, by rw [List.getElem?_set_self hi], h1, g, r⟩
    · rw [List.getElem?_set_ne e] at h ⊢
      exact R.ev.sl j sv h
  · by_cases e : i = j
    · subst e
      rw [List.getElem?_set_self hi] at q
      cases q
      exact h0
    · rw [List.getElem?_set_ne e] at h q
      exact R.own j a es h q
  · by_cases e : i = j
    · subst e
      rw [List.getElem?_set_self hi] at q3
      cases q3
      rw [List.getElem?_set_ne ne] at q2 q4
      exact hn l fs q2 q4
    · rw [List.getElem?_set_ne e] at q1 q3
      by_cases e2 : i = l
      · subst e2
        rw [List.getElem?_set_self hi] at q4
        cases q4
        exact hn j es q1 q3
      · rw [List.getElem?_set_ne e2] at q2 q4
        exact R.dis j l a es fs ne q1 q2 q3 q4
  · obtain ⟨ne, h⟩ := set_ob hob h
    rw [List.getElem?_set_ne ne] at q
    exact R.obo j a rows cl h q
  · obtain ⟨n1, h1⟩ := set_ob hob h1
    rw [List.getElem?_set_ne n1] at q1
    by_cases e2 : i = l
    · subst e2
      rw [List.getElem?_set_self hi] at q2
      cases q2
      exact ho j a rows cl h1 q1
    · rw [List.getElem?_set_ne e2] at h2 q2
      exact R.obd j l a b rows cl es h1 h2 q1 q2
  · obtain ⟨ne, h⟩ := set_iso (sv := .ow ds) rfl h rfl
    obtain ⟨A, v, q, ow, f, dj, np⟩ := hd j n d h
    refine ⟨A, v, by rw [List.getElem?_set_ne ne]; exact q, ow, f, fun l es b h2 q2 => ?_⟩
    by_cases e2 : i = l
    · subst e2
      rw [List.getElem?_set_self hi] at q2
      cases q2
      exact np
    · rw [List.getElem?_set_ne e2] at h2 q2
      exact dj l es b h2 q2
/-- the def's own list is changed -/
theorem StRel.write (R : StRel K G0 H0 S σ G H) {i : Nat} {p : Addr} {xs : List V} {ds es : List D} (hS : S[i]? = some (.ow ds)) (hσ : σ[i]? = some (some (.ref p))) (r : RepL K G xs es) : StRel K G0 H0 (S.set i (.ow es)) σ G (upd H p (.lst xs)) := by
  obtain ⟨a, ys, q, ha, ga, ra⟩ := R.ev.sl i _ hS
  rw [hσ] at q
  cases q
  have hiS : i < S.length := (List.getElem?_eq_some_iff.mp hS).1
  have h0 := R.own i p ds hS hσ
  have hob : ∀ rows cl, (SV.ow es) ≠ .ob rows cl := fun _ _ z => by cases z
  have obk : ∀ {a r c : Addr}, ObAt H a r c → ObAt (upd H p (.lst xs)) a r c := fun {a r c} h => by
    obtain ⟨C, dx, h⟩ := h
    refine ⟨C, dx, ?_⟩
    rw [upd_ne (fun e => by subst e; rw [ha] at h; cases h)]
    exact h
  have old : ∀ (j : Nat) (fs : List D), (S.set i (.ow es))[j]? = some (.ow fs) → ∃ fs', S[j]? = some (.ow fs') := fun j fs h => by
    by_cases e : i = j
    · subst e
      exact ⟨ds, hS⟩
    · rw [List.getElem?_set_ne e] at h
      exact ⟨fs, h⟩
  refine ⟨⟨fun b o z => ?_, by simp [R.ev.len], fun j sv h => ?_⟩, R.ext.mut h0 ga, fun j a fs h z => ?_, fun j l a fs gs ne q1 q2 q3 q4 => ?_, fun j a rows cl h q => ?_, fun j l a b rows cl fs h1 h2 q1 q2 => ?_, fun j l rows cl rows' cl' h1 h2 => R.obu j l _ _ _ _ (set_ob hob h1).2 (set_ob hob h2).2, fun j n d h => ?_, fun j l n d sv' h1 h2 h3 => R.dpu j l n d sv' (set_iso rfl h1 rfl).2 (set_iso rfl h2 h3).2 h3⟩
  · rw [upd_ne (ne_of_none z ga)]
    exact R.sub _ _ z
  · by_cases e : i = j
    · subst e
      rw [List.getElem?_set_self hiS] at h
      cases h
      exact ⟨p, xs, hσ, upd_same, ga, r⟩
    · rw [List.getElem?_set_ne e] at h
      have z := R.ev.sl j sv h
      cases sv with
      | no => trivial
      | sh d => exact z
      | ow fs =>
        obtain ⟨b, zs, z1, z2, z3, z4⟩ := z
        have nb : b ≠ p := fun eb => by
          subst eb
          exact R.dis i j b ds fs e hS h hσ z1
        exact ⟨b, zs, z1, by rw [upd_ne nb]; exact z2, z3, z4⟩
      | ob rows cl =>
        obtain ⟨C, b, dx, rr, cc, zs, ws, z0, z1, z2, z3, z4, z5⟩ := z
        obtain ⟨r', c', y1, y2, y3⟩ := R.obd j i b p rows cl ds h hS z1 hσ
        obtain ⟨e1, e2⟩ := y1.uniq ⟨C, dx, z2⟩
        subst e1 e2
        have nb : b ≠ p := fun eb => by subst eb; rw [ha] at z2; cases z2
        exact ⟨C, b, dx, _, _, zs, ws, z0, z1, by rw [upd_ne nb]; exact z2, by rw [upd_ne (Ne.symm y2)]; exact z3, by rw [upd_ne (Ne.symm y3)]; exact z4, z5⟩
      | dp n d =>
        obtain ⟨b, zs, fs, z0, z1, z2, z3⟩ := z
        obtain ⟨A, v, q, ow, _, dj⟩ := R.dpo j n d h
        rw [z1] at q
        cases q
        cases n with
        | zero =>
          subst z0
          by_cases eb : b = p
          · subst eb
            rw [ha] at z2
            cases z2
            cases ow.2 with
            | lst g _ => rw [ga] at g; cases g
          · exact ⟨b, zs, fs, rfl, z1, by rw [upd_ne eb]; exact z2, z3⟩
        | succ n =>
          obtain ⟨b', _, _, B, eA, eb, _⟩ := ow
          cases eb
          have nb : b ≠ p := fun e => dj i ds p hS hσ (by rw [eA, e]; exact List.mem_cons_self)
          exact ⟨b, zs, fs, z0, z1, by rw [upd_ne nb]; exact z2, z3⟩
  · obtain ⟨fs', h'⟩ := old j fs h
    by_cases e : i = j
    · subst e
      exact R.own i a ds hS z
    · exact R.own j a fs' h' z
  · obtain ⟨f1, q1⟩ := old j fs q1
    obtain ⟨f2, q2⟩ := old l gs q2
    exact R.dis j l a f1 f2 ne q1 q2 q3 q4
  · obtain ⟨r1, c1, y1, y2⟩ := R.obo j a rows cl (set_ob hob h).2 q
    exact ⟨r1, c1, obk y1, y2⟩
  · obtain ⟨f2, h2⟩ := old l fs h2
    obtain ⟨r1, c1, y1, y2⟩ := R.obd j l a b rows cl f2 (set_ob hob h1).2 h2 q1 q2
    exact ⟨r1, c1, obk y1, y2⟩
  · obtain ⟨A, v, q, ow, f, dj⟩ := R.dpo j n d (set_iso rfl h rfl).2
    exact ⟨A, v, q, ow.upd_ (dj i ds p hS hσ), f, fun l gs b h2 q2 => by
      obtain ⟨f2, h2⟩ := old l gs h2
      exact dj l f2 b h2 q2⟩
/-- the def's own list is given away: plain from then on -/
theorem StRel.frz (R : StRel K G0 H0 S σ G H) {i : Nat} {ds : List D} (hS : S[i]? = some (.ow ds)) : ∃ G', StRel K G0 H0 (S.set i (.sh (.lst ds))) σ G' H := by
  obtain ⟨p, xs, hσ, ha, ga, ra⟩ := R.ev.sl i _ hS
  have h0 := R.own i p ds hS hσ
  have hiS : i < S.length := (List.getElem?_eq_some_iff.mp hS).1
  have hi : i < σ.length := by rw [← R.ev.len]; exact hiS
  have hs : ∀ es, (SV.sh (.lst ds)) ≠ .ow es := fun _ z => by cases z
  have hob : ∀ rows cl, (SV.sh (.lst ds)) ≠ .ob rows cl := fun _ _ z => by cases z
  refine ⟨upd G p (.lst xs), ⟨⟨(R.ext.freeze h0 ha ga).sub, by simp [R.ev.len], fun j sv h => ?_⟩, R.ext.freeze h0 ha ga, fun j a fs h z => R.own j a fs (set_ow hs h).2 z, fun j l a fs gs ne q1 q2 q3 q4 => R.dis j l a fs gs ne (set_ow hs q1).2 (set_ow hs q2).2 q3 q4,
    fun j a rows cl h q => R.obo j a rows cl (set_ob hob h).2 q, fun j l a b rows cl fs h1 h2 q1 q2 => R.obd j l a b rows cl fs (set_ob hob h1).2 (set_ow hs h2).2 q1 q2, fun j l rows cl rows' cl' h1 h2 => R.obu j l _ _ _ _ (set_ob hob h1).2 (set_ob hob h2).2, fun j n d h => by
      obtain ⟨A, v, q, ow, f, dj⟩ := R.dpo j n d (set_iso rfl h rfl).2
      exact ⟨A, v, q, ow.updG (dj i ds p hS hσ) ga, f, fun l gs b h2 q2 => dj l gs b (set_ow hs h2).2 q2⟩, fun j l n d sv' h1 h2 h3 => R.dpu j l n d sv' (set_iso rfl h1 rfl).2 (set_iso rfl h2 h3).2 h3⟩⟩
  by_cases e : i = j
  · subst e
    rw [List.getElem?_set_self hiS] at h
    cases h
    exact ⟨.ref p, hσ, .lst upd_same (ra.mono (same_upd ga _))⟩
  · rw [List.getElem?_set_ne e] at h
    have z := R.ev.sl j sv h
    cases sv with
    | no => trivial
    | sh d =>
      obtain ⟨v, z1, z2⟩ := z
      exact ⟨v, z1, z2.mono (same_upd ga _)⟩
    | ow fs =>
      obtain ⟨b, zs, z1, z2, z3, z4⟩ := z
      have nb : b ≠ p := fun eb => by
        subst eb
        exact R.dis i j b ds fs e hS h hσ z1
      exact ⟨b, zs, z1, z2, by rw [upd_ne nb]; exact z3, z4.mono (same_upd ga _)⟩
    | ob rows cl =>
      obtain ⟨C, b, dx, rr, cc, zs, ws, z0, z1, z2, z3, z4, z5, z6, z7, z8, z9, z10⟩ := z
      obtain ⟨r', c', y1, y2, y3⟩ := R.obd j i b p rows cl ds h hS z1 hσ
      obtain ⟨e1, e2⟩ := y1.uniq ⟨C, dx, z2⟩
      subst e1 e2
      have nb : b ≠ p := fun eb => by subst eb; rw [ha] at z2; cases z2
      exact ⟨C, b, dx, _, _, zs, ws, z0, z1, z2, z3, z4, by rw [upd_ne nb]; exact z5, by rw [upd_ne (Ne.symm y2)]; exact z6, by rw [upd_ne (Ne.symm y3)]; exact z7, z8, z9.mono (same_upd ga _), z10.mono (same_upd ga _)⟩
    | dp n d => exact z
/-- so the def's own object -/
theorem StRel.frzOb (R : StRel K G0 H0 S σ G H) {i : Nat} {rows cl : List D} (hS : S[i]? = some (.ob rows cl)) : ∃ G', StRel K G0 H0 (S.set i (.sh (.ob rows cl))) σ G' H := by
  obtain ⟨C, p, dx, r, c, xs, ys, hC, hσ, ha, hr, hc, ga, gr, gc, rc, ra, rb⟩ := R.ev.sl i _ hS
  obtain ⟨r', c', y1, h0a, h0r, h0c⟩ := R.obo i p rows cl hS hσ
  obtain ⟨e1, e2⟩ := y1.uniq ⟨C, dx, ha⟩
  subst e1 e2
  have hiS : i < S.length := (List.getElem?_eq_some_iff.mp hS).1
  have nra : r' ≠ p := fun e => by subst e; rw [ha] at hr; cases hr
  have nca : c' ≠ p := fun e => by subst e; rw [ha] at hc; cases hc
  have E1 := R.ext.freeze h0a ha ga
  have g1 : upd G p (.ins C dx (spF r' c')) r' = none := by rw [upd_ne nra]; exact gr
  have E2 := E1.freeze h0r hr g1
  have g2 : upd (upd G p (.ins C dx (spF r' c'))) r' (.lst xs) c' = none := by rw [upd_ne (Ne.symm rc), upd_ne nca]; exact gc
  have E3 := E2.freeze h0c hc g2
  have s1 : Same G (upd (upd (upd G p (.ins C dx (spF r' c'))) r' (.lst xs)) c' (.lst ys)) := ((same_upd ga _).trans (same_upd g1 _)).trans (same_upd g2 _)
  have hs : ∀ es, (SV.sh (.ob rows cl)) ≠ .ow es := fun _ z => by cases z
  have hob : ∀ rows' cl', (SV.sh (.ob rows cl)) ≠ .ob rows' cl' := fun _ _ z => by cases z
  refine ⟨_, ⟨⟨E3.sub, by simp [R.ev.len], fun j sv h => ?_⟩, E3, fun j a fs h z => R.own j a fs (set_ow hs h).2 z, fun j l a fs gs ne q1 q2 q3 q4 => R.dis j l a fs gs ne (set_ow hs q1).2 (set_ow hs q2).2 q3 q4,
    fun j a rows cl h q => R.obo j a rows cl (set_ob hob h).2 q, fun j l a b rows cl fs h1 h2 q1 q2 => R.obd j l a b rows cl fs (set_ob hob h1).2 (set_ow hs h2).2 q1 q2, fun j l rows cl rows' cl' h1 h2 => R.obu j l _ _ _ _ (set_ob hob h1).2 (set_ob hob h2).2, fun j n d h => by
      obtain ⟨ne, h⟩ := set_iso (sv := .sh (.ob rows cl)) rfl h rfl
      exact absurd (R.dpu j i n d _ h hS rfl).symm ne, fun j l n d sv' h1 h2 h3 => R.dpu j l n d sv' (set_iso rfl h1 rfl).2 (set_iso rfl h2 h3).2 h3⟩⟩
  by_cases e : i = j
  · subst e
    rw [List.getElem?_set_self hiS] at h
    cases h
    refine ⟨.ref p, hσ, .ob (dx := dx) (r := r') (c := c') (xs := xs) (ys := ys) hC ?_ ?_ upd_same (ra.mono s1) (rb.mono s1)⟩
    · rw [upd_ne (Ne.symm nca), upd_ne (Ne.symm nra), upd_same]
    · rw [upd_ne rc, upd_same]
  · rw [List.getElem?_set_ne e] at h
    have z := R.ev.sl j sv h
    cases sv with
    | no => trivial
    | sh d =>
      obtain ⟨v, z1, z2⟩ := z
      exact ⟨v, z1, z2.mono s1⟩
    | ow fs =>
      obtain ⟨b, zs, z1, z2, z3, z4⟩ := z
      obtain ⟨r2, c2, w1, w2, w3⟩ := R.obd i j p b rows cl fs hS h hσ z1
      obtain ⟨e1, e2⟩ := w1.uniq y1
      subst e1 e2
      have nb : b ≠ p := fun eb => by subst eb; rw [ha] at z2; cases z2
      exact ⟨b, zs, z1, z2, by rw [upd_ne w3, upd_ne w2, upd_ne nb]; exact z3, z4.mono s1⟩
    | ob rows2 cl2 => exact absurd (R.obu i j _ _ _ _ hS h) e
    | dp n d => exact z
/-- a slot takes a new object -/
theorem StRel.setOb (R : StRel K G0 H0 S σ G H) {i : Nat} {C a dx r c : Addr} {xs ys : List V} {rows cl : List D} (hC : SpanC K C) (ha : H a = some (.ins C dx (spF r c))) (hr : H r = some (.lst xs)) (hc : H c = some (.lst ys)) (ga : G a = none) (gr : G r = none) (gc : G c = none) (rc : r ≠ c)
    (r1 : RepL K G xs rows) (r2 : RepL K G ys cl) (h0a : H0 a = none) (h0r : H0 r = none) (h0c : H0 c = none) (hi : i < σ.length) (hno : S.any isObS = false)
    (hn : ∀ (j : Nat) (es : List D) (b : Addr), S[j]? = some (.ow es) → σ[j]? = some (some (.ref b)) → b ≠ r ∧ b ≠ c) : StRel K G0 H0 (S.set i (.ob rows cl)) (σ.set i (some (.ref a))) G H := by
  have hS : i < S.length := by rw [R.ev.len]; exact hi
  have none_ : ∀ (j : Nat) (rows cl : List D), S[j]? ≠ some (.ob rows cl) := fun j rows cl h => by
    have := List.any_eq_false.mp hno _ (List.mem_of_getElem? h)
    exact this rfl
  have hs : ∀ es, (SV.ob rows cl) ≠ .ow es := fun _ z => by cases z
  have here : ∀ (j : Nat) (rows' cl' : List D), (S.set i (.ob rows cl))[j]? = some (.ob rows' cl') → i = j := fun j rows' cl' h => by
    by_cases e : i = j
    · exact e
    · rw [List.getElem?_set_ne e] at h
      exact absurd h (none_ _ _ _)
  have noD : ∀ (j n : Nat) (d : D), ¬ (S.set i (.ob rows cl))[j]? = some (.dp n d) := fun j n d h => by
    by_cases e : i = j
    · subst e
      rw [List.getElem?_set_self hS] at h
      cases h
    · rw [List.getElem?_set_ne e] at h
      exact absurd rfl (List.any_eq_false.mp hno _ (List.mem_of_getElem? h))
  refine ⟨⟨R.sub, by simp [R.ev.len], fun j sv h => ?_⟩, R.ext, fun j b es h q => ?_, fun j l b es fs ne q1 q2 q3 q4 => ?_, fun j b rows' cl' h q => ?_, fun j l b b' rows' cl' es h1 h2 q1 q2 => ?_, fun j l rows cl rows' cl' h1 h2 => (here j _ _ h1).symm.trans (here l _ _ h2), fun j n d h => (noD j n d h).elim, fun j l n d sv' h1 _ _ => (noD j n d h1).elim⟩
  · by_cases e : i = j
    · subst e
      rw [List.getElem?_set_self hS] at h
      cases h
      exact ⟨C, a, dx, r, c, xs, ys, hC, by rw [List.getElem?_set_self hi], ha, hr, hc, ga, gr, gc, rc, r1, r2⟩
    · rw [List.getElem?_set_ne e] at h ⊢
      exact R.ev.sl j sv h
  · obtain ⟨ne, h⟩ := set_ow hs h
    rw [List.getElem?_set_ne ne] at q
    exact R.own j b es h q
  · obtain ⟨n1, q1⟩ := set_ow hs q1
    obtain ⟨n2, q2⟩ := set_ow hs q2
    rw [List.getElem?_set_ne n1] at q3
    rw [List.getElem?_set_ne n2] at q4
    exact R.dis j l b es fs ne q1 q2 q3 q4
  · obtain rfl := here j _ _ h
    rw [List.getElem?_set_self hi] at q
    cases q
    exact ⟨r, c, ⟨C, dx, ha⟩, h0a, h0r, h0c⟩
  · obtain rfl := here j _ _ h1
    obtain ⟨n2, h2⟩ := set_ow hs h2
    rw [List.getElem?_set_self hi] at q1
    cases q1
    rw [List.getElem?_set_ne n2] at q2
    exact ⟨r, c, ⟨C, dx, ha⟩, hn l es b' h2 q2⟩
/-- the def's own object is changed -/
theorem StRel.putOb (R : StRel K G0 H0 S σ G H) {i : Nat} {C a dx r c : Addr} {xs ys : List V} {rows cl rows' cl' : List D} (hS : S[i]? = some (.ob rows cl)) (hσ : σ[i]? = some (some (.ref a))) (hC : SpanC K C) (ha : H a = some (.ins C dx (spF r c)))
    (ga : G a = none) (gr : G r = none) (gc : G c = none) (rc : r ≠ c) (hrl : ∃ zs, H r = some (.lst zs)) (hcl : ∃ zs, H c = some (.lst zs)) (E : ExtO r c G H G1 H1) (hr : H1 r = some (.lst xs)) (hc : H1 c = some (.lst ys)) (r1 : RepL K G1 xs rows') (r2 : RepL K G1 ys cl') :
    StRel K G0 H0 (S.set i (.ob rows' cl')) σ G1 H1 := by
  have hiS : i < S.length := (List.getElem?_eq_some_iff.mp hS).1
  obtain ⟨r', c', y1, h0a, h0r, h0c⟩ := R.obo i a rows cl hS hσ
  obtain ⟨e1, e2⟩ := y1.uniq ⟨C, dx, ha⟩
  subst e1 e2
  obtain ⟨zr, hrl⟩ := hrl
  obtain ⟨zc, hcl⟩ := hcl
  have nar : a ≠ r' := fun e => by subst e; rw [ha] at hrl; cases hrl
  have nac : a ≠ c' := fun e => by subst e; rw [ha] at hcl; cases hcl
  have ha1 : H1 a = some (.ins C dx (spF r' c')) := E.h _ _ ha nar nac
  have gn : ∀ {b : Addr} {o : HO}, H b = some o → G b = none → G1 b = none := fun {b o} h g => by
    cases q : G1 b with
    | none => rfl
    | some u =>
      have z := E.new b u q g
      rw [h] at z
      cases z
  have E' : Ext G0 H0 G1 H1 := ⟨R.ext.g.trans E.g, fun b o q => E.h b o (R.ext.h b o q) (fun e => by subst e; rw [h0r] at q; cases q) (fun e => by subst e; rw [h0c] at q; cases q), E.sub, fun b o q n => by
    cases z : G b with
    | some u => exact R.ext.new b u z n
    | none => exact R.ext.h.free (E.new b o q z)⟩
  have hs : ∀ es, (SV.ob rows' cl') ≠ .ow es := fun _ z => by cases z
  have here : ∀ (j : Nat) (rows2 cl2 : List D), (S.set i (.ob rows' cl'))[j]? = some (.ob rows2 cl2) → i = j := fun j rows2 cl2 h => by
    by_cases e : i = j
    · exact e
    · rw [List.getElem?_set_ne e] at h
      exact R.obu i j _ _ _ _ hS h
  have noD : ∀ (j n : Nat) (d : D), ¬ (S.set i (.ob rows' cl'))[j]? = some (.dp n d) := fun j n d h => by
    by_cases e : i = j
    · subst e
      rw [List.getElem?_set_self hiS] at h
      cases h
    · rw [List.getElem?_set_ne e] at h
      exact absurd (R.dpu j i n d _ h hS rfl).symm e
  refine ⟨⟨E.sub, by simp [R.ev.len], fun j sv h => ?_⟩, E', fun j b es h q => R.own j b es (set_ow hs h).2 q, fun j l b es fs ne q1 q2 q3 q4 => R.dis j l b es fs ne (set_ow hs q1).2 (set_ow hs q2).2 q3 q4, fun j b rows2 cl2 h q => ?_, fun j l b b' rows2 cl2 es h1 h2 q1 q2 => ?_, fun j l _ _ _ _ h1 h2 => (here j _ _ h1).symm.trans (here l _ _ h2), fun j n d h => (noD j n d h).elim, fun j l n d sv' h1 _ _ => (noD j n d h1).elim⟩
  · by_cases e : i = j
    · subst e
      rw [List.getElem?_set_self hiS] at h
      cases h
      exact ⟨C, a, dx, r', c', xs, ys, hC, hσ, ha1, hr, hc, gn ha ga, gn hrl gr, gn hcl gc, rc, r1, r2⟩
    · rw [List.getElem?_set_ne e] at h
      have z := R.ev.sl j sv h
      cases sv with
      | no => trivial
      | sh d =>
        obtain ⟨v, z1, z2⟩ := z
        exact ⟨v, z1, z2.mono E.g⟩
      | ow fs =>
        obtain ⟨b, zs, z1, z2, z3, z4⟩ := z
        obtain ⟨r2, c2, w1, w2, w3⟩ := R.obd i j a b rows cl fs hS h hσ z1
        obtain ⟨e1, e2⟩ := w1.uniq y1
        subst e1 e2
        exact ⟨b, zs, z1, E.h _ _ z2 w2 w3, gn z2 z3, z4.mono E.g⟩
      | ob rows2 cl2 => exact absurd (R.obu i j _ _ _ _ hS h) e
      | dp n d => exact absurd (R.dpu j i n d _ h hS rfl).symm e
  · obtain rfl := here j _ _ h
    rw [hσ] at q
    cases q
    exact ⟨r', c', ⟨C, dx, ha1⟩, h0a, h0r, h0c⟩
  · obtain rfl := here j _ _ h1
    rw [hσ] at q1
    cases q1
    obtain ⟨r2, c2, w1, w2⟩ := R.obd i l a b' rows cl es hS (set_ow hs h2).2 hσ q2
    obtain ⟨e1, e2⟩ := w1.uniq y1
    subst e1 e2
    exact ⟨_, _, ⟨C, dx, ha1⟩, w2⟩
end

theorem new_dp {K : PySem.W.Frag} {G0 H0 G H G1 H1 : Hp} {S : List SV} {σ : L2.St} {p : Addr} (R : StRel K G0 H0 S σ G H) (E1 : Ext G H G1 H1) (h0 : H p = none) :
    ∀ (j n : Nat) (d : D), S[j]? = some (.dp n d) → ∃ A v, σ[j]? = some (some v) ∧ Own K G1 H1 n A v d ∧ (∀ b ∈ A, H0 b = none) ∧ (∀ (l : Nat) (es : List D) (b : Addr), S[l]? = some (.ow es) → σ[l]? = some (some (.ref b)) → ¬ b ∈ A) ∧ ¬ p ∈ A := fun j n d h => by
  obtain ⟨A, v, q, ow, f, dj⟩ := R.dpo j n d h
  refine ⟨A, v, q, ow.ext E1, f, dj, fun z => ?_⟩
  obtain ⟨⟨o, e⟩, _⟩ := ow.dom p z
  rw [h0] at e
  cases e
/-! ### what is wanted of a statement -/
section
variable (K : PySem.W.Frag) (cl : Str → Value) (W : WX) (G0 H0 : Hp)
def Ks (r : SRes) (D : Ends) : Prop := match r with
  | .nx S => ∀ σ G H, StRel K G0 H0 S σ G H → D.nx σ H
  | .ret d fr => ∀ v G H, Ext G0 H0 G H → VR K H0 G H v d (if fr then .fr else .sh) → D.rt v H
  | .exc c S => ∀ σ G H, StRel K G0 H0 S σ G H → W (cl c) none σ H
  | .stuck => False
def rdS (n : Nat) (m : MS) : TS := fun D σ H => ∃ S G, StRel K G0 H0 S σ G H ∧ Ks K cl W G0 H0 (exS n m S) D
def rdSs (n : Nat) (ms : List MS) : TS := fun D σ H => ∃ S G, StRel K G0 H0 S σ G H ∧ Ks K cl W G0 H0 (exSs n ms S) D
end
section
variable {K : PySem.W.Frag} {cl : Str → Value} {W : WX} {G0 H0 G H : Hp} {S : List SV} {σ : L2.St} {E : Ends}
theorem st_rd {a : ME} {f : D × Kd → SRes} {Q' : VK} (R : StRel K G0 H0 S σ G H) (h : Ks K cl W G0 H0 (bindS S (evE a S) f) E)
    (hk : ∀ d k v G1 H1, evE a S = .ok (d, k) → Ext G H G1 H1 → VR K H G1 H1 v d k → StRel K G0 H0 S σ G1 H1 → Ks K cl W G0 H0 (f (d, k)) E → Q' v H1) : rd K cl W a σ H Q' := by
  refine ⟨S, G, R.ev, ?_⟩
  cases e : evE a S with
  | ok r =>
    rw [e] at h
    exact fun v G1 H1 E1 x => hk r.1 r.2 v G1 H1 e E1 x (R.grow E1) h
  | exc c =>
    rw [e] at h
    exact fun G1 H1 E1 => h σ G1 H1 (R.grow E1)
  | stuck => rw [e] at h; exact h
theorem st_rdT {a : ME} {f : D × Kd → SRes} {Q' : Bool → Hp → Prop} (R : StRel K G0 H0 S σ G H) (h : Ks K cl W G0 H0 (bindS S (evE a S) f) E) (hf : ∀ d k, (∀ b, d ≠ .bl b) → f (d, k) = .stuck)
    (hk : ∀ b k G1 H1, StRel K G0 H0 S σ G1 H1 → Ks K cl W G0 H0 (f (.bl b, k)) E → Q' b H1) : rdT K cl W a σ H Q' := by
  refine ⟨S, G, R.ev, ?_⟩
  cases e : evE a S with
  | ok r =>
    rw [e] at h
    obtain ⟨d, k⟩ := r
    have no : (∀ b, d ≠ .bl b) → False := fun z => by
      have h' : Ks K cl W G0 H0 (f (d, k)) E := h
      rw [hf d k z] at h'
      exact h'
    cases d with
    | bl b => exact fun G1 H1 E1 => hk b k G1 H1 (R.grow E1) h
    | non => exact (no fun b q => by cases q).elim
    | int => exact (no fun b q => by cases q).elim
    | str => exact (no fun b q => by cases q).elim
    | tup => exact (no fun b q => by cases q).elim
    | lst => exact (no fun b q => by cases q).elim
    | scr => exact (no fun b q => by cases q).elim
    | ob => exact (no fun b q => by cases q).elim
  | exc c =>
    rw [e] at h
    exact fun G1 H1 E1 => h σ G1 H1 (R.grow E1)
  | stuck => rw [e] at h; exact h
theorem st_rdI {k : IK} {es : List ME} {f : List D → SRes} {Q' : It → Hp → Prop} (R : StRel K G0 H0 S σ G H) (h : Ks K cl W G0 H0 (bindS S (evI k es S) f) E)
    (hk : ∀ xs J vs G1 H1, StRel K G0 H0 S σ G1 H1 → WalkOk J G1 vs → RepL K G1 vs xs → Ks K cl W G0 H0 (f xs) E → Q' J H1) : rdI K cl W k es σ H Q' := by
  refine ⟨S, G, R.ev, ?_⟩
  cases e : evI k es S with
  | ok r =>
    rw [e] at h
    exact fun J vs G1 H1 E1 w rp => hk r J vs G1 H1 (R.grow E1) w rp h
  | exc c =>
    rw [e] at h
    exact fun G1 H1 E1 => h σ G1 H1 (R.grow E1)
  | stuck => rw [e] at h; exact h
end

/-- what is known around a def's statements -/
structure SOk (X : Cx) (N : List Str) (sc : Scope) (W : WX) (k : Nat) : Prop extends XOk X N sc W k where
  fnT : ∀ x, X.fn x = true
  own : PassesOwn (model X.prog X.w) X.A X.env X.xe
  kindF : X.env.scope.kind = .function
  stk : X.stack = X.env :: X.outer
  frm : X.env.frame = some X.env.locals
/-- a class by its name, in isinstance -/
def NameC (mg : Str → Option Value) (c : Str) (v : V) (u : Value) : Prop := (∃ C : Addr, mg c = some (.ref C) ∧ v = .ref C ∧ u = .ref C) ∨ (c = "ValueError" ∧ mg c = none ∧ v = .ty "ValueError" ∧ u = .type "ValueError")
def KitAll (K : PySem.W.Frag) (mg : Str → Option Value) (A : Addr) : List Str → List Bool → Prop
  | [], [] => True
  | c :: cs, b :: bs => (∃ v u, NameC mg c v u ∧ PySem.W.kitOne K (.ref A) u = some b) ∧ KitAll K mg A cs bs
  | _, _ => False
/-- what a clause of a try needs of an exception's class -/
def GoodTri (K : PySem.W.Frag) (mg : Str → Option Value) (cl : Str → Value) (cK : Value) (cs : List Str) (p : Str × List Bool) : Prop := ∃ A : Addr, cl p.1 = .ref A ∧ PySem.W.exmOne K (.ref A) cK = some true ∧ ExcC K A ∧ KitAll K mg A cs p.2
def GoodRais (K : PySem.W.Frag) (mg : Str → Option Value) (cl : Str → Value) (c : Str) : Prop := ∃ C : Addr, cl c = .ref C ∧ mg c = some (.ref C) ∧ PySem.W.excIn K C [.type "ValueError", .type "Exception", .type "BaseException", .type "object"] "ValueError.__new__" = true ∧ PySem.W.keepIn K (.ref C) = true ∧
  PySem.W.subIn K (.ref C) (.type "BaseException") = some true ∧ PySem.W.typeIn K (.ref C) = some (.type "type")
def GoodEx (K : PySem.W.Frag) (mg : Str → Option Value) (cl : Str → Value) : ExI → Prop
  | .rais c => GoodRais K mg cl c
  | .tri Kn cs tab => ∃ cK, mg Kn = some cK ∧ AllC (GoodTri K mg cl cK cs) tab
theorem ps_imp {X : Cx} {e : Stmt} {t t' : TS} (h : PS X e t) (i : ∀ D σ H, σ.length = X.N.length → t' D σ H → t D σ H) : PS X e t' := ⟨fun pins s σ H D I q => h.run pins s σ H D I (i D σ H I.len q)⟩
theorem pss_imp {X : Cx} {e : List Stmt} {t t' : TS} (h : PSs X e t) (i : ∀ D σ H, t' D σ H → t D σ H) : PSs X e t' := ⟨fun pins s σ H D I q => h.run pins s σ H D I (i D σ H q)⟩
def SndS (n : Nat) (m : MS) : Prop := ∀ (X : Cx) (N : List Str) (sc : Scope) (cl : Str → Value) (W : WX) (k : Nat) (G0 H0 : Hp) (st : Stmt), SOk X N sc W k → chkS N m sc st = true →
  AllC (GoodFn X.prog X.w X.K X.mg X.base cl k) (callsS m) → AllC (GoodGl X.K X.mg) (glosS m) → AllC (GoodEx X.K X.mg cl) (excsS m) → PS X st (rdS X.K cl W G0 H0 n m)
def SndSs (n : Nat) (ms : List MS) : Prop := ∀ (X : Cx) (N : List Str) (sc : Scope) (cl : Str → Value) (W : WX) (k : Nat) (G0 H0 : Hp) (sts : List Stmt), SOk X N sc W k → chkSs N ms sc sts = true →
  AllC (GoodFn X.prog X.w X.K X.mg X.base cl k) (callsSs ms) → AllC (GoodGl X.K X.mg) (glosSs ms) → AllC (GoodEx X.K X.mg cl) (excsSs ms) → PSs X sts (rdSs X.K cl W G0 H0 n ms)
section
variable {X : Cx} {N : List Str} {sc : Scope} {cl : Str → Value} {W : WX} {k : Nat}
theorem locE_ok (x : XOk X N sc W k) {i : Nat} {y : Str} (h : locE N sc i y = true) : X.N[i]? = some y ∧ Loc X.env.scope y ∧ i < X.N.length := by
  unfold locE okName at h
  simp only [Bool.and_eq_true, Bool.or_eq_true, decide_eq_true_eq, Bool.not_eq_true'] at h
  have e : X.N[i]? = some y := by rw [x.hN]; exact h.1.1
  refine ⟨e, ?_, (List.getElem?_eq_some_iff.mp e).1⟩
  rw [x.sc]
  exact h.1.2
/-- a comprehension of the text, whatever its form -/
theorem lc_of {m : ME} {b : Expr} {gens : List Comprehension} {scope : Scope} {pos : Pos} (x : XOk X N sc W k) (hc : chkE N m sc (.ListComp b gens scope pos) = true) (hf : AllC (GoodFn X.prog X.w X.K X.mg X.base cl k) (callsE m)) (hg : AllC (GoodGl X.K X.mg) (glosE m)) :
    ∃ tg it ifs own wi g tt te, gens = [⟨tg, it, ifs, 0⟩] ∧ IsLc X (rd X.K cl W m) b tg it ifs scope own wi g tt te := by
  cases m <;> try exact absurd hc Bool.false_ne_true
  · rename_i elt i kk es
    match gens, hc with
    | [⟨.Name y yp, it, [], 0⟩], hc =>
      have hc : (ownE N sc scope i y && chkE N elt (relS scope sc) b && chkI N sc kk es it) = true := hc
      rw [Bool.and_eq_true, Bool.and_eq_true] at hc
      exact ⟨_, _, _, _, _, _, _, _, rfl, lc_comp (cl := cl) (W := W) (yp := yp) i kk (snd_all elt) (snd_alls es) x hc.1.1 hc.1.2 hc.2 hf hg⟩
  · rename_i elt i kk es c
    match gens, hc with
    | [⟨.Name y yp, it, [t], 0⟩], hc =>
      have hc : (ownE N sc scope i y && chkE N elt (relS scope sc) b && chkE N c (relS scope sc) t && chkI N sc kk es it) = true := hc
      rw [Bool.and_eq_true, Bool.and_eq_true, Bool.and_eq_true] at hc
      exact ⟨_, _, _, _, _, _, _, _, rfl, lc_compIf (cl := cl) (W := W) (yp := yp) i kk (snd_all elt) (snd_all c) (snd_alls es) x hc.1.1.1 hc.1.1.2 hc.1.2 hc.2 hf hg⟩
/-- name = e, any e of the small syntax -/
theorem ps_any {m : ME} {e : Expr} {i : Nat} {y : Str} {yp pos : Pos} (x : SOk X N sc W k) (hl : locE N sc i y = true) (hc : chkE N m sc e = true) (hf : AllC (GoodFn X.prog X.w X.K X.mg X.base cl k) (callsE m)) (hg : AllC (GoodGl X.K X.mg) (glosE m)) :
    PS X (.Assign [.Name y yp] e pos) (tAsg (rd X.K cl W m) (gName i)) := by
  obtain ⟨h1, h2, h3⟩ := locE_ok x.toXOk hl
  have pe := (snd_all m X N sc cl W k e x.toXOk hc hf hg).1
  by_cases hlc : ∃ b gens scope p, e = .ListComp b gens scope p
  · obtain ⟨b, gens, scope, p, rfl⟩ := hlc
    obtain ⟨tg, it, ifs, own, wi, g, tt, te, rfl, L⟩ := lc_of (cl := cl) x.toXOk hc hf hg
    by_cases hy : X.env.scope.names.lookup y = some .local ∧ (yp.line == p.line) = true ∧ (scope.names.any fun (n, k) => n == y && (k == .local || k == .cell)) = false
    · exact ps_imp (ps_setLc x.calm x.nd h1 hy.1 (sw_true x.kindF hy.1 hy.2.1 hy.2.2) L.pi L.ok L.hg L.ht L.he L.hs) fun D σ H hn h => L.rd σ H _ hn h
    · refine ps_set x.nd h1 h2 pe ?_ (.inl (x.fnT _))
      unfold swapsWith
      have hk : (X.env.blockKind == .function && X.env.kindOf y == some .local && yp.line == (Expr.ListComp b [⟨tg, it, ifs, 0⟩] scope p).pos.line && !(scope.names.any fun (n, k) => n == y && (k == .local || k == .cell))) = false := by
        rw [Bool.eq_false_iff]
        intro z
        simp only [Bool.and_eq_true, beq_iff_eq, Bool.not_eq_true'] at z
        exact hy ⟨z.1.1.2, by simpa [Expr.pos] using z.1.2, z.2⟩
      simp only [hk]
  · refine ps_set x.nd h1 h2 pe ?_ (.inl (x.fnT _))
    cases e <;> first
      | rfl
      | exact absurd ⟨_, _, _, _, rfl⟩ hlc
      | (cases m <;> exact absurd hc Bool.false_ne_true)
end
theorem s_set (n i : Nat) (m : ME) : SndS n (.set i m) := by
  intro X N sc cl W k G0 H0 st x hc hf hg _
  cases st <;> try exact absurd hc Bool.false_ne_true
  rename_i ts e pos
  match ts, hc with
  | [.Name y yp], hc =>
    have hc : (locE N sc i y && chkE N m sc e) = true := hc
    rw [Bool.and_eq_true] at hc
    have hi := (locE_ok x.toXOk hc.1).2.2
    refine ps_imp (ps_any x hc.1 hc.2 hf hg) fun D σ H hn ⟨S, G, R, h⟩ => ?_
    rw [exS] at h
    refine st_rd R h fun d kd v G1 H1 _ E1 r1 R1 h1 => ?_
    split at h1
    · exact False.elim h1
    · rename_i hk
      obtain ⟨G2, E2, s2, rp⟩ := r1.fix E1 hk
      exact h1 _ G2 H1 ((R.grow E2).setSh rp (by rw [hn]; exact hi))
theorem s_own (n i : Nat) (m : ME) : SndS n (.own i m) := by
  intro X N sc cl W k G0 H0 st x hc hf hg _
  cases st <;> try exact absurd hc Bool.false_ne_true
  rename_i ts e pos
  match ts, hc with
  | [.Name y yp], hc =>
    have hc : (locE N sc i y && chkE N m sc e) = true := hc
    rw [Bool.and_eq_true] at hc
    have hi := (locE_ok x.toXOk hc.1).2.2
    refine ps_imp (ps_any x hc.1 hc.2 hf hg) fun D σ H hn ⟨S, G, R, h⟩ => ?_
    rw [exS] at h
    refine st_rd R h fun d kd v G1 H1 _ E1 r1 R1 h1 => ?_
    cases kd with
    | sh =>
      cases d <;> try exact False.elim h1
      exact h1 _ G1 H1 (R1.setSh r1 (by rw [hn]; exact hi))
    | bo => cases d <;> exact False.elim h1
    | fr =>
      rcases r1 with ⟨p, xs, ds, rfl, e2, h0, hp, gp, rp⟩ | r1
      rotate_left
      · obtain ⟨_, e2⟩ := r1.isTup
        have e2 : d = .tup _ := e2
        subst e2
        exact False.elim h1
      have e2 : d = .lst ds := e2
      subst e2
      refine h1 _ G1 H1 (R1.setOw hp gp rp (R.ext.h.free h0) (by rw [hn]; exact hi) (fun j es q1 q2 => ?_) (fun j a rows cl q1 q2 => ?_) (new_dp R E1 h0))
      · obtain ⟨a, ys, q3, q4, _⟩ := R.ev.sl j _ q1
        rw [q2] at q3
        cases q3
        rw [h0] at q4
        cases q4
      · obtain ⟨C, a', dx, r, c, xs', ys', z0, z1, z2, z3, z4, _⟩ := R.ev.sl j _ q1
        rw [q2] at z1
        cases z1
        exact ⟨r, c, ⟨C, dx, E1.h _ _ z2⟩, ⟨(fun e => by subst e; rw [h0] at z3; cases z3), (fun e => by subst e; rw [h0] at z4; cases z4)⟩⟩
def gAll : List Nat → TGs
  | [] => gNil
  | i :: is => gCons (gName i) (gAll is)
theorem names_pgs {X : Cx} {N : List Str} {sc : Scope} {W : WX} {k : Nat} (x : XOk X N sc W k) (fnT : ∀ y, X.fn y = true) : ∀ {is : List Nat} {ts : List Expr}, namesU N sc is ts = true →
    PGs X ts (gAll is) ∧ (assignEach ts X.env).length = is.length ∧ (assignEach ts X.env).findIdx? (·.1) = none ∧ ∀ i ∈ is, i < X.N.length
  | [], [], _ => ⟨pgs_nil, rfl, rfl, fun _ z => by cases z⟩
  | i :: is, .Name y yp :: ts, hn => by
    have hn : (locE N sc i y && namesU N sc is ts) = true := hn
    rw [Bool.and_eq_true] at hn
    obtain ⟨h1, h2, h3⟩ := locE_ok x hn.1
    obtain ⟨p, q, r, l⟩ := names_pgs x fnT hn.2
    refine ⟨pgs_cons (pg_name x.nd h1 h2 (.inl (fnT _))) p rfl, ?_, ?_, fun j hj => ?_⟩
    · show (assignEach ts X.env).length + 1 = is.length + 1
      rw [q]
    · show ((false, assign (.Name y yp) X.env) :: assignEach ts X.env).findIdx? (·.1) = none
      rw [List.findIdx?_cons, r]
      rfl
    · rcases List.mem_cons.mp hj with rfl | hj
      · exact h3
      · exact l j hj
theorem gAll_run {K : PySem.W.Frag} {G0 H0 G H : Hp} {Q : L2.St → Hp → Prop} : ∀ {is : List Nat} {S S' : List SV} {σ : L2.St} {vs : List V} {ds : List D}, StRel K G0 H0 S σ G H → RepL K G vs ds → setAll S is ds = some S' → (∀ i ∈ is, i < σ.length) →
    (∀ σ', StRel K G0 H0 S' σ' G H → Q σ' H) → gAll is vs σ H Q
  | [], S, S', σ, vs, ds, R, rp, hs, _, q => by
    cases ds with
    | cons => cases hs
    | nil =>
      cases rp
      have hs : some S = some S' := hs
      cases hs
      exact ⟨rfl, q σ R⟩
  | i :: is, S, S', σ, vs, ds, R, rp, hs, hl, q => by
    cases ds with
    | nil => cases hs
    | cons d ds =>
      cases rp with
      | cons r rp =>
        have hs : setAll (S.set i (.sh d)) is ds = some S' := hs
        refine ⟨_, _, rfl, gAll_run (R.setSh r (hl i List.mem_cons_self)) rp hs (fun j hj => ?_) q⟩
        rw [List.length_set]
        exact hl j (List.mem_cons_of_mem _ hj)
/-- what is not among the plain data since H, is a new list -/
theorem new_slots {K : PySem.W.Frag} {G0 H0 G H G1 H1 : Hp} {S : List SV} {σ : L2.St} {p : Addr} (R : StRel K G0 H0 S σ G H) (E1 : Ext G H G1 H1) (h0 : H p = none) :
    (∀ (j : Nat) (es : List D), S[j]? = some (.ow es) → σ[j]? = some (some (.ref p)) → False) ∧ ∀ (j : Nat) (a : Addr) (rows cl : List D), S[j]? = some (.ob rows cl) → σ[j]? = some (some (.ref a)) → ∃ r c, ObAt H1 a r c ∧ p ≠ r ∧ p ≠ c := by
  refine ⟨fun j es q1 q2 => ?_, fun j a rows cl q1 q2 => ?_⟩
  · obtain ⟨a, ys, q3, q4, _⟩ := R.ev.sl j _ q1
    rw [q2] at q3
    cases q3
    rw [h0] at q4
    cases q4
  · obtain ⟨C, a', dx, r, c, xs', ys', z0, z1, z2, z3, z4, _⟩ := R.ev.sl j _ q1
    rw [q2] at z1
    cases z1
    exact ⟨r, c, ⟨C, dx, E1.h _ _ z2⟩, ⟨(fun e => by subst e; rw [h0] at z3; cases z3), (fun e => by subst e; rw [h0] at z4; cases z4)⟩⟩
theorem setAll_len : ∀ {is : List Nat} {S S' : List SV} {ds : List D}, setAll S is ds = some S' → ds.length = is.length
  | [], _, _, ds, h => by
    cases ds with
    | nil => rfl
    | cons => cases h
  | i :: is, S, S', ds, h => by
    cases ds with
    | nil => cases h
    | cons d ds =>
      have h : setAll (S.set i (.sh d)) is ds = some S' := h
      rw [List.length_cons, List.length_cons, setAll_len h]
theorem gTup_run {K : PySem.W.Frag} {G0 H0 G H : Hp} {Q : L2.St → Hp → Prop} {is : List Nat} {S S' : List SV} {σ : L2.St} {v : V} {d : D} (R : StRel K G0 H0 S σ G H) (rp : Rep K G v d) (hs : tgU is S d = some S') (hl : ∀ i ∈ is, i < σ.length)
    (q : ∀ σ', StRel K G0 H0 S' σ' G H → Q σ' H) : gTup K is.length (gAll is) v σ H Q := by
  cases d with
  | tup ds =>
    have hs : setAll S is ds = some S' := hs
    cases rp with
    | tup t z => exact ⟨_, _, rfl, seqT R.sub t, by rw [z.len]; exact setAll_len hs, gAll_run R z hs hl q⟩
  | _ => cases hs
theorem s_unp (n : Nat) (is : List Nat) (m : ME) : SndS n (.unp is m) := by
  intro X N sc cl W k G0 H0 st x hc hf hg _
  cases st <;> try exact absurd hc Bool.false_ne_true
  rename_i ts e pos
  match ts, hc with
  | [.Tuple ts kt tp], hc =>
    have hc : (namesU N sc is ts && notTup e && chkE N m sc e) = true := hc
    rw [Bool.and_eq_true, Bool.and_eq_true] at hc
    obtain ⟨⟨hc1, hc2⟩, hc3⟩ := hc
    obtain ⟨p1, p2, p3, p4⟩ := names_pgs x.toXOk x.fnT hc1
    have pe := (snd_all m X N sc cl W k e x.toXOk hc3 hf hg).1
    have hs : swapsWithSole [.Tuple ts kt tp] e pos.line X.env = pure false := by
      cases e <;> first
        | rfl
        | (cases m <;> exact absurd hc3 Bool.false_ne_true)
    have hw : swappedStores [.Tuple ts kt tp] e X.env = pure none := by
      cases e <;> first
        | rfl
        | exact absurd hc2 Bool.false_ne_true
    refine ps_imp (ps_asg pe (pg_tup x.calm p1 p2 p3) hs hw rfl) fun D σ H hn ⟨S, G, R, h⟩ => ?_
    rw [exS] at h
    refine st_rd R h fun d kd v G1 H1 _ E1 r1 R1 h1 => ?_
    split at h1
    · rename_i S' hS'
      have hd : ∀ ds, d ≠ .lst ds := fun ds e => by
        subst e
        cases hS'
      exact gTup_run R1 (r1.rep hd) hS' (fun i hi => by rw [hn]; exact p4 i hi) fun σ' R' => h1 σ' G1 H1 R'
    · exact False.elim h1
theorem s_unpF (n i j : Nat) (m : ME) : SndS n (.unpF i j m) := by
  intro X N sc cl W k G0 H0 st x hc hf hg _
  cases st <;> try exact absurd hc Bool.false_ne_true
  rename_i ts e pos
  match ts, hc with
  | [.Tuple ts kt tp], hc =>
    have hc : (namesU N sc [i, j] ts && notTup e && chkE N m sc e) = true := hc
    rw [Bool.and_eq_true, Bool.and_eq_true] at hc
    obtain ⟨⟨hc1, hc2⟩, hc3⟩ := hc
    obtain ⟨p1, p2, p3, p4⟩ := names_pgs x.toXOk x.fnT hc1
    have pe := (snd_all m X N sc cl W k e x.toXOk hc3 hf hg).1
    have hs : swapsWithSole [.Tuple ts kt tp] e pos.line X.env = pure false := by
      cases e <;> first
        | rfl
        | (cases m <;> exact absurd hc3 Bool.false_ne_true)
    have hw : swappedStores [.Tuple ts kt tp] e X.env = pure none := by
      cases e <;> first
        | rfl
        | exact absurd hc2 Bool.false_ne_true
    refine ps_imp (ps_asg pe (pg_tup x.calm p1 p2 p3) hs hw rfl) fun D σ H hn ⟨S, G, R, h⟩ => ?_
    rw [exS] at h
    split at h
    · exact False.elim h
    rename_i nij
    refine st_rd R h fun d kd v G1 H1 _ E1 r1 R1 h1 => ?_
    split at h1
    · rename_i y ds hy
      split at h1
      · exact False.elim h1
      rename_i hl
      cases hy
      have r1 : Fr2 X.K H G1 v (.tup [y, .lst ds]) := by
        rcases r1 with ⟨p, xs, ds', e1, e2, _⟩ | r1
        · cases e2
        · exact r1
      rcases r1 with ⟨t, p, q, ds', es', e1, e2, _⟩ | ⟨t, q, xs, ds', y', u, Gm, e1, e2, nx, n1, n2, ht, hq, gq, sm, nw, ra, ru⟩
      · cases e2
        exact absurd rfl hl
      · cases e2
        subst e1
        have EM : Ext G H Gm H1 := ⟨fun b o z => ?_, E1.h, sm.trans E1.sub, fun b o z w => E1.new b o (sm _ _ z) w⟩
        rotate_left
        · cases w : Gm b with
          | none =>
            have z1 := nw b o (E1.g _ _ z) w
            rw [R.sub _ _ z] at z1
            cases z1
          | some o' =>
            have z1 := sm _ _ w
            rw [E1.g _ _ z] at z1
            exact z1.symm
        have RM := R.grow EM
        have h1q : H1 q = some (.lst xs) := E1.sub _ _ hq
        obtain ⟨ns1, ns2⟩ := new_slots R EM n2
        have hi : i < σ.length := by rw [hn]; exact p4 i (by simp)
        have hj : j < σ.length := by rw [hn]; exact p4 j (by simp)
        refine ⟨t, [u, .ref q], rfl, .inl (.inl (E1.sub _ _ ht)), rfl, ?_⟩
        have RA := RM.setSh (i := i) ru hi
        refine ⟨_, _, rfl, _, _, rfl, rfl, ?_⟩
        refine h1 _ Gm H1 (RA.setOw h1q gq ra (R.ext.h.free n2) (by rw [List.length_set]; exact hj) (fun l es q1 q2 => ?_) (fun l a rows cls q1 q2 => ?_) (fun l nn dd q1 => ?_))
        · obtain ⟨ne, q1⟩ := set_ow (fun _ z => by cases z) q1
          rw [List.getElem?_set_ne ne] at q2
          exact ns1 l es q1 q2
        · obtain ⟨ne, q1⟩ := set_ob (fun _ _ z => by cases z) q1
          rw [List.getElem?_set_ne ne] at q2
          exact ns2 l a rows cls q1 q2
        · obtain ⟨ne, q1⟩ := set_iso rfl q1 rfl
          obtain ⟨A, v, z1, z2, z3, z4, z5⟩ := new_dp R EM n2 l nn dd q1
          refine ⟨A, v, by rw [List.getElem?_set_ne ne]; exact z1, z2, z3, fun m es b w1 w2 => ?_, z5⟩
          obtain ⟨n3, w1⟩ := set_ow (fun _ z => by cases z) w1
          rw [List.getElem?_set_ne n3] at w2
          exact z4 m es b w1 w2
    · exact False.elim h1
end MP
set_option Elab.async false
set_option linter.all false
set_option maxRecDepth 100000
set_option maxHeartbeats 4000000
namespace MP
open PySem PySem.Spec PyProof.Rows L2 RT

theorem exp_hs {e : Expr} {l : Nat} {env : Env} (h : isCall e = true) : swapsWith e none l env = pure false := by
  cases e <;> first
    | rfl
    | exact absurd h Bool.false_ne_true
section
variable {X : Cx} {N : List Str} {sc : Scope} {cl : Str → Value} {W : WX} {k : Nat}
/-- a method of a list in a slot, one argument -/
theorem pe_m1 {id name : String} {r : V → List V → Hp → VK → Prop} {m : ME} {e : Expr} {i : Nat} {y : Str} {yp ap cp : Pos} (x : XOk X N sc W k) (slot : Slot "list" name id) (hty : typeOf (.builtin id) = pure (.type "method_descriptor")) (hm : MtR X id r)
    (hv : visE N sc i y = true) (hl : (ap.endLine == cp.line) = true) (hc : chkE N m sc e = true) (hf : AllC (GoodFn X.prog X.w X.K X.mg X.base cl k) (callsE m)) (hg : AllC (GoodGl X.K X.mg) (glosE m)) :
    PE X (.Call (.Attribute (.Name y yp) (PySem.Str.ofString name) ap) [e] [] cp) (tBM X.K "list" r (tVar i) (tCons (rd X.K cl W m) tNil)) := by
  obtain ⟨v1, v2, v3, v4⟩ := visE_ok x hv
  have pe := (snd_all m X N sc cl W k e x hc hf hg).1
  have st : starEach [e] X.env = (false, eval e X.env) :: starEach [] X.env := chk_star hc
  exact pe_bm PySem.F.plainAttrs_list slot hty hm (pe_var v1 v2 v3 v4) (pa_cons pe pa_nil st) rfl (by rw [st]; rfl) hl st rfl
theorem pe_m2 {id name : String} {r : V → List V → Hp → VK → Prop} {m l : ME} {e f : Expr} {i : Nat} {y : Str} {yp ap cp : Pos} (x : XOk X N sc W k) (slot : Slot "list" name id) (hty : typeOf (.builtin id) = pure (.type "method_descriptor")) (hm : MtR X id r)
    (hv : visE N sc i y = true) (hl : (ap.endLine == cp.line) = true) (hc : chkE N m sc e = true) (hc2 : chkE N l sc f = true) (hf : AllC (GoodFn X.prog X.w X.K X.mg X.base cl k) (callsE m)) (hg : AllC (GoodGl X.K X.mg) (glosE m)) (hf2 : AllC (GoodFn X.prog X.w X.K X.mg X.base cl k) (callsE l)) (hg2 : AllC (GoodGl X.K X.mg) (glosE l)) :
    PE X (.Call (.Attribute (.Name y yp) (PySem.Str.ofString name) ap) [e, f] [] cp) (tBM X.K "list" r (tVar i) (tCons (rd X.K cl W m) (tCons (rd X.K cl W l) tNil))) := by
  obtain ⟨v1, v2, v3, v4⟩ := visE_ok x hv
  have pe := (snd_all m X N sc cl W k e x hc hf hg).1
  have pf := (snd_all l X N sc cl W k f x hc2 hf2 hg2).1
  have st2 : starEach [f] X.env = (false, eval f X.env) :: starEach [] X.env := chk_star hc2
  have st : starEach [e, f] X.env = (false, eval e X.env) :: starEach [f] X.env := chk_star hc
  exact pe_bm PySem.F.plainAttrs_list slot hty hm (pe_var v1 v2 v3 v4) (pa_cons pe (pa_cons pf pa_nil st2) st) rfl (by rw [st, st2]; rfl) hl st (by rw [st2]; rfl)
end
/-! ### lists within lists -/
section
variable {K : PySem.W.Frag} {G0 H0 G H G1 H1 : Hp} {S : List SV} {σ : L2.St}
/-- a slot takes new lists within lists -/
theorem StRel.setDp (R : StRel K G0 H0 S σ G H) {i m : Nat} {A : List Addr} {v : V} {d : D} (ow : Own K G H (m + 1) A v d) (f : ∀ b ∈ A, H0 b = none) (hi : i < σ.length) (hno : S.any isObS = false)
    (hn : ∀ (j : Nat) (es : List D) (b : Addr), S[j]? = some (.ow es) → σ[j]? = some (some (.ref b)) → ¬ b ∈ A) : StRel K G0 H0 (S.set i (.dp (m + 1) d)) (σ.set i (some v)) G H := by
  have hS : i < S.length := by rw [R.ev.len]; exact hi
  have none_ : ∀ (j : Nat) (sv : SV), S[j]? = some sv → isObS sv = true → False := fun j sv h hb => by
    have := List.any_eq_false.mp hno _ (List.mem_of_getElem? h)
    exact this hb
  have hs : ∀ es, (SV.dp (m + 1) d) ≠ .ow es := fun _ z => by cases z
  have here : ∀ (j : Nat) (sv : SV), (S.set i (.dp (m + 1) d))[j]? = some sv → isObS sv = true → i = j := fun j sv h hb => by
    by_cases e : i = j
    · exact e
    · rw [List.getElem?_set_ne e] at h
      exact (none_ _ _ h hb).elim
  refine ⟨⟨R.sub, by simp [R.ev.len], fun j sv h => ?_⟩, R.ext, fun j b es h q => ?_, fun j l b es fs ne q1 q2 q3 q4 => ?_, fun j b rows cl h q => ?_, fun j l b b' rows cl es h1 h2 q1 q2 => ?_, fun j l rows cl rows' cl' h1 h2 => ?_, fun j n d' h => ?_, fun j l n d' sv' h1 h2 h3 => (here j _ h1 rfl).symm.trans (here l _ h2 h3)⟩
  · by_cases e : i = j
    · subst e
      rw [List.getElem?_set_self hS] at h
      cases h
      obtain ⟨a, xs, ds, B, _, rfl, rfl, ha, _, _, o⟩ := ow
      exact ⟨a, xs, ds, rfl, by rw [List.getElem?_set_self hi], ha, o.len⟩
    · rw [List.getElem?_set_ne e] at h ⊢
      exact R.ev.sl j sv h
  · obtain ⟨ne, h⟩ := set_ow hs h
    rw [List.getElem?_set_ne ne] at q
    exact R.own j b es h q
  · obtain ⟨n1, q1⟩ := set_ow hs q1
    obtain ⟨n2, q2⟩ := set_ow hs q2
    rw [List.getElem?_set_ne n1] at q3
    rw [List.getElem?_set_ne n2] at q4
    exact R.dis j l b es fs ne q1 q2 q3 q4
  · obtain rfl := here j _ h rfl
    rw [List.getElem?_set_self hS] at h
    cases h
  · obtain rfl := here j _ h1 rfl
    rw [List.getElem?_set_self hS] at h1
    cases h1
  · obtain rfl := here j _ h1 rfl
    rw [List.getElem?_set_self hS] at h1
    cases h1
  · obtain rfl := here j _ h rfl
    rw [List.getElem?_set_self hS] at h
    cases h
    refine ⟨A, v, by rw [List.getElem?_set_self hi], ow, f, fun l es b h2 q2 => ?_⟩
    obtain ⟨n2, h2⟩ := set_ow hs h2
    rw [List.getElem?_set_ne n2] at q2
    exact hn l es b h2 q2
/-- they are changed at the end of a path -/
theorem StRel.writeDp (R : StRel K G0 H0 S σ G H) {i j : Nat} {js : List Nat} {u : V} {x d d' : D} (hS : S[i]? = some (.dp (js.length + 1) d)) (ru : Rep K G u x) (hp : putP x (js ++ [j]) d = some d') :
    ∃ b xs v, σ[i]? = some (some v) ∧ Wk H v js (.ref b) ∧ H b = some (.lst xs) ∧ j < xs.length ∧ StRel K G0 H0 (S.set i (.dp (js.length + 1) d')) σ G (upd H b (.lst (xs.set j u))) := by
  obtain ⟨A, v, q, ow, f, dj⟩ := R.dpo i _ d hS
  obtain ⟨b, xs, w, hb, hx, gb, hj, A', sA, ow'⟩ := ow.put ru hp
  have hiS : i < S.length := (List.getElem?_eq_some_iff.mp hS).1
  have hs : ∀ es, (SV.dp (js.length + 1) d') ≠ .ow es := fun _ z => by cases z
  have here : ∀ (l : Nat) (sv : SV), (S.set i (.dp (js.length + 1) d'))[l]? = some sv → isObS sv = true → i = l := fun l sv h hb => by
    by_cases e : i = l
    · exact e
    · rw [List.getElem?_set_ne e] at h
      exact R.dpu i l _ _ _ hS h hb
  refine ⟨b, xs, v, q, w, hx, hj, ⟨⟨fun c o z => ?_, by simp [R.ev.len], fun l sv h => ?_⟩, R.ext.mut (f b hb) gb, fun l a es h z => R.own l a es (set_ow hs h).2 z, fun l m a es fs ne q1 q2 q3 q4 => R.dis l m a es fs ne (set_ow hs q1).2 (set_ow hs q2).2 q3 q4, fun l a rows cl h _ => ?_, fun l m a b' rows cl es h1 h2 q1 q2 => ?_, fun l m rows cl rows' cl' h1 h2 => ?_, fun l n d2 h => ?_, fun l m n d2 sv' h1 h2 h3 => (here l _ h1 rfl).symm.trans (here m _ h2 h3)⟩⟩
  · rw [upd_ne (ne_of_none z gb)]
    exact R.sub _ _ z
  · by_cases e : i = l
    · subst e
      rw [List.getElem?_set_self hiS] at h
      cases h
      obtain ⟨a, ys, ds, B, _, rfl, rfl, ha, _, _, o⟩ := ow'
      exact ⟨a, ys, ds, rfl, q, ha, o.len⟩
    · rw [List.getElem?_set_ne e] at h
      have z := R.ev.sl l sv h
      cases sv with
      | no => trivial
      | sh d => exact z
      | ow fs =>
        obtain ⟨c, zs, z1, z2, z3, z4⟩ := z
        have nc : c ≠ b := fun ec => dj l fs c h z1 (by rw [ec]; exact hb)
        exact ⟨c, zs, z1, by rw [upd_ne nc]; exact z2, z3, z4⟩
      | ob rows cl => exact absurd (R.dpu i l _ _ _ hS h rfl) e
      | dp n d2 => exact absurd (R.dpu i l _ _ _ hS h rfl) e
  · obtain rfl := here l _ h rfl
    rw [List.getElem?_set_self hiS] at h
    cases h
  · obtain rfl := here l _ h1 rfl
    rw [List.getElem?_set_self hiS] at h1
    cases h1
  · obtain rfl := here l _ h1 rfl
    rw [List.getElem?_set_self hiS] at h1
    cases h1
  · obtain rfl := here l _ h rfl
    rw [List.getElem?_set_self hiS] at h
    cases h
    exact ⟨A', v, q, ow', fun c hc => f c (sA c hc), fun m es c h2 q2 hc => dj m es c (set_ow hs h2).2 q2 (sA c hc)⟩
/-- those below the first are plain from then on -/
theorem StRel.frzDp (R : StRel K G0 H0 S σ G H) {i m : Nat} {ds : List D} (hS : S[i]? = some (.dp (m + 1) (.lst ds))) : ∃ G', StRel K G0 H0 (S.set i (.ow ds)) σ G' H := by
  obtain ⟨A, v, q, ow, f, dj⟩ := R.dpo i _ _ hS
  obtain ⟨a, xs, ds', B, rfl, rfl, ed, ha, ga, nb, o⟩ := ow
  cases ed
  have hiS : i < S.length := (List.getElem?_eq_some_iff.mp hS).1
  obtain ⟨G', hG⟩ : ∃ G' : Hp, G' = fun b => if b ∈ B then H b else G b := ⟨_, rfl⟩
  have gB : ∀ b ∈ B, (∃ o, H b = some o) ∧ G b = none := fun b hb => by
    obtain ⟨A', v', d', p, hb'⟩ := o.mem hb
    exact p.dom b hb'
  have g1 : ∀ b, b ∈ B → G' b = H b := fun b hb => by rw [hG]; exact if_pos hb
  have g2 : ∀ b, ¬ b ∈ B → G' b = G b := fun b hb => by rw [hG]; exact if_neg hb
  have s1 : Same G G' := fun b o' z => by
    by_cases hb : b ∈ B
    · rw [(gB b hb).2] at z; cases z
    · rw [g2 b hb]; exact z
  have s2 : Same G' H := fun b o' z => by
    by_cases hb : b ∈ B
    · rw [g1 b hb] at z; exact z
    · rw [g2 b hb] at z; exact R.sub _ _ z
  have E : Ext G0 H0 G' H := ⟨R.ext.g.trans s1, R.ext.h, s2, fun b o' z n => by
    by_cases hb : b ∈ B
    · exact f b (List.mem_cons_of_mem _ hb)
    · rw [g2 b hb] at z; exact R.ext.new b o' z n⟩
  have here : ∀ (l : Nat) (sv : SV), (S.set i (.ow ds))[l]? = some sv → isObS sv = true → False := fun l sv h hb => by
    obtain ⟨ne, h⟩ := set_iso (sv := .ow ds) rfl h hb
    exact ne (R.dpu i l _ _ _ hS h hb)
  refine ⟨G', ⟨⟨s2, by simp [R.ev.len], fun l sv h => ?_⟩, E, fun l b es h z => ?_, fun l m' b es fs ne q1 q2 q3 q4 => ?_, fun l b rows cl h _ => (here l _ h rfl).elim, fun l m' b b' rows cl es h1 _ _ _ => (here l _ h1 rfl).elim, fun l m' rows cl rows' cl' h1 _ => (here l _ h1 rfl).elim, fun l n d2 h => (here l _ h rfl).elim, fun l m' n d2 sv' h1 _ _ => (here l _ h1 rfl).elim⟩⟩
  · by_cases e : i = l
    · subst e
      rw [List.getElem?_set_self hiS] at h
      cases h
      exact ⟨a, xs, q, ha, by rw [g2 a nb]; exact ga, o.rep s1 fun b hb o' z => by rw [g1 b hb]; exact z⟩
    · rw [List.getElem?_set_ne e] at h
      have z := R.ev.sl l sv h
      cases sv with
      | no => trivial
      | sh d =>
        obtain ⟨v, z1, z2⟩ := z
        exact ⟨v, z1, z2.mono s1⟩
      | ow fs =>
        obtain ⟨c, zs, z1, z2, z3, z4⟩ := z
        have nc : ¬ c ∈ B := fun hc => dj l fs c h z1 (List.mem_cons_of_mem _ hc)
        exact ⟨c, zs, z1, z2, by rw [g2 c nc]; exact z3, z4.mono s1⟩
      | ob rows cl => exact absurd (R.dpu i l _ _ _ hS h rfl) e
      | dp n d2 => exact absurd (R.dpu i l _ _ _ hS h rfl) e
  · by_cases e : i = l
    · subst e
      rw [q] at z
      cases z
      exact f _ List.mem_cons_self
    · rw [List.getElem?_set_ne e] at h
      exact R.own l b es h z
  · by_cases e : i = l
    · subst e
      rw [q] at q3
      cases q3
      rw [List.getElem?_set_ne ne] at q2
      exact dj m' fs _ q2 q4 List.mem_cons_self
    · rw [List.getElem?_set_ne e] at q1
      by_cases e2 : i = m'
      · subst e2
        rw [q] at q4
        cases q4
        exact dj l es _ q1 q3 List.mem_cons_self
      · rw [List.getElem?_set_ne e2] at q2
        exact R.dis l m' b es fs ne q1 q2 q3 q4
end
theorem s_dset (n i : Nat) (m : DE) : SndS n (.dset i m) := by
  intro X N sc cl W k G0 H0 st x hc hf hg _
  unfold chkS at hc
  split at hc
  case h_2 => exact absurd hc Bool.false_ne_true
  rename_i y yp b gens scope p pos
  rw [Bool.and_eq_true, Bool.and_eq_true] at hc
  obtain ⟨⟨hc1, hc2⟩, hc3⟩ := hc
  obtain ⟨h1, h2, h3⟩ := locE_ok x.toXOk hc1
  cases m with
  | lf e => exact absurd hc3 Bool.false_ne_true
  | cmp elt j kk es =>
    have pe := sndD_all (.cmp elt j kk es) X N sc cl W k _ x.toXOk hc2 hf hg
    match gens, hc2, pe with
    | [⟨.Name z zp, it, [], 0⟩], hc2, pe =>
      have hcB : (ownE N sc scope j z && chkD N elt (relS scope sc) b && chkI N sc kk es it) = true := hc2
      rw [Bool.and_eq_true, Bool.and_eq_true] at hcB
      have L := lc_compD (cl := cl) (W := W) (yp := zp) j kk (sndD_all elt) x.toXOk hcB.1.1 hcB.1.2 hcB.2 hf hg
      have pa : PS X (.Assign [.Name y yp] (.ListComp b [⟨.Name z zp, it, [], 0⟩] scope p) pos) (tAsg (rdD X.K cl W (.cmp elt j kk es)) (gName i)) := by
        by_cases hy : X.env.scope.names.lookup y = some .local ∧ (yp.line == p.line) = true ∧ (scope.names.any fun (n, k) => n == y && (k == .local || k == .cell)) = false
        · exact ps_imp (ps_setLc x.calm x.nd h1 hy.1 (sw_true x.kindF hy.1 hy.2.1 hy.2.2) L.pi L.ok L.hg L.ht L.he L.hs) fun D σ H hn h => L.rd σ H _ hn h
        · refine ps_set x.nd h1 h2 pe ?_ (.inl (x.fnT _))
          unfold swapsWith
          have hk : (X.env.blockKind == .function && X.env.kindOf y == some .local && yp.line == (Expr.ListComp b [⟨.Name z zp, it, [], 0⟩] scope p).pos.line && !(scope.names.any fun (n, k) => n == y && (k == .local || k == .cell))) = false := by
            rw [Bool.eq_false_iff]
            intro z
            simp only [Bool.and_eq_true, beq_iff_eq, Bool.not_eq_true'] at z
            exact hy ⟨z.1.1.2, by simpa [Expr.pos] using z.1.2, z.2⟩
          simp only [hk]
      refine ps_imp pa fun D σ H hn ⟨S, G, R, h⟩ => ?_
      rw [exS] at h
      split at h
      · exact False.elim h
      rename_i hno
      refine ⟨S, G, R.ev, ?_⟩
      cases e : evD (.cmp elt j kk es) S with
      | stuck => rw [e] at h; exact h
      | exc c =>
        rw [e] at h
        exact fun G1 H1 E1 => h σ G1 H1 (R.grow E1)
      | ok d =>
        rw [e] at h
        intro A v G1 H1 E1 ow fA
        refine h _ G1 H1 ((R.grow E1).setDp (m := elt.dep) ow (fun b hb => R.ext.h.free (fA b hb)) (by rw [hn]; exact h3) (Bool.eq_false_iff.mpr hno) fun l es' b q1 q2 hb => ?_)
        obtain ⟨a, xs, q3, q4, _⟩ := R.ev.sl l _ q1
        rw [q2] at q3
        cases q3
        rw [fA b hb] at q4
        cases q4
/-- where the keys lead -/
def tP (K : PySem.W.Frag) (cl : Str → Value) (W : WX) (i : Nat) : List ME → TE
  | [] => tVar i
  | k :: ks => tOp (rIxL K) (tP K cl W i ks) (rd K cl W k)
theorem pth_pe {X : Cx} {N : List Str} {sc : Scope} {cl : Str → Value} {W : WX} {k i : Nat} (x : XOk X N sc W k) : ∀ {ks : List ME} {b : Expr}, chkPth N sc i ks b = true → AllC (GoodFn X.prog X.w X.K X.mg X.base cl k) (callsEs ks) → AllC (GoodGl X.K X.mg) (glosEs ks) → PE X b (tP X.K cl W i ks)
  | [], b, hc, _, _ => by
    cases b <;> try exact absurd hc Bool.false_ne_true
    rename_i y p
    obtain ⟨v1, v2, v3, v4⟩ := visE_ok x (show visE N sc i y = true from hc)
    exact pe_var v1 v2 v3 v4
  | q :: ks, b, hc, hf, hg => by
    cases b <;> try exact absurd hc Bool.false_ne_true
    rename_i b' f pos
    have hc : (chkPth N sc i ks b' && chkE N q sc f) = true := hc
    rw [Bool.and_eq_true] at hc
    obtain ⟨f1, f2⟩ := AllC.app (show AllC _ (callsE q ++ callsEs ks) from hf)
    obtain ⟨g1, g2⟩ := AllC.app (show AllC _ (glosE q ++ glosEs ks) from hg)
    exact pe_ix ix_list (pth_pe x hc.1 f2 g2) (snd_all q X N sc cl W k f x hc.2 f1 g1).1 (chk_plainIx hc.2)
theorem bindS_bind {α β : Type} {S : List SV} {r : Res α} {g : α → Res β} {f : β → SRes} : bindS S (r.bind g) f = bindS S r fun a => bindS S (g a) f := by
  cases r <;> rfl
theorem evP_len {d : D} {S : List SV} : ∀ {ks : List ME} {p : List Nat × D}, evP d ks S = .ok p → p.1.length = ks.length ∧ getP p.1 d = some p.2
  | [], p, h => by
    rw [evP] at h
    cases h
    exact ⟨rfl, rfl⟩
  | k :: ks, p, h => by
    rw [evP] at h
    cases e : evP d ks S with
    | stuck => rw [e] at h; cases h
    | exc c => rw [e] at h; cases h
    | ok p' =>
      rw [e] at h
      dsimp only [Res.bind] at h
      cases e2 : evE k S with
      | stuck => rw [e2] at h; cases h
      | exc c => rw [e2] at h; cases h
      | ok q =>
        rw [e2] at h
        obtain ⟨z1, z2⟩ := evP_len e
        dsimp only at h
        split at h
        · rename_i ds z hd hz
          split at h
          · split at h
            · rename_i j hj y hy
              cases h
              exact ⟨by simp [z1], getP_snoc (by rw [z2, hd]) hy⟩
            · cases h
          · cases h
        · cases h
theorem path_run {K : PySem.W.Frag} {cl : Str → Value} {W : WX} {G0 H0 : Hp} {i n : Nat} {d : D} {E : Ends} {S : List SV} {σ : L2.St} (hS : S[i]? = some (.dp n d)) : ∀ {ks : List ME} {f : List Nat × D → SRes} {G H : Hp} {Q : VK}, StRel K G0 H0 S σ G H → ks.length < n →
    Ks K cl W G0 H0 (bindS S (evP d ks S) f) E → (∀ p v v1 G1 H1, StRel K G0 H0 S σ G1 H1 → Ext G H G1 H1 → p.1.length = ks.length → σ[i]? = some (some v) → Wk H1 v p.1 v1 → getP p.1 d = some p.2 → Ks K cl W G0 H0 (f p) E → Q v1 H1) → tP K cl W i ks σ H Q
  | [], f, G, H, Q, R, hl, h, q => by
    obtain ⟨A, v, hv, _⟩ := R.dpo i n d hS
    exact ⟨v, hv, q ([], d) v v G H R (Ext.refl R.sub) rfl hv rfl rfl h⟩
  | k :: ks, f, G, H, Q, R, hl, h, q => by
    rw [evP, bindS_bind] at h
    refine path_run hS (ks := ks) R (Nat.lt_of_succ_lt hl) h fun p v v1 G1 H1 R1 E1 pl hv w gp h1 => ?_
    rw [bindS_bind] at h1
    refine st_rd R1 h1 fun dk kd y G2 H2 _ E2 ry R2 h2 => ?_
    dsimp only at h2
    split at h2
    · rename_i ds z hd _
      obtain rfl := ry.int
      split at h2
      · rename_i j hj
        split at h2
        · rename_i x1 hx
          obtain ⟨A, v', hv', ow, _, _⟩ := R2.dpo i n d hS
          rw [hv] at hv'
          cases hv'
          obtain ⟨m, hm⟩ : ∃ m, n = p.1.length + (m + 1) := ⟨n - p.1.length - 1, by rw [List.length_cons] at hl; omega⟩
          rw [hm] at ow
          obtain ⟨A1, v1', w', o1⟩ := ow.get (d1 := .lst ds) (by rw [gp, hd])
          obtain ⟨a, xs, ds', B, _, rfl, ed, ha, _, _, o⟩ := o1
          cases ed
          obtain rfl := Wk.uniq (w.mono E2.h) w'
          have hxl := o.len
          obtain ⟨A0, u, hu, _⟩ := o.at_ hx
          refine ⟨a, xs, z, u, rfl, rfl, SqL.of ha, ?_, q (p.1 ++ [j], x1) v u G2 H2 R2 (E1.trans E2) (by simp [pl]) hv (w'.snoc ha hu) (getP_snoc (by rw [gp, hd]) hx) h2⟩
          show (ixN xs.length z).bind _ = _
          rw [hxl, hj]
          exact hu
        · exact False.elim h2
      · exact False.elim h2
    · exact False.elim h2
theorem s_dsto (n i : Nat) (ks : List ME) (l m : ME) : SndS n (.dsto i ks l m) := by
  intro X N sc cl W k G0 H0 st x hc hf hg _
  unfold chkS at hc
  split at hc
  case h_2 => exact absurd hc Bool.false_ne_true
  rename_i b f sp e pos
  rw [Bool.and_eq_true, Bool.and_eq_true] at hc
  obtain ⟨⟨hc0, hc1⟩, hc2⟩ := hc
  obtain ⟨f0, f3⟩ := AllC.app (show AllC _ (callsEs ks ++ (callsE l ++ callsE m)) from hf)
  obtain ⟨f1, f2⟩ := AllC.app f3
  obtain ⟨g0, g3⟩ := AllC.app (show AllC _ (glosEs ks ++ (glosE l ++ glosE m)) from hg)
  obtain ⟨g1, g2⟩ := AllC.app g3
  have pb := pth_pe (cl := cl) x.toXOk hc0 f0 g0
  have pl := (snd_all l X N sc cl W k f x.toXOk hc1 f1 g1).1
  have pm := (snd_all m X N sc cl W k e x.toXOk hc2 f2 g2).1
  have hst : ∀ v, assign (.Subscript b f sp) X.env v = (do
      let ov ← holding [v] (eval b X.env)
      let iv ← holding [v, ov] (eval f X.env)
      standAt sp
      holding [v, ov, iv] (setItem ov iv v)
      release [v, ov, iv] []) := by
    intro v
    cases f <;> first
      | rfl
      | (cases l <;> exact absurd hc1 Bool.false_ne_true)
  have hs : swapsWithSole [.Subscript b f sp] e pos.line X.env = pure false := by
    cases e <;> rfl
  refine ps_imp (ps_asg pm (pg_sub pb pl set_list hst) hs rfl rfl) fun D σ H hn ⟨S, G, R, h⟩ => ?_
  rw [exS] at h
  refine st_rd R h fun d kd v G1 H1 _ E1 r1 R1 h1 => ?_
  split at h1
  · exact False.elim h1
  · rename_i hk
    obtain ⟨G2, E2, s2, rp⟩ := r1.fix E1 hk
    have R2 := R.grow E2
    split at h1
    · rename_i dn d0 hS
      split at h1
      · rename_i hdn
        refine path_run hS R2 (by omega) h1 fun p v0 v1 G3 H3 R3 E3 pl' hv w gp h3 => ?_
        refine st_rd R3 h3 fun d4 kd4 v4 G4 H4 ev4 E4 r4 R4 h4 => ?_
        dsimp only at h4
        split at h4
        · rename_i ds z hd
          obtain rfl := r4.int
          split at h4
          · rename_i j hj
            split at h4
            · rename_i d' hp
              have hn1 : dn = p.1.length + 1 := by rw [pl', hdn]
              rw [hn1] at hS h4
              have rp4 := (rp.mono E3.g).mono E4.g
              obtain ⟨b', xs, v', hv', w', hx, hjx, RW⟩ := R4.writeDp hS rp4 hp
              rw [hv] at hv'
              cases hv'
              obtain rfl := Wk.uniq (w.mono E4.h) w'
              have hxl : xs.length = ds.length := by
                obtain ⟨A, v2, hv2, ow, _, _⟩ := R4.dpo i _ _ hS
                rw [hv] at hv2
                cases hv2
                obtain ⟨A1, v1', w2, o1⟩ := ow.get (n := 1) (d1 := .lst ds) (by rw [gp, hd])
                obtain ⟨a, ys, ds', B, _, rfl, ed, ha, _, _, o⟩ := o1
                cases ed
                have e := Wk.uniq w' w2
                cases e
                rw [hx] at ha
                cases ha
                exact o.len
              exact ⟨b', xs, z, j, rfl, rfl, hx, by rw [hxl]; exact hj, h4 σ G4 _ RW⟩
            · exact False.elim h4
          · exact False.elim h4
        · exact False.elim h4
      · exact False.elim h1
    · exact False.elim h1
theorem s_apop (n j i : Nat) (l : ME) : SndS n (.apop j i l) := by
  intro X N sc cl W k G0 H0 st x hc hf hg _
  unfold chkS at hc
  split at hc
  case h_2 => exact absurd hc Bool.false_ne_true
  rename_i y yp yn ap w wp wn ap2 f cp2 cp pos
  rw [Bool.and_eq_true, Bool.and_eq_true, Bool.and_eq_true, Bool.and_eq_true, Bool.and_eq_true, Bool.and_eq_true, decide_eq_true_eq, decide_eq_true_eq] at hc
  obtain ⟨⟨⟨⟨⟨⟨rfl, hv⟩, hl⟩, rfl⟩, hv2⟩, hl2⟩, hcM⟩ := hc
  have pm := pe_m1 (cl := cl) (name := "pop") (yp := wp) x.toXOk PySem.F.slot_list_pop PySem.F.type_list_pop mt_popAt hv2 hl2 hcM hf hg
  obtain ⟨v1, v2, v3, v4⟩ := visE_ok x.toXOk hv
  have pa := pe_bm (cpos := cp) (apos := ap) PySem.F.plainAttrs_list PySem.F.slot_list_append PySem.F.type_list_append (mt_append (X := X)) (pe_var (pos := yp) v1 v2 v3 v4) (pa_cons pm pa_nil rfl) rfl rfl hl rfl rfl
  refine ps_imp (ps_expr pa rfl) fun D σ H hn ⟨S, G, R, h⟩ => ?_
  rw [exS] at h
  split at h
  · rename_i ys xs hj hi
    obtain ⟨a, zs, q, ha, ga, ra⟩ := R.ev.sl j _ hj
    refine ⟨_, q, .inl ⟨rfl, _, SqL.of ha⟩, ?_⟩
    obtain ⟨b, ws, q2, hb, gb, rb⟩ := R.ev.sl i _ hi
    refine ⟨_, q2, .inl ⟨rfl, _, SqL.of hb⟩, ?_⟩
    refine st_rd R h fun d kd v G1 H1 ev1 E1 r1 R1 h1 => ?_
    cases d <;> try exact False.elim h1
    rename_i z
    obtain rfl := r1.int
    dsimp only at h1
    split at h1
    · rename_i hz
      obtain ⟨z0, z1, z2, z3⟩ := hz
      split at h1
      · rename_i d hd
        have hlx := rb.len
        have hlt : z.toNat < xs.length := (List.getElem?_eq_some_iff.mp hd).1
        obtain ⟨u, hu, ru⟩ := (rb.mono E1.g).get hd
        have nab : a ≠ b := fun e => by
          subst e
          exact R.dis i j a xs ys z3 hi hj q2 q
        have RW := R1.write hi q2 ((rb.mono E1.g).erase z.toNat)
        have hj' : (S.set i (.ow (xs.eraseIdx z.toNat)))[j]? = some (.ow ys) := by rw [List.getElem?_set_ne z3]; exact hj
        refine ⟨b, ws, z, z.toNat, u, rfl, rfl, E1.h _ _ hb, by omega, by omega, PySem.StrLaws.seqIndex_nonneg z0 (by omega), hu, ?_⟩
        refine ⟨a, zs, u, rfl, rfl, by rw [upd_ne nab]; exact E1.h _ _ ha, by rw [szl, ra.len]; exact z2, ?_⟩
        exact h1 σ G1 _ (RW.write hj' q ((ra.mono E1.g).app (.cons ru .nil)))
      · exact False.elim h1
    · exact False.elim h1
  · exact False.elim h
theorem s_app (n i : Nat) (m : ME) : SndS n (.app i m) := by
  intro X N sc cl W k G0 H0 st x hc hf hg _
  unfold chkS at hc
  split at hc
  case h_2 => exact absurd hc Bool.false_ne_true
  rename_i y yp z ap e cp pos
  have hcB : (decide (z = "append") && visE N sc i y && (ap.endLine == cp.line) && chkE N m sc e) = true := hc
  rw [Bool.and_eq_true, Bool.and_eq_true, Bool.and_eq_true, decide_eq_true_eq] at hcB
  obtain ⟨⟨⟨rfl, hv⟩, hl⟩, hcM⟩ := hcB
  have pm := pe_m1 (cl := cl) (name := "append") (yp := yp) x.toXOk PySem.F.slot_list_append PySem.F.type_list_append mt_append hv hl hcM hf hg
  refine ps_imp (ps_expr pm rfl) fun D σ H hn ⟨S, G, R, h⟩ => ?_
  rw [exS] at h
  split at h
  · rename_i ds hS
    obtain ⟨a, xs, q, ha, ga, ra⟩ := R.ev.sl i _ hS
    refine ⟨_, q, .inl ⟨rfl, _, SqL.of ha⟩, ?_⟩
    refine st_rd R h fun d kd v G1 H1 _ E1 r1 R1 h1 => ?_
    split at h1
    · exact False.elim h1
    · rename_i hk
      split at h1
      · rename_i hz
        obtain ⟨G2, E2, s2, rp⟩ := r1.fix E1 hk
        refine ⟨a, xs, v, rfl, rfl, E2.h _ _ ha, by rw [szl, ra.len]; exact hz, ?_⟩
        exact h1 σ G2 _ ((R.grow E2).write hS q ((ra.mono E2.g).app (.cons rp .nil)))
      · exact False.elim h1
  · exact False.elim h
theorem s_ins (n i : Nat) (l m : ME) : SndS n (.ins i l m) := by
  intro X N sc cl W k G0 H0 st x hc hf hg _
  unfold chkS at hc
  split at hc
  case h_2 => exact absurd hc Bool.false_ne_true
  rename_i y yp z ap f e cp pos
  have hcB : (decide (z = "insert") && visE N sc i y && (ap.endLine == cp.line) && chkE N l sc f && chkE N m sc e) = true := hc
  rw [Bool.and_eq_true, Bool.and_eq_true, Bool.and_eq_true, Bool.and_eq_true, decide_eq_true_eq] at hcB
  obtain ⟨⟨⟨⟨rfl, hv⟩, hl⟩, hc1⟩, hcM⟩ := hcB
  obtain ⟨f1, f2⟩ := AllC.app (show AllC _ (callsE l ++ callsE m) from hf)
  obtain ⟨g1, g2⟩ := AllC.app (show AllC _ (glosE l ++ glosE m) from hg)
  have pm := pe_m2 (cl := cl) (name := "insert") (yp := yp) x.toXOk PySem.F.slot_list_insert PySem.F.type_list_insert mt_insert hv hl hc1 hcM f1 g1 f2 g2
  refine ps_imp (ps_expr pm rfl) fun D σ H hn ⟨S, G, R, h⟩ => ?_
  rw [exS] at h
  split at h
  · rename_i ds hS
    obtain ⟨a, xs, q, ha, ga, ra⟩ := R.ev.sl i _ hS
    refine ⟨_, q, .inl ⟨rfl, _, SqL.of ha⟩, ?_⟩
    refine st_rd R h fun d0 kd0 v0 G1 H1 ev0 E1 r0 R1 h1 => ?_
    cases d0 <;> try exact False.elim h1
    rename_i z
    obtain rfl := r0.int
    refine st_rd R1 h1 fun d kd v G2 H2 _ E2 r1 R2 h2 => ?_
    split at h2
    · exact False.elim h2
    · rename_i hk
      split at h2
      · rename_i hz
        obtain ⟨G3, E3, s3, rp⟩ := r1.fix E2 hk
        refine ⟨a, xs, z, v, rfl, rfl, E2.h _ _ (E1.h _ _ ha), by rw [szl, ra.len]; exact hz.1, hz.2.1, by have := hz.2.2; have := hz.2.1; omega, ?_⟩
        have rr := (ra.mono E1.g).mono E3.g
        exact h2 σ G3 _ ((R1.grow E3).write hS q (((rr.take _).app (.cons rp .nil)).app (rr.drop _)))
      · exact False.elim h2
  · exact False.elim h
theorem s_popd (n i : Nat) (l : ME) : SndS n (.popd i l) := by
  intro X N sc cl W k G0 H0 st x hc hf hg _
  unfold chkS at hc
  split at hc
  case h_2 => exact absurd hc Bool.false_ne_true
  rename_i y yp z ap e cp pos
  have hcB : (decide (z = "pop") && visE N sc i y && (ap.endLine == cp.line) && chkE N l sc e) = true := hc
  rw [Bool.and_eq_true, Bool.and_eq_true, Bool.and_eq_true, decide_eq_true_eq] at hcB
  obtain ⟨⟨⟨rfl, hv⟩, hl⟩, hcM⟩ := hcB
  have pm := pe_m1 (cl := cl) (name := "pop") (yp := yp) x.toXOk PySem.F.slot_list_pop PySem.F.type_list_pop mt_popAt hv hl hcM hf hg
  refine ps_imp (ps_expr pm rfl) fun D σ H hn ⟨S, G, R, h⟩ => ?_
  rw [exS] at h
  split at h
  · rename_i ds hS
    obtain ⟨a, xs, q, ha, ga, ra⟩ := R.ev.sl i _ hS
    refine ⟨_, q, .inl ⟨rfl, _, SqL.of ha⟩, ?_⟩
    refine st_rd R h fun d kd v G1 H1 ev1 E1 r1 R1 h1 => ?_
    cases d <;> try exact False.elim h1
    rename_i z
    obtain rfl := r1.int
    dsimp only at h1
    split at h1
    · rename_i hz
      obtain ⟨z0, z1, z2⟩ := hz
      have hlx := ra.len
      have hlt : z.toNat < xs.length := by omega
      refine ⟨a, xs, z, z.toNat, xs[z.toNat], rfl, rfl, E1.h _ _ ha, by omega, by omega, PySem.StrLaws.seqIndex_nonneg z0 (by omega), List.getElem?_eq_getElem hlt, ?_⟩
      exact h1 σ G1 _ (R1.write hS q ((ra.mono E1.g).erase _))
    · exact False.elim h1
  · exact False.elim h
theorem s_spop (n j i : Nat) (l : ME) : SndS n (.spop j i l) := by
  intro X N sc cl W k G0 H0 st x hc hf hg _
  unfold chkS at hc
  split at hc
  case h_2 => exact absurd hc Bool.false_ne_true
  rename_i w wp y yp z ap e cp pos
  have hcB : (decide (z = "pop") && visE N sc i y && (ap.endLine == cp.line) && chkE N l sc e && locE N sc j w && decide (j ≠ i)) = true := hc
  rw [Bool.and_eq_true, Bool.and_eq_true, Bool.and_eq_true, Bool.and_eq_true, Bool.and_eq_true, decide_eq_true_eq, decide_eq_true_eq] at hcB
  obtain ⟨⟨⟨⟨⟨rfl, hv⟩, hl⟩, hcM⟩, hj⟩, hji⟩ := hcB
  obtain ⟨l1, l2, l3⟩ := locE_ok x.toXOk hj
  have pm := pe_m1 (cl := cl) (name := "pop") (yp := yp) x.toXOk PySem.F.slot_list_pop PySem.F.type_list_pop mt_popAt hv hl hcM hf hg
  refine ps_imp (ps_set x.nd l1 l2 pm rfl (.inl (x.fnT _))) fun D σ H hn ⟨S, G, R, h⟩ => ?_
  rw [exS] at h
  split at h
  · rename_i ds hS
    obtain ⟨a, xs, q, ha, ga, ra⟩ := R.ev.sl i _ hS
    refine ⟨_, q, .inl ⟨rfl, _, SqL.of ha⟩, ?_⟩
    refine st_rd R h fun d kd v G1 H1 ev1 E1 r1 R1 h1 => ?_
    cases d <;> try exact False.elim h1
    rename_i z
    obtain rfl := r1.int
    dsimp only at h1
    split at h1
    · rename_i hz
      obtain ⟨z0, z2⟩ := hz
      split at h1
      · rename_i d hd
        have hlx := ra.len
        have hlt : z.toNat < ds.length := (List.getElem?_eq_some_iff.mp hd).1
        obtain ⟨u, hu, ru⟩ := (ra.mono E1.g).get hd
        refine ⟨a, xs, z, z.toNat, u, rfl, rfl, E1.h _ _ ha, by omega, by omega, PySem.StrLaws.seqIndex_nonneg z0 (by omega), hu, ?_⟩
        exact h1 _ G1 _ ((R1.write hS q ((ra.mono E1.g).erase _)).setSh ru (by rw [hn]; exact l3))
      · exact False.elim h1
    · exact False.elim h1
  · exact False.elim h
theorem s_sto (n i : Nat) (l m : ME) : SndS n (.sto i l m) := by
  intro X N sc cl W k G0 H0 st x hc hf hg _
  unfold chkS at hc
  split at hc
  case h_2 => exact absurd hc Bool.false_ne_true
  rename_i y yp f sp e pos
  have hcB : (visE N sc i y && chkE N l sc f && chkE N m sc e) = true := hc
  rw [Bool.and_eq_true, Bool.and_eq_true] at hcB
  obtain ⟨⟨hv, hc1⟩, hc2⟩ := hcB
  obtain ⟨f1, f2⟩ := AllC.app (show AllC _ (callsE l ++ callsE m) from hf)
  obtain ⟨g1, g2⟩ := AllC.app (show AllC _ (glosE l ++ glosE m) from hg)
  obtain ⟨v1, v2, v3, v4⟩ := visE_ok x.toXOk hv
  have pl := (snd_all l X N sc cl W k f x.toXOk hc1 f1 g1).1
  have pm := (snd_all m X N sc cl W k e x.toXOk hc2 f2 g2).1
  have hst : ∀ v, assign (.Subscript (.Name y yp) f sp) X.env v = (do
      let ov ← holding [v] (eval (.Name y yp) X.env)
      let iv ← holding [v, ov] (eval f X.env)
      standAt sp
      holding [v, ov, iv] (setItem ov iv v)
      release [v, ov, iv] []) := by
    intro v
    cases f <;> first
      | rfl
      | (cases l <;> exact absurd hc1 Bool.false_ne_true)
  have hs : swapsWithSole [.Subscript (.Name y yp) f sp] e pos.line X.env = pure false := by
    cases e <;> rfl
  refine ps_imp (ps_asg pm (pg_sub (pe_var v1 v2 v3 v4) pl set_list hst) hs rfl rfl) fun D σ H hn ⟨S, G, R, h⟩ => ?_
  rw [exS] at h
  refine st_rd R h fun d kd v G1 H1 _ E1 r1 R1 h1 => ?_
  split at h1
  · exact False.elim h1
  · rename_i hk
    obtain ⟨G2, E2, s2, rp⟩ := r1.fix E1 hk
    have R2 := R.grow E2
    split at h1
    · rename_i ds hS
      obtain ⟨a, xs, q, ha, ga, ra⟩ := R2.ev.sl i _ hS
      refine ⟨_, q, ?_⟩
      refine st_rd R2 h1 fun d3 kd3 v3 G3 H3 ev3 E3 r3 R3 h3 => ?_
      cases d3 <;> try exact False.elim h3
      rename_i z
      obtain rfl := r3.int
      dsimp only at h3
      split at h3
      · rename_i j hj
        refine ⟨a, xs, z, j, rfl, rfl, E3.h _ _ ha, by rw [ra.len]; exact hj, ?_⟩
        exact h3 σ G3 _ (R3.write hS q ((ra.mono E3.g).set (rp.mono E3.g) _))
      · exact False.elim h3
    · exact False.elim h1
theorem s_ret (n : Nat) (m : ME) : SndS n (.ret m) := by
  intro X N sc cl W k G0 H0 st x hc hf hg _
  unfold chkS at hc
  split at hc
  case h_2 => exact absurd hc Bool.false_ne_true
  rename_i e pos
  have pm := (snd_all m X N sc cl W k e x.toXOk hc hf hg).1
  refine ps_imp (ps_ret pm) fun D σ H hn ⟨S, G, R, h⟩ => ?_
  rw [exS] at h
  refine st_rd R h fun d kd v G1 H1 _ E1 r1 R1 h1 => ?_
  cases kd with
  | bo => exact False.elim h1
  | sh => exact h1 v G1 H1 R1.ext r1
  | fr => exact h1 v G1 H1 R1.ext (VR.old R.ext.h r1)
theorem s_retL (n i : Nat) : SndS n (.retL i) := by
  intro X N sc cl W k G0 H0 st x hc hf hg _
  unfold chkS at hc
  split at hc
  case h_2 => exact absurd hc Bool.false_ne_true
  rename_i y yp pos
  obtain ⟨v1, v2, v3, v4⟩ := visE_ok x.toXOk (show visE N sc i y = true from hc)
  refine ps_imp (ps_ret (pe_var v1 v2 v3 v4)) fun D σ H hn ⟨S, G, R, h⟩ => ?_
  rw [exS] at h
  split at h
  · rename_i ds hS
    obtain ⟨a, xs, q, ha, ga, ra⟩ := R.ev.sl i _ hS
    exact ⟨_, q, h _ G H R.ext (.inl ⟨a, xs, ds, rfl, rfl, R.own i a ds hS q, ha, ga, ra⟩)⟩
  · exact False.elim h
theorem s_ret2 (n i j : Nat) : SndS n (.ret2 i j) := by
  intro X N sc cl W k G0 H0 st x hc hf hg _
  unfold chkS at hc
  split at hc
  case h_2 => exact absurd hc Bool.false_ne_true
  rename_i y yp z zp c tp pos
  rw [Bool.and_eq_true] at hc
  obtain ⟨v1, v2, v3, v4⟩ := visE_ok x.toXOk hc.1
  obtain ⟨w1, w2, w3, w4⟩ := visE_ok x.toXOk hc.2
  refine ps_imp (ps_ret (pe_tup (pa_cons (pe_var v1 v2 v3 v4) (pa_cons (pe_var w1 w2 w3 w4) pa_nil rfl) rfl))) fun D σ H hn ⟨S, G, R, h⟩ => ?_
  rw [exS] at h
  split at h
  · rename_i ds es hi hj
    split at h
    · exact False.elim h
    · rename_i hij
      obtain ⟨a, xs, q1, ha, ga, ra⟩ := R.ev.sl i _ hi
      obtain ⟨b, ys, q2, hb, gb, rb⟩ := R.ev.sl j _ hj
      refine ⟨_, q1, _, q2, by rw [szl]; show 2 ≤ _; decide, fun t ht => ?_⟩
      have nab : b ≠ a := fun e => by
        subst e
        exact R.dis i j b ds es hij hi hj q1 q2
      have h0a := R.own i a ds hi q1
      have h0b := R.own j b es hj q2
      have nat_ : a ≠ t := ne_of_none ha ht
      have nbt : b ≠ t := ne_of_none hb ht
      have E1 := R.ext.freeze h0a ha ga
      have g1 : upd G a (.lst xs) b = none := by rw [upd_ne nab]; exact gb
      have E2 := E1.freeze h0b hb g1
      have g2 : upd (upd G a (.lst xs)) b (.lst ys) t = none := by rw [upd_ne nbt.symm, upd_ne nat_.symm]; exact R.sub.free ht
      have E3 := E2.trans (Ext.newG (p := t) (o := .tup [.ref a, .ref b]) E2.sub ht)
      have s1 : Same G (upd (upd (upd G a (.lst xs)) b (.lst ys)) t (.tup [.ref a, .ref b])) := ((same_upd ga _).trans (same_upd g1 _)).trans (same_upd g2 _)
      refine h _ _ _ E3 (.inr (.inl ⟨t, a, b, ds, es, rfl, rfl, R.ext.h.free ht, h0a, h0b, upd_same, .lst (xs := xs) ?_ (ra.mono s1), .lst (xs := ys) ?_ (rb.mono s1)⟩))
      · rw [upd_ne nat_, upd_ne nab.symm, upd_same]
      · rw [upd_ne nbt, upd_same]
  · exact False.elim h
/-- a new tuple of something and a new list -/
theorem fr3_ret {K : PySem.W.Frag} {G0 H0 G H : Hp} {q t : Addr} {xs : List V} {ds : List D} {u : V} {x : D} (e : Ext G0 H0 G H) (h0 : H0 q = none) (hq : H q = some (.lst xs)) (gq : G q = none) (ra : RepL K G xs ds) (ru : Rep K G u x) (nx : ∀ es, x ≠ .lst es) (ht : H t = none) :
    ∃ G', Ext G0 H0 G' (upd H t (.tup [u, .ref q])) ∧ Fr2 K H0 G' (.ref t) (.tup [x, .lst ds]) := by
  have nqt : q ≠ t := ne_of_none hq ht
  have E1 := e.freeze h0 hq gq
  have g2 : upd G q (.lst xs) t = none := by rw [upd_ne nqt.symm]; exact e.sub.free ht
  have E2 := E1.trans (Ext.newG (p := t) (o := .tup [u, .ref q]) E1.sub ht)
  refine ⟨_, E2, .inr ⟨t, q, xs, ds, x, u, G, rfl, rfl, nx, e.h.free ht, h0, upd_same, ?_, gq, (same_upd gq _).trans (same_upd g2 _), fun b o z w => ?_, ra, ru⟩⟩
  · rw [upd_ne nqt, upd_same]
  · by_cases z1 : b = t
    · subst z1
      exact e.h.free ht
    · rw [upd_ne z1] at z
      by_cases z2 : b = q
      · subst z2
        exact h0
      · rw [upd_ne z2, w] at z
        cases z
theorem s_retT (n : Nat) (m l : ME) : SndS n (.retT m l) := by
  intro X N sc cl W k G0 H0 st x hc hf hg _
  unfold chkS at hc
  split at hc
  case h_2 => exact absurd hc Bool.false_ne_true
  rename_i e f c tp pos
  rw [Bool.and_eq_true] at hc
  obtain ⟨f1, f2⟩ := AllC.app (show AllC _ (callsE m ++ callsE l) from hf)
  obtain ⟨g1, g2⟩ := AllC.app (show AllC _ (glosE m ++ glosE l) from hg)
  have pm := (snd_all m X N sc cl W k e x.toXOk hc.1 f1 g1).1
  have pl := (snd_all l X N sc cl W k f x.toXOk hc.2 f2 g2).1
  have st2 : starEach [f] X.env = (false, eval f X.env) :: starEach [] X.env := chk_star hc.2
  have st1 : starEach [e, f] X.env = (false, eval e X.env) :: starEach [f] X.env := chk_star hc.1
  refine ps_imp (ps_ret (pe_tup (pa_cons pm (pa_cons pl pa_nil st2) st1))) fun D σ H hn ⟨S, G, R, h⟩ => ?_
  rw [exS] at h
  refine st_rd R h fun d kd v G1 H1 _ E1 r1 R1 h1 => ?_
  split at h1
  · exact False.elim h1
  rename_i hno
  rw [not_or] at hno
  have nl := isLst_no (Bool.eq_false_iff.mpr hno.2)
  have rv := r1.rep nl
  refine st_rd R1 h1 fun d2 kd2 v2 G2 H2 _ E2 r2 R2 h2 => ?_
  split at h2
  · rename_i ds hds
    cases hds
    rcases r2 with ⟨q, xs, ds', rfl, e2, h0, hq, gq, ra⟩ | r2
    rotate_left
    · exact r2.nolst.elim
    cases e2
    refine ⟨by rw [szl]; show 2 ≤ _; decide, fun t ht => ?_⟩
    obtain ⟨G', E', F⟩ := fr3_ret (t := t) R2.ext (R1.ext.h.free h0) hq gq ra (rv.mono E2.g) nl ht
    exact h2 _ G' _ E' (.inr F)
  · exact False.elim h2
theorem s_retO (n : Nat) (m : ME) (i : Nat) : SndS n (.retO m i) := by
  intro X N sc cl W k G0 H0 st x hc hf hg _
  unfold chkS at hc
  split at hc
  case h_2 => exact absurd hc Bool.false_ne_true
  rename_i e y yp z ap c tp pos
  rw [Bool.and_eq_true, Bool.and_eq_true, decide_eq_true_eq] at hc
  obtain ⟨⟨hc1, hc2⟩, rfl⟩ := hc
  obtain ⟨v1, v2, v3, v4⟩ := visE_ok x.toXOk hc2
  have pm := (snd_all m X N sc cl W k e x.toXOk hc1 hf hg).1
  have st1 : starEach [e, .Attribute (.Name y yp) "rows" ap] X.env = (false, eval e X.env) :: starEach [.Attribute (.Name y yp) "rows" ap] X.env := chk_star hc1
  refine ps_imp (ps_ret (pe_tup (pa_cons pm (pa_cons (pe_fld (pe_var v1 v2 v3 v4) rfl) pa_nil rfl) st1))) fun D σ H hn ⟨S, G, R, h⟩ => ?_
  rw [exS] at h
  split at h
  case h_2 => exact False.elim h
  rename_i rows cls hS
  refine st_rd R h fun d kd v G1 H1 _ E1 r1 R1 h1 => ?_
  split at h1
  · exact False.elim h1
  rename_i hno
  rw [not_or] at hno
  have nl := isLst_no (Bool.eq_false_iff.mpr hno.2)
  have rv := r1.rep nl
  obtain ⟨C, a, dx, r, cc, xs, ys, hC, hσ, ha, hr, hcl, ga, gr, gc, rc, ra, rb⟩ := R1.ev.sl i _ hS
  obtain ⟨r', c', y1, h0a, h0r, h0c⟩ := R1.obo i a rows cls hS hσ
  obtain ⟨e1, e2⟩ := y1.uniq ⟨C, dx, ha⟩
  subst e1 e2
  refine ⟨_, hσ, _, _, _, _, _, rfl, ha, hC.cl, hC.nR, spF_rows _ _, ?_⟩
  refine ⟨by rw [szl]; show 2 ≤ _; decide, fun t ht => ?_⟩
  obtain ⟨G', E', F⟩ := fr3_ret (t := t) R1.ext h0r hr gr ra rv nl ht
  exact h1 _ G' _ E' (.inr F)
theorem s_exp (n : Nat) (m : ME) : SndS n (.exp m) := by
  intro X N sc cl W k G0 H0 st x hc hf hg _
  unfold chkS at hc
  split at hc
  case h_2 => exact absurd hc Bool.false_ne_true
  rename_i e pos
  have hcB : (isCall e && chkE N m sc e) = true := hc
  rw [Bool.and_eq_true] at hcB
  have pm := (snd_all m X N sc cl W k e x.toXOk hcB.2 hf hg).1
  refine ps_imp (ps_expr pm (exp_hs hcB.1)) fun D σ H hn ⟨S, G, R, h⟩ => ?_
  rw [exS] at h
  refine st_rd R h fun d kd v G1 H1 _ E1 r1 R1 h1 => ?_
  exact h1 σ G1 H1 R1
theorem s_rais (n : Nat) (c : Str) : SndS n (.rais c) := by
  intro X N sc cl W k G0 H0 st x hc hf hg hx
  unfold chkS at hc
  split at hc
  case h_2 => exact absurd hc Bool.false_ne_true
  rename_i y yp z j p2 cp pos
  have hcB : (decide (y = c) && glE sc y) = true := hc
  rw [Bool.and_eq_true, decide_eq_true_eq] at hcB
  obtain ⟨rfl, hcM⟩ := hcB
  obtain ⟨g1, g2⟩ := glE_ok x.toXOk hcM
  obtain ⟨C, e1, m1, m2, m3, m4, m5⟩ := (show AllC (GoodEx X.K X.mg cl) [.rais y] from hx).1
  refine ps_imp (ps_raise x.calm x.tk (pmk_own PySem.F.excBase_ValueError m2 m1 m3 (raises_own m4 m5) g1 g2)) fun D σ H hn ⟨S, G, R, h⟩ => ?_
  rw [exS] at h
  have z := h σ G H R
  rw [e1] at z
  exact z

/-! ### try -/
theorem tabAt_good {α : Type} {P : Str × List Bool → Prop} {c : Str} {bs : List Bool} : ∀ {tab : List (Str × List Bool)}, AllC P tab → tabAt tab c = some bs → P (c, bs)
  | [], _, h => by cases h
  | p :: ps, h, e => by
    unfold tabAt at e
    split at e
    · rename_i hc
      cases e
      subst hc
      exact h.1
    · exact tabAt_good (α := α) h.2 e
theorem reps_bl {K : PySem.W.Frag} {G : Hp} : ∀ bs : List Bool, RepL K G (bs.map V.bl) (bs.map D.bl)
  | [] => .nil
  | b :: bs => .cons (.bl b) (reps_bl bs)
theorem SOk.tr {X : Cx} {N : List Str} {sc : Scope} {W : WX} {k : Nat} (x : SOk X N sc W k) {W' : WX} {pn : List (Addr × Obj)} {xe : Value → Shared → Prop} (tk : Takes (X.tr pn xe) W') (po : PassesOwn (model X.prog X.w) X.A X.env xe) : SOk (X.tr pn xe) N sc W' k :=
  { hN := x.hN, sc := x.sc, calm := x.calm, nd := x.nd, room := x.room, tk := tk, blt := x.blt, top := fun _ => .inr ⟨x.stk, x.frm⟩, fnT := x.fnT, own := po, kindF := x.kindF, stk := x.stk, frm := x.frm }
theorem boot_VE : bootBuiltins ("ValueError" : Str) = some (.type "ValueError") := by decide +kernel
/-- isinstance(e, C), .. of the exception at a -/
theorem pa_is {X : Cx} {N : List Str} {sc : Scope} {W : WX} {k : Nat} (x : XOk X N sc W k) {Y : Cx} (hY : Y.N = X.N ∧ Y.env = X.env ∧ Y.mg = X.mg) {A a : Addr} {i : Nat} (isE : CallR Y (.builtin "isinstance") (rIsE Y.K A a)) :
    ∀ {cs : List Str} {es : List Expr} {bs : List Bool}, isChk N sc i cs es = true → KitAll Y.K X.mg A cs bs → ∃ t : TA, PA Y es t ∧ ∀ σ H Q, σ[i]? = some (some (.ref a)) → Q (bs.map V.bl) H → t σ H Q
  | [], [], [], _, _ => ⟨tNil, pa_nil, fun σ H Q _ q => q⟩
  | [], [], _ :: _, _, h => False.elim h
  | c :: cs, [], _, h, _ => by unfold isChk at h; cases h
  | [], _ :: _, _, h, _ => by unfold isChk at h; cases h
  | c :: cs, e :: es, [], _, h => False.elim h
  | c :: cs, e :: es, b :: bs, h, hk => by
    unfold isChk at h
    split at h
    case h_1 hx _ => cases hx
    case h_3 => cases h
    rename_i c' cs' y yp nm np z zp pos es' e1 e2
    cases e1
    cases e2
    simp only [Bool.and_eq_true, decide_eq_true_eq] at h
    obtain ⟨⟨⟨⟨⟨rfl, g1⟩, v1⟩, rfl⟩, g2⟩, h⟩ := h
    obtain ⟨⟨v, u, nc, kk⟩, hk⟩ := hk
    obtain ⟨t, p, q⟩ := pa_is x hY isE h hk
    obtain ⟨gl1, gl2⟩ := glE_ok x g1
    obtain ⟨gt1, gt2⟩ := glE_ok x g2
    obtain ⟨w1, w2, w3, w4⟩ := visE_ok x v1
    obtain ⟨y1, y2, y3⟩ := hY
    have gl1' : Gl Y ("isinstance" : Str) := by unfold Gl; rw [y2]; exact gl1
    have gt1' : Gl Y z := by unfold Gl; rw [y2]; exact gt1
    have pv : PE Y (.Name nm np) (tVar i) := pe_var (by rw [y1]; exact w1) (by rw [y2]; exact w2) w3 w4
    have hmi : Y.mg "isinstance" = none := by rw [y3]; exact x.blt.isi
    have pc : PE Y (.Name z zp) (tC v) := by
      rcases nc with ⟨C, m1, m2, m3⟩ | ⟨e, m1, m2, m3⟩
      · subst m2
        exact pe_glob gt1' (by rw [y3]; exact m1) rfl gt2
      · subst e m2
        exact pe_bltn gt1' (by rw [y3]; exact m1) boot_VE rfl (by decide +kernel) gt2
    have hv : ∀ u', RelV v u' → u' = u := fun u' r => by
      rcases nc with ⟨C, m1, m2, m3⟩ | ⟨e, m1, m2, m3⟩
      · subst m2 m3; exact r
      · subst m2 m3; exact r
    have pcall := pe_callB (pos := pos) (p := yp) isE gl1' hmi (by decide +kernel) (pa_cons pv (pa_cons pc pa_nil)) (by decide +kernel) gl2 rfl rfl
    refine ⟨_, pa_cons pcall p rfl, fun σ H Q hi hq => ?_⟩
    exact ⟨_, hi, v, u, b, rfl, hv, kk, q σ H _ hi hq⟩
theorem kit_len {K : PySem.W.Frag} {mg : Str → Option Value} {A : Addr} : ∀ {cs : List Str} {bs : List Bool}, KitAll K mg A cs bs → bs.length = cs.length
  | [], [], _ => rfl
  | [], _ :: _, h => False.elim h
  | _ :: _, [], h => False.elim h
  | _ :: _, _ :: _, h => by rw [List.length_cons, List.length_cons, kit_len h.2]
theorem s_tryI (n : Nat) (Kn : Str) (i j : Nat) (cs : List Str) (tab : List (Str × List Bool)) {b : List MS} (ib : SndSs n b) : SndS n (.tryI b Kn i j cs tab) := by
  intro X N sc cl W k G0 H0 st x hc hf hg hx
  unfold chkS at hc
  split at hc
  case h_2 => exact absurd hc Bool.false_ne_true
  rename_i body y yp e z zp es lp ap hp pos
  simp only [Bool.and_eq_true, decide_eq_true_eq] at hc
  obtain ⟨⟨⟨⟨⟨⟨⟨⟨rfl, hgl⟩, hi⟩, hloc⟩, hj⟩, hij⟩, hcl⟩, his⟩, hcb⟩ := hc
  obtain ⟨⟨cK, mK, tri⟩, hx1⟩ := (show GoodEx X.K X.mg cl (.tri y cs tab) ∧ AllC _ (excsSs b) from hx)
  obtain ⟨gl1, gl2⟩ := glE_ok x.toXOk hgl
  obtain ⟨l1, l2, l3⟩ := locE_ok x.toXOk hj
  have hiX : X.N[i]? = some e := by rw [x.hN]; exact hi
  have hln : X.env.kindOf e = some .local := by
    show X.env.scope.names.lookup e = _
    rw [x.sc]; exact hloc
  let ts : Addr → Value → Option Addr → TS := fun a cls d D σ H => ∃ (bs : List Bool) (A : Addr), cls = .ref A ∧ d = none ∧ ExcC X.K A ∧ KitAll X.K X.mg A cs bs ∧ σ[i]? = some (some (.ref a)) ∧ (bs.length ≤ 1000) ∧ ∀ p, H p = none → D.nx (σ.set j (some (.ref p))) (upd H p (.lst (bs.map V.bl)))
  have ps := ps_try_as (pos := pos) (pos' := hp) (np := yp) x.stk x.frm x.nd hiX hln ⟨gl1, gl2, .inl mK⟩ x.tk (tb := fun W' => rdSs X.K cl W' G0 H0 n b) (ts := ts)
    (fun W' pn xe tk po => ib (X.tr pn xe) N sc cl W' k G0 H0 body (x.tr tk po) hcb hf hg hx1)
    (b₀ := .Assign [.Name z zp] (.List es lp) ap) (suite := []) (fun a oe cls d pn hz hfl => ⟨fun pins s σ H D I q => by
      obtain ⟨bs, A, e1, e2, hC, hk, hia, hbl, q⟩ := q
      subst e1 e2
      obtain ⟨t, p, rd⟩ := pa_is x.toXOk (Y := X.suite a ((a, oe) :: pn)) ⟨rfl, rfl, rfl⟩ (call_isE hC hz hfl) his hk
      refine (pss_one (ps_set (X := X.suite a ((a, oe) :: pn)) (pos := ap) (pos' := zp) x.nd l1 l2 (pe_lst p) rfl (.inl (x.fnT _)))).run pins s σ H D I ?_
      refine rd σ H _ hia ⟨by rw [List.length_map, szl]; omega, fun p hp => q p hp⟩⟩)
  refine ps_imp ps fun D σ H hn ⟨S, G, R, h⟩ => ?_
  rw [exS] at h
  refine ⟨S, G, R, ?_⟩
  cases ev : exSs n b S with
  | nx S2 => rw [ev] at h; exact h
  | ret d fr => rw [ev] at h; exact h
  | stuck => rw [ev] at h; exact h
  | exc c S1 =>
    rw [ev] at h
    dsimp only at h
    split at h
    · rename_i bs hbs
      split at h
      · rename_i hlen
        intro σ1 G1 H1 R1
        obtain ⟨A, e1, e2, e3, e4⟩ := tabAt_good (α := Unit) tri hbs
        have hi1 : i < σ1.length := by
          rw [← R1.ev.len, hlen, R.ev.len, hn]
          exact (List.getElem?_eq_some_iff.mp hiX).1
        have hj1 : j < σ1.length := by rw [← R1.ev.len, hlen, R.ev.len, hn]; exact l3
        refine ⟨true, by rw [e1]; exact e2, fun _ a ha => ⟨bs, A, e1, rfl, e3, e4, List.getElem?_set_self hi1, (by have hz : bs.length = cs.length := kit_len e4; omega), fun p hp => ?_⟩, fun z => by cases z⟩
        have R2 := (R1.setNo i none).grow (Ext.newG (p := p) (o := .lst (bs.map V.bl)) R1.sub hp)
        have R3 := R2.setSh (i := j) (v := .ref p) (d := .lst (bs.map MP.D.bl)) (.lst upd_same (reps_bl bs)) (by rw [List.length_set]; exact hj1)
        have e5 : (((σ1.set i (some (.ref a))).set j (some (.ref p))).set i none) = (σ1.set i none).set j (some (.ref p)) := by
          rw [List.set_comm _ _ (fun z => hij z.symm), List.set_set]
        show D.nx (((σ1.set i (some (.ref a))).set j (some (.ref p))).set i none) _
        rw [e5]
        exact h _ _ _ R3
      · exact False.elim h
    · exact False.elim h
theorem s_tryS (n : Nat) (Kn : Str) (j : Nat) (v : Bool) (tab : List (Str × List Bool)) {b : List MS} (ib : SndSs n b) : SndS n (.tryS b Kn j v tab) := by
  intro X N sc cl W k G0 H0 st x hc hf hg hx
  unfold chkS at hc
  split at hc
  case h_2 => exact absurd hc Bool.false_ne_true
  rename_i body y yp z zp u cj cp ap hp pos
  simp only [Bool.and_eq_true, decide_eq_true_eq] at hc
  obtain ⟨⟨⟨⟨rfl, hgl⟩, hj⟩, rfl⟩, hcb⟩ := hc
  obtain ⟨⟨cK, mK, tri⟩, hx1⟩ := (show GoodEx X.K X.mg cl (.tri y [] tab) ∧ AllC _ (excsSs b) from hx)
  obtain ⟨gl1, gl2⟩ := glE_ok x.toXOk hgl
  obtain ⟨l1, l2, l3⟩ := locE_ok x.toXOk hj
  have ps := ps_try_only (pos := pos) (pos' := hp) (np := yp) x.stk x.frm ⟨gl1, gl2, .inl mK⟩ x.tk (tb := fun W' => rdSs X.K cl W' G0 H0 n b) (ts := fun a cls d D σ H => D.nx (σ.set j (some (.bl u))) H)
    (fun W' pn xe tk po => ib (X.tr pn xe) N sc cl W' k G0 H0 body (x.tr tk po) hcb hf hg hx1)
    (b₀ := .Assign [.Name z zp] (.Constant (.bool u) cj cp) ap) (suite := []) (fun a oe cls d pn hz hfl => pss_one (ps_set (X := X.suite a ((a, oe) :: pn)) (pos := ap) (pos' := zp) x.nd l1 l2 pe_bl rfl (.inl (x.fnT _))))
  refine ps_imp ps fun D σ H hn ⟨S, G, R, h⟩ => ?_
  rw [exS] at h
  refine ⟨S, G, R, ?_⟩
  cases ev : exSs n b S with
  | nx S2 => rw [ev] at h; exact h
  | ret d fr => rw [ev] at h; exact h
  | stuck => rw [ev] at h; exact h
  | exc c S1 =>
    rw [ev] at h
    dsimp only at h
    split at h
    · rename_i bs hbs
      split at h
      · rename_i hlen
        intro σ1 G1 H1 R1
        obtain ⟨A, e1, e2, e3, e4⟩ := tabAt_good (α := Unit) tri hbs
        have hj1 : j < σ1.length := by rw [← R1.ev.len, hlen, R.ev.len, hn]; exact l3
        exact ⟨true, by rw [e1]; exact e2, fun _ a ha => h _ _ _ (R1.setSh (.bl u) hj1), fun z => by cases z⟩
      · exact False.elim h
    · exact False.elim h

theorem s_tryR (n : Nat) (Kn : Str) {b : List MS} (ib : SndSs n b) : SndS n (.tryR b Kn) := by
  intro X N sc cl W k G0 H0 st x hc hf hg hx
  unfold chkS at hc
  split at hc
  case h_2 => exact absurd hc Bool.false_ne_true
  rename_i body y yp b0 suite hp pos
  simp only [Bool.and_eq_true, decide_eq_true_eq] at hc
  obtain ⟨⟨rfl, hgl⟩, hcb⟩ := hc
  obtain ⟨⟨cK, mK, tri⟩, hx1⟩ := (show GoodEx X.K X.mg cl (.tri y [] []) ∧ AllC _ (excsSs b) from hx)
  obtain ⟨gl1, gl2⟩ := glE_ok x.toXOk hgl
  have ps := ps_try_only (pos := pos) (pos' := hp) (np := yp) x.stk x.frm ⟨gl1, gl2, .inl mK⟩ x.tk (tb := fun W' => rdSs X.K cl W' G0 H0 n b) (ts := fun a cls d D σ H => False)
    (fun W' pn xe tk po => ib (X.tr pn xe) N sc cl W' k G0 H0 body (x.tr tk po) hcb hf hg hx1)
    (b₀ := b0) (suite := suite) (fun a oe cls d pn hz hfl => ⟨fun _ _ _ _ _ _ h => h.elim⟩)
  refine ps_imp ps fun D σ H hn ⟨S, G, R, h⟩ => ?_
  rw [exS] at h
  refine ⟨S, G, R, ?_⟩
  cases ev : exSs n b S with
  | nx S2 => rw [ev] at h; exact h
  | ret d fr => rw [ev] at h; exact h
  | stuck => rw [ev] at h; exact h
  | exc c S1 => rw [ev] at h; exact False.elim h

/-! ### blocks -/
def rdB (K : PySem.W.Frag) (cl : Str → Value) (W : WX) (n : Nat) (ms : List MS) : TS := fun D σ H => ∃ G0 H0, rdSs K cl W G0 H0 n ms D σ H
theorem s_ife (n : Nat) {c : ME} {a b : List MS} (ia : SndSs n a) (ib : SndSs n b) : SndS n (.ife c a b) := by
  intro X N sc cl W k G0 H0 st x hc hf hg hx
  unfold chkS at hc
  split at hc
  case h_2 => exact absurd hc Bool.false_ne_true
  rename_i t p q pos
  have hcB : (chkE N c sc t && chkSs N a sc p && chkSs N b sc q) = true := hc
  rw [Bool.and_eq_true, Bool.and_eq_true] at hcB
  obtain ⟨f0, f⟩ := AllC.app (show AllC _ (callsE c ++ (callsSs a ++ callsSs b)) from hf)
  obtain ⟨f1, f2⟩ := AllC.app f
  obtain ⟨g0, g⟩ := AllC.app (show AllC _ (glosE c ++ (glosSs a ++ glosSs b)) from hg)
  obtain ⟨g1, g2⟩ := AllC.app g
  obtain ⟨x1, x2⟩ := AllC.app (show AllC _ (excsSs a ++ excsSs b) from hx)
  have pc := (snd_all c X N sc cl W k t x.toXOk hcB.1.1 f0 g0).2.1
  have pa := ia X N sc cl W k G0 H0 p x hcB.1.2 f1 g1 x1
  have pb := ib X N sc cl W k G0 H0 q x hcB.2 f2 g2 x2
  refine ps_imp (ps_if pc pa pb) fun D σ H hn ⟨S, G, R, h⟩ => ?_
  rw [exS] at h
  refine st_rdT R h (fun d k z => by cases d <;> first | rfl | exact absurd rfl (z _)) fun bb kk G1 H1 R1 h1 => ?_
  cases bb with
  | true => exact iteT ⟨S, G1, R1, h1⟩
  | false => exact iteF ⟨S, G1, R1, h1⟩
theorem s_whil (n : Nat) {c : ME} {b : List MS} (ib : SndSs n b) : SndS n (.whil c b) := by
  intro X N sc cl W k G0 H0 st x hc hf hg hx
  unfold chkS at hc
  split at hc
  case h_2 => exact absurd hc Bool.false_ne_true
  rename_i t p pos
  have hcB : (chkE N c sc t && chkSs N b sc p) = true := hc
  rw [Bool.and_eq_true] at hcB
  obtain ⟨f0, f1⟩ := AllC.app (show AllC _ (callsE c ++ callsSs b) from hf)
  obtain ⟨g0, g1⟩ := AllC.app (show AllC _ (glosE c ++ glosSs b) from hg)
  have pc := (snd_all c X N sc cl W k t x.toXOk hcB.1 f0 g0).2.1
  have pb := ib X N sc cl W k G0 H0 p x hcB.2 f1 g1 hx
  refine ps_imp (ps_while x.own pc pb) fun D σ H hn ⟨S, G, R, h⟩ => ?_
  rw [exS] at h
  refine ⟨fun m σ H => ∃ S G, StRel X.K G0 H0 S σ G H ∧ Ks X.K cl W G0 H0 (whileL (evE c) (exSs n b) m S) D, ⟨n, S, G, R, h⟩, ?_⟩
  rintro m σ H ⟨S, G, R, h⟩
  cases m with
  | zero => exact False.elim h
  | succ m =>
    rw [whileL] at h
    refine st_rdT R h (fun d k z => by cases d <;> first | rfl | exact absurd rfl (z _)) fun bb kk G1 H1 R1 h1 => ?_
    cases bb with
    | false => exact iteF (h1 σ G1 H1 R1)
    | true =>
      refine iteT ⟨fun σ' H' => ∃ S G, StRel X.K G0 H0 S σ' G H' ∧ Ks X.K cl W G0 H0 (whileL (evE c) (exSs n b) m S) D, fun σ' H' z => ⟨m, Nat.lt_succ_self _, z⟩, S, G1, R1, ?_⟩
      dsimp only at h1
      cases e : exSs n b S with
      | nx S2 =>
        rw [e] at h1
        exact fun σ' G' H' R' => ⟨S2, G', R', h1⟩
      | ret d fr => rw [e] at h1; exact h1
      | exc c S2 => rw [e] at h1; exact h1
      | stuck => rw [e] at h1; exact h1
/-- another entry: all that was plain at some moment -/
def ent (H0 G1 : Hp) : Hp := fun b => match G1 b with
  | some o => some o
  | none => H0 b
section
variable {K : PySem.W.Frag} {G0 H0 G1 H1 G H : Hp} {S : List SV} {σ : L2.St}
theorem ent_none {b : Addr} (h : ent H0 G1 b = none) : G1 b = none ∧ H0 b = none := by
  unfold ent at h
  split at h
  · cases h
  · rename_i e
    exact ⟨e, h⟩
theorem ext_in (e0 : Ext G0 H0 G1 H1) (e : Ext G0 H0 G H) (s : Same G1 G) : Ext G1 (ent H0 G1) G H := ⟨s, fun b o q => by
  unfold ent at q
  split at q
  · rename_i u eu
    cases q
    exact e.sub _ _ (s _ _ eu)
  · exact e.h _ _ q, e.sub, fun b o q n => by
  unfold ent
  rw [n]
  cases z : G0 b with
  | some u =>
    have y := e0.g b u z
    rw [n] at y
    cases y
  | none => exact e.new b o q z⟩
theorem ext_out (e0 : Ext G0 H0 G1 H1) (e : Ext G1 (ent H0 G1) G H) : Ext G0 H0 G H := ⟨e0.g.trans e.g, fun b o q => e.h b o (by
  unfold ent
  split
  · rename_i u eu
    have y := e0.h b o q
    have z := e0.sub b u eu
    rw [y] at z
    exact z.symm
  · exact q), e.sub, fun b o q n => by
  cases z : G1 b with
  | some u => exact e0.new b u z n
  | none => exact (ent_none (e.new b o q z)).2⟩
theorem StRel.into (e0 : Ext G0 H0 G1 H1) (R : StRel K G0 H0 S σ G H) (s : Same G1 G) : StRel K G1 (ent H0 G1) S σ G H := ⟨R.ev, ext_in e0 R.ext s, fun i a ds h q => by
  obtain ⟨b, xs, z1, z2, z3, z4⟩ := R.ev.sl i _ h
  rw [q] at z1
  cases z1
  unfold ent
  rw [s.free z3]
  exact R.own i a ds h q, R.dis, fun i a rows cl h q => by
  obtain ⟨C, b, dx, r, c, xs, ys, z0, z1, z2, z3, z4, z5, z6, z7, z8⟩ := R.ev.sl i _ h
  rw [q] at z1
  cases z1
  obtain ⟨r', c', y1, y2, y3, y4⟩ := R.obo i a rows cl h q
  obtain ⟨e1, e2⟩ := y1.uniq ⟨C, dx, z2⟩
  subst e1 e2
  refine ⟨_, _, y1, ?_, ?_, ?_⟩
  · unfold ent; rw [s.free z5]; exact y2
  · unfold ent; rw [s.free z6]; exact y3
  · unfold ent; rw [s.free z7]; exact y4, R.obd, R.obu, fun i n d h => by
  obtain ⟨A, v, q, ow, f, dj⟩ := R.dpo i n d h
  refine ⟨A, v, q, ow, fun b hb => ?_, dj⟩
  unfold ent
  rw [s.free (ow.dom b hb).2]
  exact f b hb, R.dpu⟩
theorem StRel.outof (e0 : Ext G0 H0 G1 H1) (R : StRel K G1 (ent H0 G1) S σ G H) : StRel K G0 H0 S σ G H ∧ Same G1 G := ⟨⟨R.ev, ext_out e0 R.ext, fun i a ds h q => (ent_none (R.own i a ds h q)).2, R.dis, fun i a rows cl h q => by
  obtain ⟨r, c, y1, y2, y3, y4⟩ := R.obo i a rows cl h q
  exact ⟨r, c, y1, (ent_none y2).2, (ent_none y3).2, (ent_none y4).2⟩, R.obd, R.obu, fun i n d h => by
  obtain ⟨A, v, q, ow, f, dj⟩ := R.dpo i n d h
  exact ⟨A, v, q, ow, fun b hb => (ent_none (f b hb)).2, dj⟩, R.dpu⟩, R.ext.g⟩
end
/-- the core of a for -/
theorem for_core {X : Cx} {cl : Str → Value} {W : WX} {n : Nat} {b : List MS} {En : Ends} {G0 H0 G1 H1 : Hp} {S : List SV} {σ : L2.St} {J : It} {vs : List V} {tg : List SV → D → Option (List SV)} {g : TG} {ds : List D}
    (hg : ∀ (S S' : List SV) (σ : L2.St) (G H : Hp) (v : V) (d : D) (Q : L2.St → Hp → Prop), StRel X.K G0 H0 S σ G H → S.length = X.N.length → Rep X.K G v d → tg S d = some S' → (∀ σ', StRel X.K G0 H0 S' σ' G H → S'.length = X.N.length → Q σ' H) → g v σ H Q)
    (hb : ∀ (S S' : List SV), S.length = X.N.length → exSs n b S = .nx S' → S'.length = X.N.length)
    (R : StRel X.K G0 H0 S σ G1 H1) (hn : S.length = X.N.length) (w : WalkOk J G1 vs) (rp : RepL X.K G1 vs ds) (h : Ks X.K cl W G0 H0 (forL (exSs n b) tg ds S) En) :
    ∃ Wv : Nat → Nat → L2.St → Hp → Prop, (∃ m, Wv 0 m σ H1) ∧ ∀ i m σ H, Wv i m σ H →
      (J.stop i H ∧ En.nx σ H) ∨ (J.go i H ∧ ∃ Nn : L2.St → Hp → Prop, (∀ σ' H', Nn σ' H' → ∃ m', m' < m ∧ Wv (i + 1) m' σ' H') ∧ ∀ x H', J.yld i H x H' → g x σ H' fun σ2 H2 => rdB X.K cl W n b { En with nx := Nn, ct := Nn, bk := En.nx } σ2 H2) := by
  have e0 := R.ext
  let P : Nat → L2.St → Hp → Prop := fun i σ H => ∃ S G, StRel X.K G0 H0 S σ G H ∧ S.length = X.N.length ∧ Same G1 G ∧ Ks X.K cl W G0 H0 (forL (exSs n b) tg (ds.drop i) S) En
  refine ⟨fun i m σ H => m = vs.length - i ∧ i ≤ vs.length ∧ P i σ H, ⟨vs.length, by simp, Nat.zero_le _, S, G1, R, hn, Same.refl _, h⟩, ?_⟩
  rintro i m σ H ⟨rfl, hi, S, G, R, hn, sG, h⟩
  have s1 : Same G1 H := sG.trans R.sub
  by_cases hlt : i < vs.length
  · refine .inr ⟨w.1 i H s1 hlt, P (i + 1), fun σ' H' p => ⟨vs.length - (i + 1), by omega, rfl, hlt, p⟩, fun x H' y => ?_⟩
    obtain ⟨e3, hx⟩ := w.2.2 i H x H' s1 hlt y
    subst e3
    have hln : i < ds.length := by rw [← rp.len]; exact hlt
    have hdr : ds.drop i = ds[i] :: ds.drop (i + 1) := List.drop_eq_getElem_cons hln
    obtain ⟨x', hx', rx⟩ := rp.get (i := i) (x := ds[i]) (List.getElem?_eq_getElem hln)
    rw [hx] at hx'
    cases hx'
    rw [hdr, forL] at h
    split at h
    · exact False.elim h
    · rename_i S1 hS1
      refine hg S S1 σ G _ x _ _ R hn (rx.mono sG) hS1 fun σ' R' hn' => ?_
      refine ⟨G, ent H0 G, S1, G, R'.into R.ext (Same.refl _), ?_⟩
      cases e : exSs n b S1 with
      | nx S2 =>
        rw [e] at h
        intro σ3 G3 H3 R3
        obtain ⟨R4, s4⟩ := R3.outof R.ext
        exact ⟨S2, G3, R4, hb S1 S2 hn' e, sG.trans s4, h⟩
      | ret d fr =>
        rw [e] at h
        intro v G3 H3 E3 r3
        refine h v G3 H3 (ext_out R.ext E3) ?_
        cases fr with
        | false => exact r3
        | true =>
          rcases r3 with ⟨p, xs, es, z1, z2, z3, z4, z5, z6⟩ | r3
          · exact .inl ⟨p, xs, es, z1, z2, (ent_none z3).2, z4, z5, z6⟩
          · exact .inr (r3.old fun _ z => (ent_none z).2)
      | exc c S2 =>
        rw [e] at h
        intro σ3 G3 H3 R3
        exact h σ3 G3 H3 (R3.outof R.ext).1
      | stuck => rw [e] at h; exact h
  · have e : i = vs.length := by omega
    subst e
    have hdr : ds.drop vs.length = [] := List.drop_eq_nil_of_le (by rw [rp.len]; exact Nat.le_refl _)
    rw [hdr, forL] at h
    exact .inl ⟨w.2.1 _ H s1 (Nat.le_refl _), h σ G H R⟩

/-! ### the number of slots stays -/
theorem setAll_length : ∀ {is : List Nat} {S S' : List SV} {ds : List D}, setAll S is ds = some S' → S'.length = S.length
  | [], _, _, ds, h => by
    cases ds with
    | nil => cases h; rfl
    | cons => cases h
  | i :: is, S, S', ds, h => by
    cases ds with
    | nil => cases h
    | cons d ds =>
      have h : setAll (S.set i (.sh d)) is ds = some S' := h
      rw [setAll_length h, List.length_set]
theorem forL_len {f : List SV → SRes} {tg : List SV → D → Option (List SV)} {k : Nat} (hf : ∀ S S', S.length = k → f S = .nx S' → S'.length = k) (ht : ∀ S S' d, tg S d = some S' → S'.length = S.length) : ∀ {xs : List D} {S S' : List SV}, S.length = k → forL f tg xs S = .nx S' → S'.length = k
  | [], S, S', hk, h => by
    rw [forL] at h
    cases h
    exact hk
  | x :: xs, S, S', hk, h => by
    rw [forL] at h
    split at h
    · cases h
    · rename_i S1 hS1
      split at h
      · rename_i S2 hS2
        exact forL_len hf ht (hf S1 S2 ((ht _ _ _ hS1).trans hk) hS2) h
      · rename_i hno
        exact absurd h (hno _)
theorem whileL_len {c : List SV → Res (D × Kd)} {f : List SV → SRes} {k : Nat} (hf : ∀ S S', S.length = k → f S = .nx S' → S'.length = k) : ∀ {n : Nat} {S S' : List SV}, S.length = k → whileL c f n S = .nx S' → S'.length = k
  | 0, S, S', hk, h => by
    rw [whileL] at h
    cases h
  | n + 1, S, S', hk, h => by
    rw [whileL] at h
    cases e : c S with
    | stuck => rw [e] at h; cases h
    | exc => rw [e] at h; cases h
    | ok r =>
      rw [e] at h
      simp only [bindS] at h
      split at h
      · split at h
        · rename_i S2 hS2
          exact whileL_len hf (hf S S2 hk hS2) h
        · rename_i hno
          exact absurd h (hno _)
      · cases h
        exact hk
      · cases h
theorem bindS_nx {α : Type} {S S' : List SV} {r : Res α} {f : α → SRes} (h : bindS S r f = .nx S') : ∃ a, r = .ok a ∧ f a = .nx S' := by
  cases r with
  | ok a => exact ⟨a, rfl, h⟩
  | exc => cases h
  | stuck => cases h
mutual
theorem exS_len (n k : Nat) : ∀ (m : MS) (S S' : List SV), S.length = k → exS n m S = .nx S' → S'.length = k
  | .set i e, S, S', hk, h => by
    rw [exS] at h
    obtain ⟨r, _, h⟩ := bindS_nx h
    split at h
    · cases h
    · cases h; rw [List.length_set]; exact hk
  | .own i e, S, S', hk, h => by
    rw [exS] at h
    obtain ⟨r, _, h⟩ := bindS_nx h
    split at h
    · cases h; rw [List.length_set]; exact hk
    · cases h; rw [List.length_set]; exact hk
    · cases h
  | .unp is e, S, S', hk, h => by
    rw [exS] at h
    obtain ⟨r, _, h⟩ := bindS_nx h
    split at h
    · rename_i S1 hS1
      cases h
      cases hd : r.1 with
      | tup ds =>
        rw [hd] at hS1
        exact (setAll_length hS1).trans hk
      | _ => rw [hd] at hS1; cases hS1
    · cases h
  | .app i e, S, S', hk, h => by
    rw [exS] at h
    split at h
    · obtain ⟨r, _, h⟩ := bindS_nx h
      split at h
      · cases h
      · split at h
        · cases h; rw [List.length_set]; exact hk
        · cases h
    · cases h
  | .ins i l e, S, S', hk, h => by
    rw [exS] at h
    split at h
    · obtain ⟨r, _, h⟩ := bindS_nx h
      split at h
      · obtain ⟨r, _, h⟩ := bindS_nx h
        split at h
        · cases h
        · split at h
          · cases h; rw [List.length_set]; exact hk
          · cases h
      · cases h
    · cases h
  | .popd i e, S, S', hk, h => by
    rw [exS] at h
    split at h
    · obtain ⟨r, _, h⟩ := bindS_nx h
      split at h
      · split at h
        · cases h; rw [List.length_set]; exact hk
        · cases h
      · cases h
    · cases h
  | .spop j i e, S, S', hk, h => by
    rw [exS] at h
    split at h
    · obtain ⟨r, _, h⟩ := bindS_nx h
      split at h
      · split at h
        · split at h
          · cases h; rw [List.length_set, List.length_set]; exact hk
          · cases h
        · cases h
      · cases h
    · cases h
  | .sto i l e, S, S', hk, h => by
    rw [exS] at h
    obtain ⟨r, _, h⟩ := bindS_nx h
    split at h
    · cases h
    · split at h
      · obtain ⟨r, _, h⟩ := bindS_nx h
        split at h
        · split at h
          · cases h; rw [List.length_set]; exact hk
          · cases h
        · cases h
      · cases h
  | .ife c a b, S, S', hk, h => by
    rw [exS] at h
    obtain ⟨r, _, h⟩ := bindS_nx h
    split at h
    · exact exSs_len n k a S S' hk h
    · exact exSs_len n k b S S' hk h
    · cases h
  | .forI i q es b, S, S', hk, h => by
    rw [exS] at h
    obtain ⟨r, _, h⟩ := bindS_nx h
    exact forL_len (exSs_len n k b) (fun S S' d e => by cases e; rw [List.length_set]) hk h
  | .forU is q es b, S, S', hk, h => by
    rw [exS] at h
    obtain ⟨r, _, h⟩ := bindS_nx h
    refine forL_len (exSs_len n k b) (fun S S' d e => ?_) hk h
    cases d with
    | tup ds => exact setAll_length e
    | _ => cases e
  | .whil c b, S, S', hk, h => by
    rw [exS] at h
    exact whileL_len (exSs_len n k b) hk h
  | .ret e, S, S', hk, h => by
    rw [exS] at h
    obtain ⟨r, _, h⟩ := bindS_nx h
    split at h
    · cases h
    · cases h
  | .retL i, S, S', hk, h => by
    rw [exS] at h
    split at h
    · cases h
    · cases h
  | .ret2 i j, S, S', hk, h => by
    rw [exS] at h
    split at h
    · split at h <;> cases h
    · cases h
  | .retT e f, S, S', hk, h => by
    rw [exS] at h
    obtain ⟨r, _, h⟩ := bindS_nx h
    split at h
    · cases h
    · obtain ⟨r, _, h⟩ := bindS_nx h
      split at h <;> cases h
  | .retO e i, S, S', hk, h => by
    rw [exS] at h
    split at h
    · obtain ⟨r, _, h⟩ := bindS_nx h
      split at h <;> cases h
    · cases h
  | .unpF i j e, S, S', hk, h => by
    rw [exS] at h
    split at h
    · cases h
    · obtain ⟨r, _, h⟩ := bindS_nx h
      split at h
      · split at h
        · cases h
        · cases h; rw [List.length_set, List.length_set]; exact hk
      · cases h
  | .tryR b K, S, S', hk, h => by
    rw [exS] at h
    cases e : exSs n b S with
    | nx S2 => rw [e] at h; cases h; exact exSs_len n k b S S' hk e
    | ret => rw [e] at h; cases h
    | stuck => rw [e] at h; cases h
    | exc c S1 => rw [e] at h; cases h
  | .dset i m, S, S', hk, h => by
    rw [exS] at h
    split at h
    · cases h
    · obtain ⟨r, _, h⟩ := bindS_nx h
      cases h; rw [List.length_set]; exact hk
  | .dsto i ks l e, S, S', hk, h => by
    rw [exS] at h
    obtain ⟨r, _, h⟩ := bindS_nx h
    split at h
    · cases h
    · split at h
      · split at h
        · obtain ⟨r, _, h⟩ := bindS_nx h
          obtain ⟨r, _, h⟩ := bindS_nx h
          split at h
          · split at h
            · split at h
              · cases h; rw [List.length_set]; exact hk
              · cases h
            · cases h
          · cases h
        · cases h
      · cases h
  | .apop j i l, S, S', hk, h => by
    rw [exS] at h
    split at h
    · obtain ⟨r, _, h⟩ := bindS_nx h
      split at h
      · split at h
        · split at h
          · cases h; rw [List.length_set, List.length_set]; exact hk
          · cases h
        · cases h
      · cases h
    · cases h
  | .exp e, S, S', hk, h => by
    rw [exS] at h
    obtain ⟨r, _, h⟩ := bindS_nx h
    cases h
    exact hk
  | .rais c, S, S', hk, h => by
    rw [exS] at h
    cases h
  | .frz i, S, S', hk, h => by
    rw [exS] at h
    split at h
    · cases h; rw [List.length_set]; exact hk
    · cases h; rw [List.length_set]; exact hk
    · cases h; rw [List.length_set]; exact hk
    · cases h
  | .tryI b K i j cs tab, S, S', hk, h => by
    rw [exS] at h
    cases e : exSs n b S with
    | nx S2 => rw [e] at h; cases h; exact exSs_len n k b S S' hk e
    | ret => rw [e] at h; cases h
    | stuck => rw [e] at h; cases h
    | exc c S1 =>
      rw [e] at h
      dsimp only at h
      split at h
      · split at h
        · rename_i hl
          cases h
          rw [List.length_set, List.length_set, hl]; exact hk
        · cases h
      · cases h
  | .tryS b K j v tab, S, S', hk, h => by
    rw [exS] at h
    cases e : exSs n b S with
    | nx S2 => rw [e] at h; cases h; exact exSs_len n k b S S' hk e
    | ret => rw [e] at h; cases h
    | stuck => rw [e] at h; cases h
    | exc c S1 =>
      rw [e] at h
      dsimp only at h
      split at h
      · split at h
        · rename_i hl
          cases h
          rw [List.length_set, hl]; exact hk
        · cases h
      · cases h
  | .mk i, S, S', hk, h => by
    rw [exS] at h
    split at h
    · cases h
    · cases h; rw [List.length_set]; exact hk
  | .put i g e, S, S', hk, h => by
    rw [exS] at h
    split at h
    · obtain ⟨r, _, h⟩ := bindS_nx h
      split at h
      · cases h
      · split at h
        · cases h; rw [List.length_set]; exact hk
        · cases h
    · cases h
  | .ifPut i g e a b, S, S', hk, h => by
    rw [exS] at h
    split at h
    · obtain ⟨r, _, h⟩ := bindS_nx h
      split at h
      · cases h
      · split at h
        · split at h
          · exact exSs_len n k a _ S' (by rw [List.length_set]; exact hk) h
          · exact exSs_len n k b _ S' (by rw [List.length_set]; exact hk) h
        · cases h
    · cases h
theorem exSs_len (n k : Nat) : ∀ (ms : List MS) (S S' : List SV), S.length = k → exSs n ms S = .nx S' → S'.length = k
  | [], S, S', hk, h => by
    rw [exSs] at h
    cases h
    exact hk
  | m :: ms, S, S', hk, h => by
    rw [exSs] at h
    split at h
    · rename_i S1 hS1
      exact exSs_len n k ms S1 S' (exS_len n k m S S1 hk hS1) h
    · rename_i hno
      exact absurd h (hno _)
end
theorem s_forI (n i : Nat) (kk : IK) {es : List ME} {b : List MS} (ib : SndSs n b) : SndS n (.forI i kk es b) := by
  intro X N sc cl W k G0 H0 st x hc hf hg hx
  unfold chkS at hc
  split at hc
  case h_2 => exact absurd hc Bool.false_ne_true
  rename_i y yp it p pos
  rw [Bool.and_eq_true, Bool.and_eq_true] at hc
  obtain ⟨⟨hc1, hc2⟩, hc3⟩ := hc
  obtain ⟨f0, f1⟩ := AllC.app (show AllC _ (callsEs es ++ callsSs b) from hf)
  obtain ⟨g0, g1⟩ := AllC.app (show AllC _ (glosEs es ++ glosSs b) from hg)
  obtain ⟨l1, l2, l3⟩ := locE_ok x.toXOk hc1
  obtain ⟨pi, hs⟩ := snd_pi (cl := cl) (W := W) (tg := .Name y yp) (snd_alls es) x.toXOk hc2 f0 g0
  have pb : PSs X p (rdB X.K cl W n b) := ⟨fun pins s σ H D I ⟨G0, H0, q⟩ => (ib X N sc cl W k G0 H0 p x hc3 f1 g1 hx).run pins s σ H D I q⟩
  refine ps_imp (ps_for x.own x.calm pi (pg_name x.nd l1 l2 (.inl (x.fnT _))) pb hs) fun D σ H hn ⟨S, G, R, h⟩ => ?_
  rw [exS] at h
  refine st_rdI R h fun xs J vs G1 H1 R1 w rp h1 => ?_
  refine for_core (fun S S' σ G H v d Q R hl r e q => ?_) (fun S S' hl e => exSs_len n _ b S S' hl e) R1 (R1.ev.len.trans hn) w rp h1
  cases e
  exact q _ (R.setSh r (by rw [← R.ev.len, hl]; exact l3)) (by rw [List.length_set]; exact hl)
theorem s_forU (n : Nat) (is : List Nat) (kk : IK) {es : List ME} {b : List MS} (ib : SndSs n b) : SndS n (.forU is kk es b) := by
  intro X N sc cl W k G0 H0 st x hc hf hg hx
  unfold chkS at hc
  split at hc
  case h_2 => exact absurd hc Bool.false_ne_true
  rename_i ts kt tp it p pos
  rw [Bool.and_eq_true, Bool.and_eq_true] at hc
  obtain ⟨⟨hc1, hc2⟩, hc3⟩ := hc
  obtain ⟨f0, f1⟩ := AllC.app (show AllC _ (callsEs es ++ callsSs b) from hf)
  obtain ⟨g0, g1⟩ := AllC.app (show AllC _ (glosEs es ++ glosSs b) from hg)
  obtain ⟨p1, p2, p3, p4⟩ := names_pgs x.toXOk x.fnT hc1
  obtain ⟨pi, hs⟩ := snd_pi (cl := cl) (W := W) (tg := .Tuple ts kt tp) (snd_alls es) x.toXOk hc2 f0 g0
  have pb : PSs X p (rdB X.K cl W n b) := ⟨fun pins s σ H D I ⟨G0, H0, q⟩ => (ib X N sc cl W k G0 H0 p x hc3 f1 g1 hx).run pins s σ H D I q⟩
  refine ps_imp (ps_for x.own x.calm pi (pg_tup x.calm p1 p2 p3) pb hs) fun D σ H hn ⟨S, G, R, h⟩ => ?_
  rw [exS] at h
  refine st_rdI R h fun xs J vs G1 H1 R1 w rp h1 => ?_
  refine for_core (fun S S' σ G H v d Q R hl r e q => ?_) (fun S S' hl e => exSs_len n _ b S S' hl e) R1 (R1.ev.len.trans hn) w rp h1
  have hl' : S'.length = X.N.length := by
    cases d with
    | tup ds => exact (setAll_length e).trans hl
    | _ => cases e
  exact gTup_run R r e (fun j hj => by rw [← R.ev.len, hl]; exact p4 j hj) fun σ' R' => q σ' R' hl'
/-! ### the object -/
theorem s_mk (n i : Nat) : SndS n (.mk i) := by
  intro X N sc cl W k G0 H0 st x hc hf hg hx
  unfold chkS at hc
  split at hc
  case h_2 => exact absurd hc Bool.false_ne_true
  rename_i y yp z zp cp pos
  simp only [Bool.and_eq_true, decide_eq_true_eq] at hc
  obtain ⟨⟨rfl, hgl⟩, hl⟩ := hc
  obtain ⟨gl1, gl2⟩ := glE_ok x.toXOk hgl
  obtain ⟨l1, l2, l3⟩ := locE_ok x.toXOk hl
  obtain ⟨⟨C, fa, fd, ps, j, hj, hm, hC, M, F, bb⟩, _⟩ := (show GoodFn X.prog X.w X.K X.mg X.base cl k .ini ∧ True from hf)
  refine ps_imp (ps_set x.nd l1 l2 (pe_make0 M F (x.room.mono hj) gl1 hm bb .nil passL gl2) rfl (.inl (x.fnT _))) fun D σ H hn ⟨S, G, R, h⟩ => ?_
  rw [exS] at h
  split at h
  · exact False.elim h
  · rename_i hno
    intro a dx na nd nad
    refine ⟨a, dx, rfl, upd_same, fun H' r c nr nc rc ha hr hcl hoth => ⟨rfl, ?_⟩⟩
    have rne : r ≠ a := fun e => by subst e; rw [upd_same] at nr; cases nr
    have rnd : r ≠ dx := fun e => by subst e; rw [upd_ne nad, upd_same] at nr; cases nr
    have cne : c ≠ a := fun e => by subst e; rw [upd_same] at nc; cases nc
    have cnd : c ≠ dx := fun e => by subst e; rw [upd_ne nad, upd_same] at nc; cases nc
    have hr0 : H r = none := by rw [upd_ne rne, upd_ne rnd] at nr; exact nr
    have hc0 : H c = none := by rw [upd_ne cne, upd_ne cnd] at nc; exact nc
    have sHH : Same H H' := fun b o q => by
      have n1 : b ≠ a := ne_of_none q na
      have n2 : b ≠ dx := ne_of_none q nd
      rw [hoth b n1 (ne_of_none q hr0) (ne_of_none q hc0), upd_ne n1, upd_ne n2]
      exact q
    have E1 : Ext G H G H' := ⟨Same.refl _, sHH, R.sub.trans sHH, fun b o h1 h2 => by rw [h2] at h1; cases h1⟩
    have R1 := R.grow E1
    have gn : ∀ {b : Addr}, H b = none → G b = none := fun {b} e => R.sub.free e
    have h0 : ∀ {b : Addr}, H b = none → H0 b = none := fun {b} e => R.ext.h.free e
    refine h _ G H' (R1.setOb hC ha hr hcl (gn na) (gn hr0) (gn hc0) rc .nil .nil (h0 na) (h0 hr0) (h0 hc0) (by rw [hn]; exact l3) (by simpa using hno) fun j es b q1 q2 => ?_)
    obtain ⟨b', xs, z1, z2, _⟩ := R.ev.sl j _ q1
    rw [q2] at z1
    cases z1
    exact ⟨(fun e => by subst e; rw [hr0] at z2; cases z2), (fun e => by subst e; rw [hc0] at z2; cases z2)⟩
/-- the call of put -/
theorem pe_put {X : Cx} {N : List Str} {sc : Scope} {cl : Str → Value} {W : WX} {k i : Nat} {g : PutFn} {m : ME} {y : Str} {yp ap cp : Pos} {e : Expr} (x : SOk X N sc W k) (hv : visE N sc i y = true) (hl : (ap.endLine == cp.line) = true) (hc : chkE N m sc e = true)
    (hp : GoodFn X.prog X.w X.K X.mg X.base cl k (.put g)) (hf : AllC (GoodFn X.prog X.w X.K X.mg X.base cl k) (callsE m)) (hg : AllC (GoodGl X.K X.mg) (glosE m)) :
    ∃ t : TE, PE X (.Call (.Attribute (.Name y yp) "put" ap) [e] [] cp) t ∧ ∀ {G0 H0 G H : Hp} {S : List SV} {σ : L2.St} {E : Ends} {Q : VK} {rows cls : List D} {f : Bool × List D × List D → SRes}, StRel X.K G0 H0 S σ G H → S[i]? = some (.ob rows cls) →
      Ks X.K cl W G0 H0 (bindS S (evE m S) fun r => if r.2 = .bo then .stuck else (match g rows cls r.1 with | .ok q => f q | _ => .stuck)) E →
      (∀ q G1 H1, StRel X.K G0 H0 (S.set i (.ob q.2.1 q.2.2)) σ G1 H1 → Ks X.K cl W G0 H0 (f q) E → Q (.bl q.1) H1) → t σ H Q := by
  obtain ⟨v1, v2, v3, v4⟩ := visE_ok x.toXOk hv
  obtain ⟨C, fa, fd, ps, hC, hm, F, bb⟩ := hp
  have pe := (snd_all m X N sc cl W k e x.toXOk hc hf hg).1
  have hst : starEach [e] X.env = (false, eval e X.env) :: starEach [] X.env := chk_star hc
  refine ⟨_, pe_meth (pe_var v1 v2 v3 v4) hC.cl hm F x.room bb .nil passL (pa_cons pe pa_nil hst) hst rfl (meth_ht hst hl), fun {G0 H0 G H S σ E Q rows cls f} R hS h hq => ?_⟩
  obtain ⟨C', a, dx, r, c, xs, ys, hC', hσ, ha, hr, hcl, ga, gr, gc, rc, r1, r2⟩ := R.ev.sl i _ hS
  cases hC.uniq hC'
  refine ⟨_, hσ, a, dx, _, rfl, ha, spF_no _ _ (by decide +kernel) (by decide +kernel), ?_⟩
  refine st_rd R h fun d kd v G1 H1 _ E1 rr R1 h1 => ?_
  split at h1
  · exact False.elim h1
  · rename_i hk
    obtain ⟨G2, E2, s2, rp⟩ := rr.fix E1 hk
    have R2 := R.grow E2
    refine ⟨G2, C, a, dx, r, c, xs, ys, rows, cls, v, d, rfl, hC', E2.sub, E2.h _ _ ha, E2.h _ _ hr, E2.h _ _ hcl, E2.gnone ha ga, E2.gnone hr gr, E2.gnone hcl gc, rc, r1.mono E2.g, r2.mono E2.g, rp, ?_⟩
    dsimp only at h1
    cases eg : g rows cls d with
    | stuck => rw [eg] at h1; exact False.elim h1
    | exc => rw [eg] at h1; exact False.elim h1
    | ok q =>
      rw [eg] at h1
      intro G' H' xs' ys' EO hr' hc' q1 q2
      exact hq q G' H' (R2.putOb hS hσ hC' (E2.h _ _ ha) (E2.gnone ha ga) (E2.gnone hr gr) (E2.gnone hcl gc) rc ⟨_, E2.h _ _ hr⟩ ⟨_, E2.h _ _ hcl⟩ EO hr' hc' q1 q2) h1
theorem s_put (n i : Nat) (g : PutFn) (m : ME) : SndS n (.put i g m) := by
  intro X N sc cl W k G0 H0 st x hc hf hg hx
  unfold chkS at hc
  split at hc
  case h_2 => exact absurd hc Bool.false_ne_true
  rename_i y yp z ap e cp pos
  simp only [Bool.and_eq_true, decide_eq_true_eq] at hc
  obtain ⟨⟨⟨rfl, hv⟩, hl⟩, hcM⟩ := hc
  obtain ⟨hp, ff⟩ := (show GoodFn X.prog X.w X.K X.mg X.base cl k (.put g) ∧ AllC _ (callsE m) from hf)
  obtain ⟨t, pe, ht⟩ := pe_put (yp := yp) x hv hl hcM hp ff hg
  refine ps_imp (ps_expr pe rfl) fun D σ H hn ⟨S, G, R, h⟩ => ?_
  rw [exS] at h
  split at h
  · rename_i rows cls hS
    exact ht (f := fun q => .nx (S.set i (.ob q.2.1 q.2.2))) R hS h fun q G1 H1 R1 h1 => h1 σ G1 H1 R1
  · exact False.elim h
theorem s_ifPut (n i : Nat) (g : PutFn) (m : ME) {a b : List MS} (ia : SndSs n a) (ib : SndSs n b) : SndS n (.ifPut i g m a b) := by
  intro X N sc cl W k G0 H0 st x hc hf hg hx
  unfold chkS at hc
  split at hc
  case h_2 => exact absurd hc Bool.false_ne_true
  rename_i y yp z ap e cp p q pos
  simp only [Bool.and_eq_true, decide_eq_true_eq] at hc
  obtain ⟨⟨⟨⟨⟨rfl, hv⟩, hl⟩, hcM⟩, hca⟩, hcb⟩ := hc
  obtain ⟨hp, ff⟩ := (show GoodFn X.prog X.w X.K X.mg X.base cl k (.put g) ∧ AllC _ (callsE m ++ (callsSs a ++ callsSs b)) from hf)
  obtain ⟨f0, f⟩ := AllC.app ff
  obtain ⟨f1, f2⟩ := AllC.app f
  obtain ⟨g0, gg⟩ := AllC.app (show AllC _ (glosE m ++ (glosSs a ++ glosSs b)) from hg)
  obtain ⟨g1, g2⟩ := AllC.app gg
  obtain ⟨x1, x2⟩ := AllC.app (show AllC _ (excsSs a ++ excsSs b) from hx)
  obtain ⟨t, pe, ht⟩ := pe_put (yp := yp) x hv hl hcM hp f0 g0
  have pa := ia X N sc cl W k G0 H0 p x hca f1 g1 x1
  have pb := ib X N sc cl W k G0 H0 q x hcb f2 g2 x2
  refine ps_imp (ps_if (pt_val pe (fun _ => rfl)) pa pb) fun D σ H hn ⟨S, G, R, h⟩ => ?_
  rw [exS] at h
  split at h
  · rename_i rows cls hS
    refine ht (f := fun q => if q.1 = true then exSs n a (S.set i (.ob q.2.1 q.2.2)) else exSs n b (S.set i (.ob q.2.1 q.2.2))) R hS h fun q G1 H1 R1 h1 => ?_
    obtain ⟨bb, q⟩ := q
    refine ⟨bb, rfl, ?_⟩
    cases bb with
    | true => exact iteT ⟨_, G1, R1, h1⟩
    | false => exact iteF ⟨_, G1, R1, h1⟩
  · exact False.elim h
theorem ss_nil (n : Nat) : SndSs n [] := by
  intro X N sc cl W k G0 H0 sts x hc hf hg hx
  cases sts with
  | cons => unfold chkSs at hc; exact absurd hc Bool.false_ne_true
  | nil =>
    refine pss_imp pss_nil fun D σ H ⟨S, G, R, h⟩ => ?_
    rw [exSs] at h
    exact h σ G H R
theorem ss_cons (n : Nat) {m : MS} {ms : List MS} (hm : ∀ i, m ≠ .frz i) (ia : SndS n m) (ib : SndSs n ms) : SndSs n (m :: ms) := by
  intro X N sc cl W k G0 H0 sts x hc hf hg hx
  obtain ⟨f0, f1⟩ := AllC.app (show AllC _ (callsS m ++ callsSs ms) from hf)
  obtain ⟨g0, g1⟩ := AllC.app (show AllC _ (glosS m ++ glosSs ms) from hg)
  obtain ⟨x0, x1⟩ := AllC.app (show AllC _ (excsS m ++ excsSs ms) from hx)
  have key : ∃ st rest, sts = st :: rest ∧ chkS N m sc st = true ∧ chkSs N ms sc rest = true := by
    cases m <;> try exact absurd rfl (hm _)
    all_goals
      cases sts with
      | nil => unfold chkSs at hc; exact absurd hc Bool.false_ne_true
      | cons st rest =>
        unfold chkSs at hc
        rw [Bool.and_eq_true] at hc
        exact ⟨st, rest, rfl, hc.1, hc.2⟩
  obtain ⟨st, rest, rfl, c1, c2⟩ := key
  have p1 := ia X N sc cl W k G0 H0 st x c1 f0 g0 x0
  have p2 := ib X N sc cl W k G0 H0 rest x c2 f1 g1 x1
  refine pss_imp (pss_cons p1 p2) fun D σ H ⟨S, G, R, h⟩ => ?_
  rw [exSs] at h
  refine ⟨S, G, R, ?_⟩
  cases e : exS n m S with
  | nx S1 =>
    rw [e] at h
    exact fun σ' G' H' R' => ⟨S1, G', R', h⟩
  | ret d fr => rw [e] at h; exact h
  | exc c S1 => rw [e] at h; exact h
  | stuck => rw [e] at h; exact h
theorem ss_frz (n i : Nat) {ms : List MS} (ib : SndSs n ms) : SndSs n (.frz i :: ms) := by
  intro X N sc cl W k G0 H0 sts x hc hf hg hx
  unfold chkSs at hc
  have p2 := ib X N sc cl W k G0 H0 sts x hc hf hg hx
  refine pss_imp p2 fun D σ H ⟨S, G, R, h⟩ => ?_
  rw [exSs, exS] at h
  cases e : S[i]? with
  | none => rw [e] at h; exact False.elim h
  | some sv =>
    rw [e] at h
    cases sv with
    | no => exact False.elim h
    | sh => exact False.elim h
    | ow ds =>
      obtain ⟨G', R'⟩ := R.frz e
      exact ⟨_, G', R', h⟩
    | ob rows cls =>
      obtain ⟨G', R'⟩ := R.frzOb e
      exact ⟨_, G', R', h⟩
    | dp m d =>
      cases m with
      | zero => exact False.elim h
      | succ m =>
        cases d <;> try exact False.elim h
        obtain ⟨G', R'⟩ := R.frzDp e
        exact ⟨_, G', R', h⟩
mutual
theorem s_all (n : Nat) : ∀ m : MS, (∀ i, m ≠ .frz i) → SndS n m
  | .set i e, _ => s_set n i e
  | .own i e, _ => s_own n i e
  | .unp is e, _ => s_unp n is e
  | .app i e, _ => s_app n i e
  | .ins i l e, _ => s_ins n i l e
  | .popd i e, _ => s_popd n i e
  | .spop j i e, _ => s_spop n j i e
  | .sto i l e, _ => s_sto n i l e
  | .ife c a b, _ => s_ife n (ss_all n a) (ss_all n b)
  | .forI i q es b, _ => s_forI n i q (ss_all n b)
  | .forU is q es b, _ => s_forU n is q (ss_all n b)
  | .whil c b, _ => s_whil n (ss_all n b)
  | .ret e, _ => s_ret n e
  | .retL i, _ => s_retL n i
  | .ret2 i j, _ => s_ret2 n i j
  | .retT e f, _ => s_retT n e f
  | .retO e i, _ => s_retO n e i
  | .unpF i j e, _ => s_unpF n i j e
  | .exp e, _ => s_exp n e
  | .rais c, _ => s_rais n c
  | .tryI b K i j cs tab, _ => s_tryI n K i j cs tab (ss_all n b)
  | .tryS b K j v tab, _ => s_tryS n K j v tab (ss_all n b)
  | .mk i, _ => s_mk n i
  | .tryR b K, _ => s_tryR n K (ss_all n b)
  | .dset i m, _ => s_dset n i m
  | .dsto i ks l m, _ => s_dsto n i ks l m
  | .apop j i l, _ => s_apop n j i l
  | .put i g e, _ => s_put n i g e
  | .ifPut i g e a b, _ => s_ifPut n i g e (ss_all n a) (ss_all n b)
  | .frz i, h => absurd rfl (h i)
theorem ss_all (n : Nat) : ∀ ms : List MS, SndSs n ms
  | [] => ss_nil n
  | .frz i :: ms => ss_frz n i (ss_all n ms)
  | .set i e :: ms => ss_cons n (fun _ z => by cases z) (s_set n i e) (ss_all n ms)
  | .own i e :: ms => ss_cons n (fun _ z => by cases z) (s_own n i e) (ss_all n ms)
  | .unp is e :: ms => ss_cons n (fun _ z => by cases z) (s_unp n is e) (ss_all n ms)
  | .app i e :: ms => ss_cons n (fun _ z => by cases z) (s_app n i e) (ss_all n ms)
  | .ins i l e :: ms => ss_cons n (fun _ z => by cases z) (s_ins n i l e) (ss_all n ms)
  | .popd i e :: ms => ss_cons n (fun _ z => by cases z) (s_popd n i e) (ss_all n ms)
  | .spop j i e :: ms => ss_cons n (fun _ z => by cases z) (s_spop n j i e) (ss_all n ms)
  | .sto i l e :: ms => ss_cons n (fun _ z => by cases z) (s_sto n i l e) (ss_all n ms)
  | .ife c a b :: ms => ss_cons n (fun _ z => by cases z) (s_ife n (ss_all n a) (ss_all n b)) (ss_all n ms)
  | .forI i q es b :: ms => ss_cons n (fun _ z => by cases z) (s_forI n i q (ss_all n b)) (ss_all n ms)
  | .forU is q es b :: ms => ss_cons n (fun _ z => by cases z) (s_forU n is q (ss_all n b)) (ss_all n ms)
  | .whil c b :: ms => ss_cons n (fun _ z => by cases z) (s_whil n (ss_all n b)) (ss_all n ms)
  | .ret e :: ms => ss_cons n (fun _ z => by cases z) (s_ret n e) (ss_all n ms)
  | .retL i :: ms => ss_cons n (fun _ z => by cases z) (s_retL n i) (ss_all n ms)
  | .ret2 i j :: ms => ss_cons n (fun _ z => by cases z) (s_ret2 n i j) (ss_all n ms)
  | .retT e f :: ms => ss_cons n (fun _ z => by cases z) (s_retT n e f) (ss_all n ms)
  | .retO e i :: ms => ss_cons n (fun _ z => by cases z) (s_retO n e i) (ss_all n ms)
  | .unpF i j e :: ms => ss_cons n (fun _ z => by cases z) (s_unpF n i j e) (ss_all n ms)
  | .exp e :: ms => ss_cons n (fun _ z => by cases z) (s_exp n e) (ss_all n ms)
  | .rais c :: ms => ss_cons n (fun _ z => by cases z) (s_rais n c) (ss_all n ms)
  | .tryI b K i j cs tab :: ms => ss_cons n (fun _ z => by cases z) (s_tryI n K i j cs tab (ss_all n b)) (ss_all n ms)
  | .mk i :: ms => ss_cons n (fun _ z => by cases z) (s_mk n i) (ss_all n ms)
  | .tryR b K :: ms => ss_cons n (fun _ z => by cases z) (s_tryR n K (ss_all n b)) (ss_all n ms)
  | .dset i m :: ms => ss_cons n (fun _ z => by cases z) (s_dset n i m) (ss_all n ms)
  | .dsto i ks l m :: ms => ss_cons n (fun _ z => by cases z) (s_dsto n i ks l m) (ss_all n ms)
  | .apop j i l :: ms => ss_cons n (fun _ z => by cases z) (s_apop n j i l) (ss_all n ms)
  | .put i g e :: ms => ss_cons n (fun _ z => by cases z) (s_put n i g e) (ss_all n ms)
  | .ifPut i g e a b :: ms => ss_cons n (fun _ z => by cases z) (s_ifPut n i g e (ss_all n a) (ss_all n b)) (ss_all n ms)
  | .tryS b K j v tab :: ms => ss_cons n (fun _ z => by cases z) (s_tryS n K j v tab (ss_all n b)) (ss_all n ms)
end

/-! ### a def -/
section
variable {P : Program} {w : World} {K : PySem.W.Frag} {mg : Str → Option Value} {base : Heap}
theorem fn_sound {cl : Str → Value} {nm qual : Str} {st : Stmt} {f : Addr} {fd : FuncData} {N ps : List Str} {k n : Nat} {body : List MS} (F : Fun K nm qual st f fd) (S : FnScope N ps (defScope st)) (hb : BltOk mg) (hc : chkSs N body (defScope st) (defBody st) = true)
    (hf : AllC (GoodFn P w K mg base cl k) (callsSs body)) (hg : AllC (GoodGl K mg) (glosSs body)) (hx : AllC (GoodEx K mg cl) (excsSs body)) :
    FnOk P w K mg base (L2.CX P w) (k + 1) f fd ps (spM K cl ps.length (mirror N.length n body)) := by
  refine F.okX S (fun vs H Q E h => h.1) (fun cdv A outer s H vs Q E hr h => ?_)
  obtain ⟨hl, G, ds, sm, rp, h⟩ := h
  have x : SOk (cxOf (L2.CX P w) P w K mg base N qual (defScope st) f cdv A outer s H E) N (defScope st) (fun cls d _ H => E cls d H) k :=
    { hN := rfl, sc := rfl, calm := rfl, nd := S.nd, room := hr, tk := takes_of rfl rfl rfl rfl, blt := hb, top := fun _ => .inr ⟨rfl, rfl⟩, fnT := fun _ => rfl, own := passes_of rfl, kindF := S.kind, stk := rfl, frm := rfl }
  refine ⟨rdSs K cl (fun cls d _ H => E cls d H) G H n body, ss_all n body _ N _ cl _ k G H _ x hc hf hg hx, ?_⟩
  have hpl : ps.length ≤ N.length := by
    have := congrArg List.length S.pre
    rw [List.length_take] at this
    omega
  have hdl : vs.length = ds.length := rp.len
  have kind : ∀ (i : Nat) (sv : SV), (ds.map SV.sh ++ List.replicate (N.length - ds.length) SV.no)[i]? = some sv → (∃ d, sv = .sh d) ∨ sv = .no := fun i sv hi => by
    rcases List.mem_append.mp (List.mem_of_getElem? hi) with h | h
    · obtain ⟨d, _, rfl⟩ := List.mem_map.mp h
      exact .inl ⟨d, rfl⟩
    · exact .inr (List.eq_of_mem_replicate h)
  have noOw : ∀ (i : Nat) (es : List MP.D), (ds.map SV.sh ++ List.replicate (N.length - ds.length) SV.no)[i]? ≠ some (.ow es) := fun i es hi => by
    rcases kind i _ hi with ⟨d, z⟩ | z <;> cases z
  have noOb : ∀ (i : Nat) (rows cls : List MP.D), (ds.map SV.sh ++ List.replicate (N.length - ds.length) SV.no)[i]? ≠ some (.ob rows cls) := fun i rows cls hi => by
    rcases kind i _ hi with ⟨d, z⟩ | z <;> cases z
  have noDp : ∀ (i m : Nat) (d : MP.D), (ds.map SV.sh ++ List.replicate (N.length - ds.length) SV.no)[i]? ≠ some (.dp m d) := fun i m d hi => by
    rcases kind i _ hi with ⟨d, z⟩ | z <;> cases z
  refine ⟨ds.map SV.sh ++ List.replicate (N.length - ds.length) SV.no, G, ⟨⟨sm, ?_, fun i sv hi => ?_⟩, Ext.refl sm, fun i a es hi _ => absurd hi (noOw i es), fun i j a es fs _ hi _ _ _ => absurd hi (noOw i es), fun i a rows cls hi _ => absurd hi (noOb i rows cls), fun i j a b rows cls es hi _ _ _ => absurd hi (noOb i rows cls), fun i j rows cls _ _ hi _ => absurd hi (noOb i rows cls), fun i m d hi => absurd hi (noDp i m d), fun i j m d _ hi _ _ => absurd hi (noDp i m d)⟩, ?_⟩
  · unfold L2.start
    simp [hdl]
  · unfold L2.start
    by_cases hlt : i < ds.length
    · rw [List.getElem?_append_left (by simpa using hlt), List.getElem?_map] at hi
      cases e : ds[i]? with
      | none => rw [e] at hi; cases hi
      | some d =>
        rw [e] at hi
        cases hi
        obtain ⟨v, h1, h2⟩ := rp.get e
        refine ⟨v, ?_, h2⟩
        rw [List.getElem?_append_left (by simp; omega), List.getElem?_map, h1]
        rfl
    · rw [List.getElem?_append_right (by simpa using hlt), List.getElem?_replicate] at hi
      split at hi
      · cases hi; trivial
      · cases hi
  · unfold mirror at h
    rw [hide_eq] at h
    cases e : exSs n body (ds.map SV.sh ++ List.replicate (N.length - ds.length) SV.no) with
    | nx S1 =>
      rw [e] at h
      exact fun σ G' H' R' => h .non G' H' R'.ext (show Rep _ _ _ _ from .non)
    | ret d fr => rw [e] at h; exact h
    | exc c S1 =>
      rw [e] at h
      exact fun σ G' H' R' => h G' H' R'.ext
    | stuck => rw [e] at h; exact h
end
end MP
set_option Elab.async false
set_option linter.all false
set_option maxRecDepth 100000
set_option maxHeartbeats 4000000
namespace MP
open PySem PySem.Spec PyProof.Rows L2
theorem GoodFn.up {P : Program} {w : World} {K : PySem.W.Frag} {mg : Str → Option Value} {base : Heap} {cl : Str → Value} {j k : Nat} {p : CallI} (h : GoodFn P w K mg base cl j p) (l : j ≤ k) : GoodFn P w K mg base cl k p := by
  cases p with
  | fn x n f =>
    obtain ⟨f, fd, ps, h1, h2, h3⟩ := h
    exact ⟨f, fd, ps, h1, h2.mono l, h3⟩
  | mt x n f =>
    obtain ⟨C, f, fd, ps, h1, h2, h3, h4, h5⟩ := h
    exact ⟨C, f, fd, ps, h1, h2, h3, h4.mono l, h5⟩
  | ini =>
    obtain ⟨C, f, fd, ps, i, h1, h2⟩ := h
    exact ⟨C, f, fd, ps, i, Nat.le_trans h1 l, h2⟩
  | put g =>
    obtain ⟨C, f, fd, ps, h1, h2, h3, h4⟩ := h
    exact ⟨C, f, fd, ps, h1, h2, h3.mono l, h4⟩
/-- turns of a while, at most: a number that nothing computes with -/
noncomputable def fuelW : {n : Nat // 2 ^ 9000 ≤ n} := Classical.choice ⟨⟨2 ^ 9000, Nat.le_refl _⟩⟩
noncomputable def fuel : Nat := fuelW.1
theorem fuel_ge : 2 ^ 9000 ≤ fuel := fuelW.2
end MP
set_option Elab.async false
set_option linter.all false
set_option maxRecDepth 100000
set_option maxHeartbeats 4000000
namespace MP
open PySem PySem.Spec PyProof.Rows L2 RT
/-! ### the class's own two: __init__, put -/
def isSelf (N : List Str) (sc : Scope) (x : Str) : Bool := visE N sc 0 x
def chkIni (N : List Str) (sc : Scope) : List Stmt → Bool
  | [.Assign [.Attribute (.Name x _) f _] (.List [] _) _, .Assign [.Attribute (.Name y _) g _] (.List [] _) _] => visE N sc 0 x && decide (f = "rows") && visE N sc 0 y && decide (g = "cleared")
  | _ => false
section
variable {P : Program} {w : World} {K : PySem.W.Frag} {mg : Str → Option Value} {base : Heap}
theorem fn_init {nm qual : Str} {st : Stmt} {f C : Addr} {fd : FuncData} (F : Fun K nm qual st f fd) (S : FnScope ["self"] ["self"] (defScope st)) (hC : SpanC K C) (hb : BltOk mg) (hc : chkIni ["self"] (defScope st) (defBody st) = true) :
    FnOk P w K mg base (L2.CX P w) 1 f fd ["self"] (spIni C) := by
  refine F.okX S (fun vs H Q E h => by obtain ⟨p, dx, rfl, _⟩ := h; rfl) (fun cdv A outer s H vs Q E hr h => ?_)
  obtain ⟨p, dx, rfl, hp, q⟩ := h
  have x : SOk (cxOf (L2.CX P w) P w K mg base ["self"] qual (defScope st) f cdv A outer s H E) ["self"] (defScope st) (fun cls d _ H => E cls d H) 0 :=
    { hN := rfl, sc := rfl, calm := rfl, nd := S.nd, room := hr, tk := takes_of rfl rfl rfl rfl, blt := hb, top := fun _ => .inr ⟨rfl, rfl⟩, fnT := fun _ => rfl, own := passes_of rfl, kindF := S.kind, stk := rfl, frm := rfl }
  generalize defBody st = body at hc ⊢
  unfold chkIni at hc
  split at hc
  case h_2 => exact absurd hc Bool.false_ne_true
  rename_i x1 xp1 f1 ap1 lp1 pos1 x2 xp2 f2 ap2 lp2 pos2
  simp only [Bool.and_eq_true, decide_eq_true_eq] at hc
  obtain ⟨⟨⟨hv1, rfl⟩, hv2⟩, rfl⟩ := hc
  obtain ⟨v1, v2, v3, v4⟩ := visE_ok x.toXOk hv1
  obtain ⟨w1, w2, w3, w4⟩ := visE_ok x.toXOk hv2
  refine ⟨_, pss_cons (ps_fld (pe_var v1 v2 v3 v4) (pe_lst pa_nil) rfl) (pss_one (ps_fld (pe_var w1 w2 w3 w4) (pe_lst pa_nil) rfl)), ?_⟩
  refine ⟨Nat.zero_le _, fun r nr => ?_⟩
  have npr : p ≠ r := ne_of_none hp nr
  refine ⟨_, rfl, p, C, dx, [], rfl, (by rw [upd_ne npr]; exact hp), hC.cl, hC.nR, (by show 0 < 1000; decide), Nat.zero_le _, fun c nc => ?_⟩
  have ncp : c ≠ p := fun e => by subst e; rw [upd_same] at nc; cases nc
  have ncr : c ≠ r := fun e => by subst e; rw [upd_ne npr.symm, upd_same] at nc; cases nc
  have nc0 : H c = none := by rw [upd_ne ncp, upd_ne ncr] at nc; exact nc
  refine ⟨_, rfl, p, C, dx, _, rfl, (by rw [upd_ne ncp.symm]; exact upd_same), hC.cl, hC.nC, (by show 1 < 1000; decide), ?_⟩
  refine q _ r c nr nc0 ncr.symm upd_same ?_ ?_ fun b n1 n2 n3 => ?_
  · rw [upd_ne npr.symm, upd_ne ncr.symm, upd_ne npr.symm, upd_same]
  · rw [upd_ne ncp, upd_same]
  · rw [upd_ne n1, upd_ne n3, upd_ne n1, upd_ne n2]
end
/-- put: split, pivot_of, the new row of factors -/
def chkPut (N : List Str) (sc : Scope) (e2 e4 : ME) : List Stmt → Bool
  | [.Assign [.Tuple ts _ _] (.Call (.Attribute (.Name x1 _) f1 ap1) [.Name y1 _] [] cp1) _,
     .Assign [.Name x2 _] s2 _,
     .If t3 [.Return (some (.Constant (.bool false) _ _)) _] [] _,
     .Assign [.Name x4 _] s4 _,
     .Expr (.Call (.Attribute (.Attribute (.Name x5 _) f5 _) g5 ap5) [.Tuple [.Name a5 _, .Name b5 _, .Name c5 _] _ _] [] cp5) _,
     .Expr (.Call (.Attribute (.Attribute (.Name x6 _) f6 _) g6 ap6) [.Call (.Name l6 _) [.Name y6 _] [] _] [] cp6) _,
     .Return (some (.Constant (.bool true) _ _)) _] =>
    namesU N sc [2, 3] ts && visE N sc 0 x1 && decide (f1 = "split") && visE N sc 1 y1 && (ap1.endLine == cp1.line) && locE N sc 4 x2 && chkE N e2 sc s2 && chkE N (.isN false (.loc 4)) sc t3 && locE N sc 5 x4 && chkE N e4 sc s4 &&
    (visE N sc 0 x5 && decide (f5 = "cleared") && decide (g5 = "append") && visE N sc 4 a5 && visE N sc 2 b5 && visE N sc 5 c5 && (ap5.endLine == cp5.line)) &&
    (visE N sc 0 x6 && decide (f6 = "rows") && decide (g6 = "append") && decide (l6 = "list") && glE sc l6 && visE N sc 1 y6 && (ap6.endLine == cp6.line))
  | _ => false
def seqOf : D → Option (List D)
  | .lst es => some es
  | .tup es => some es
  | _ => none
/-- what put does -/
def putG (msp : Fn) (e2 e4 : ME) : PutFn := fun rows cl d => match msp [.ob rows cl, d] with
  | .ok (.tup [.lst rest, .lst parts], true) => (match evE e2 [.no, .sh d, .sh (.lst rest), .sh (.lst parts), .no, .no, .no] with
    | .ok (.non, .sh) => .ok (false, rows, cl)
    | .ok (.int p, .sh) => (match evE e4 [.no, .sh d, .sh (.lst rest), .sh (.lst parts), .sh (.int p), .no, .no] with
      | .ok (.lst mx, .fr) => (match seqOf d with
        | some es => if noLs rest = true ∧ noLs mx = true ∧ rows.length < 16777216 ∧ cl.length < 16777216 then .ok (true, rows ++ [.lst es], cl ++ [.tup [.int p, .lst rest, .lst mx]]) else .stuck
        | none => .stuck)
      | _ => .stuck)
    | _ => .stuck)
  | _ => .stuck
/-- what does not lean on the borrowed -/
def strip (G : Hp) (L : List Addr) : Hp := fun b => if b ∈ L then none else G b
section
variable {K : PySem.W.Frag} {G : Hp} {L : List Addr}
theorem strip_at {b : Addr} (h : b ∉ L) : strip G L b = G b := if_neg h
theorem strip_no {b : Addr} (h : b ∈ L) : strip G L b = none := if_pos h
theorem strip_same : Same (strip G L) G := fun b o h => by
  unfold strip at h
  split at h
  · cases h
  · exact h
theorem seqT_strip {a : Addr} {xs : List V} (hL : ∀ p ∈ L, ∀ ys, G p ≠ some (.tup ys) ∧ ∀ f, G p ≠ some (.frz f (.tup ys))) (h : SqT K G a xs) : SqT K (strip G L) a xs := by
  rcases h with (h | ⟨o, h⟩) | h
  · exact .inl (.inl ((strip_at fun m => (hL a m xs).1 h).trans h))
  · exact .inl (.inr ⟨o, (strip_at fun m => (hL a m xs).2 o h).trans h⟩)
  · exact .inr h
mutual
theorem rep_strip (hL : ∀ p ∈ L, ∀ ys, G p ≠ some (.tup ys) ∧ ∀ f, G p ≠ some (.frz f (.tup ys))) : ∀ {v : V} {d : D}, Rep K G v d → noL d = true → Rep K (strip G L) v d
  | _, _, .non, _ => .non
  | _, _, .bl b, _ => .bl b
  | _, _, .int i, _ => .int i
  | _, _, .str i, _ => .str i
  | _, _, .tup h r, z => .tup (seqT_strip hL h) (reps_strip hL r (by unfold noL at z; exact z))
  | _, _, .lst h r, z => by unfold noL at z; cases z
  | _, _, .scr h, z => by unfold noL at z; cases z
  | _, _, .ob _ _ _ _ _ _, z => by unfold noL at z; cases z
theorem reps_strip (hL : ∀ p ∈ L, ∀ ys, G p ≠ some (.tup ys) ∧ ∀ f, G p ≠ some (.frz f (.tup ys))) : ∀ {v : List V} {d : List D}, RepL K G v d → noLs d = true → RepL K (strip G L) v d
  | _, _, .nil, _ => .nil
  | _, _, .cons h r, z => by
    unfold noLs at z
    rw [Bool.and_eq_true] at z
    exact .cons (rep_strip hL h z.1) (reps_strip hL r z.2)
end
end
theorem putG_inv {msp : Fn} {e2 e4 : ME} {rows cl : List D} {d : D} {q : Bool × List D × List D} (h : putG msp e2 e4 rows cl d = .ok q) : ∃ rest parts, msp [.ob rows cl, d] = .ok (.tup [.lst rest, .lst parts], true) ∧
    ((evE e2 [.no, .sh d, .sh (.lst rest), .sh (.lst parts), .no, .no, .no] = .ok (.non, .sh) ∧ q = (false, rows, cl)) ∨
     ∃ p mx es, evE e2 [.no, .sh d, .sh (.lst rest), .sh (.lst parts), .no, .no, .no] = .ok (.int p, .sh) ∧ evE e4 [.no, .sh d, .sh (.lst rest), .sh (.lst parts), .sh (.int p), .no, .no] = .ok (.lst mx, .fr) ∧ seqOf d = some es ∧ noLs rest = true ∧ noLs mx = true ∧ rows.length < 16777216 ∧ cl.length < 16777216 ∧ q = (true, rows ++ [.lst es], cl ++ [.tup [.int p, .lst rest, .lst mx]])) := by
  unfold putG at h
  split at h
  case h_2 => cases h
  rename_i rest parts em
  refine ⟨rest, parts, em, ?_⟩
  split at h
  · rename_i e
    cases h
    exact .inl ⟨e, rfl⟩
  · rename_i p e
    split at h
    case h_2 => cases h
    rename_i mx e'
    split at h
    case h_2 => cases h
    rename_i es e''
    split at h
    case isFalse => cases h
    rename_i hz
    cases h
    exact .inr ⟨p, mx, es, e, e', e'', hz.1, hz.2.1, hz.2.2.1, hz.2.2.2, rfl⟩
  · cases h
theorem seqOf_inv {d : D} {es : List D} (h : seqOf d = some es) : d = .lst es ∨ d = .tup es := by
  unfold seqOf at h
  split at h <;> cases h
  · exact .inl rfl
  · exact .inr rfl
section
variable {P : Program} {w : World} {K : PySem.W.Frag} {mg : Str → Option Value} {base : Heap}
theorem fn_put {cl : Str → Value} {nm qual : Str} {st : Stmt} {f : Addr} {fd : FuncData} {N : List Str} {k : Nat} {msp : Fn} {e2 e4 : ME} (F : Fun K nm qual st f fd) (hN : N.length = 7) (S : FnScope N ["self", "row"] (defScope st)) (hb : BltOk mg)
    (hc : chkPut N (defScope st) e2 e4 (defBody st) = true) (hs : GoodFn P w K mg base cl k (.mt "split" 2 msp)) (hf2 : AllC (GoodFn P w K mg base cl k) (callsE e2)) (hg2 : AllC (GoodGl K mg) (glosE e2)) (hf4 : AllC (GoodFn P w K mg base cl k) (callsE e4)) (hg4 : AllC (GoodGl K mg) (glosE e4)) :
    FnOk P w K mg base (L2.CX P w) (k + 1) f fd ["self", "row"] (spPut K (putG msp e2 e4)) := by
  refine F.okX S (fun vs H Q E h => by obtain ⟨_, _, _, _, _, _, _, _, _, _, _, _, rfl, _⟩ := h; rfl) (fun cdv A outer s H vs Q E hr h => ?_)
  obtain ⟨G, C, a, dx, r, c, xs, ys, rows, cls, v, d, rfl, hC, sm, ha, hrr, hcl, ga, gr, gc, rc, r1, r2, rv, h⟩ := h
  have x : SOk (cxOf (L2.CX P w) P w K mg base N qual (defScope st) f cdv A outer s H E) N (defScope st) (fun cls d _ H => E cls d H) k :=
    { hN := rfl, sc := rfl, calm := rfl, nd := S.nd, room := hr, tk := takes_of rfl rfl rfl rfl, blt := hb, top := fun _ => .inr ⟨rfl, rfl⟩, fnT := fun _ => rfl, own := passes_of rfl, kindF := S.kind, stk := rfl, frm := rfl }
  obtain ⟨C', fs, fds, pss, hC', hm, hno, Fs, bbs⟩ := hs
  cases hC'.uniq hC
  generalize defBody st = body at hc ⊢
  unfold chkPut at hc
  split at hc
  case h_2 => exact absurd hc Bool.false_ne_true
  rename_i ts kt1 tp1 x1 xp1 f1 ap1 y1 yp1 cp1 pos1 x2 xp2 s2 pos2 t3 j3 cp3 rp3 pos3 x4 xp4 s4 pos4 x5 xp5 f5 fp5 g5 ap5 a5 apa5 b5 bp5 c5 cpc5 k5 tp5 cp5 pos5 x6 xp6 f6 fp6 g6 ap6 l6 lp6 y6 yp6 lcp6 cp6 pos6 j7 jp7 pos7
  simp only [Bool.and_eq_true, decide_eq_true_eq] at hc
  obtain ⟨⟨⟨⟨⟨⟨⟨⟨⟨⟨⟨c1, c2⟩, rfl⟩, c4⟩, c5⟩, c6⟩, c7⟩, c8⟩, c9⟩, c10⟩, ⟨⟨⟨⟨⟨⟨d1, rfl⟩, rfl⟩, d4⟩, d5⟩, d6⟩, d7⟩⟩, ⟨⟨⟨⟨⟨⟨u1, rfl⟩, rfl⟩, rfl⟩, u5⟩, u6⟩, u7⟩⟩ := hc
  have var : ∀ {i : Nat} {y : Str} {pos : Pos}, visE N (defScope st) i y = true → PE (cxOf (L2.CX P w) P w K mg base N qual (defScope st) f cdv A outer s H E) (.Name y pos) (tVar i) := fun {i y pos} h => by
    obtain ⟨v1, v2, v3, v4⟩ := visE_ok x.toXOk h
    exact pe_var v1 v2 v3 v4
  obtain ⟨p1, p2, p3, p4⟩ := names_pgs x.toXOk x.fnT c1
  have pe2 := snd_all e2 _ N _ cl _ k s2 x.toXOk c7 hf2 hg2
  have pe4 := snd_all e4 _ N _ cl _ k s4 x.toXOk c10 hf4 hg4
  have pt3 := (snd_all (.isN false (.loc 4)) _ N _ cl _ k t3 x.toXOk c8 trivial trivial).2.1
  obtain ⟨gl1, gl2⟩ := glE_ok x.toXOk u5
  refine ⟨_, pss_cons (ps_asg (pe_meth (var c2) hC.cl hm Fs x.room bbs .nil passL (pa_cons (var c4) pa_nil rfl) rfl rfl (meth_ht rfl c5)) (pg_tup x.calm p1 p2 p3) rfl rfl rfl)
    (pss_cons (ps_any x c6 c7 hf2 hg2)
    (pss_cons (ps_if pt3 (pss_one (ps_ret pe_bl)) pss_nil)
    (pss_cons (ps_any x c9 c10 hf4 hg4)
    (pss_cons (ps_expr (pe_bm PySem.F.plainAttrs_list PySem.F.slot_list_append PySem.F.type_list_append mt_append (pe_fld (var d1) rfl) (pa_cons (pe_tup (pa_cons (var d4) (pa_cons (var d5) (pa_cons (var d6) pa_nil rfl) rfl) rfl)) pa_nil rfl) rfl rfl d7 rfl rfl) rfl)
    (pss_cons (ps_expr (pe_bm PySem.F.plainAttrs_list PySem.F.slot_list_append PySem.F.type_list_append mt_append (pe_fld (var u1) rfl) (pa_cons (pe_callTy call_list_of gl1 hb.list (by decide +kernel) (pa_cons (var u6) pa_nil rfl) (by decide +kernel) gl2 rfl rfl) pa_nil rfl) rfl rfl u7 rfl rfl) rfl)
    (pss_one (ps_ret pe_bl))))))), ?_⟩
  have hσ : L2.start N [.ref a, v] = [some (.ref a), some v, none, none, none, none, none] := by
    unfold L2.start
    rw [hN]
    rfl
  rw [hσ]
  have nar : a ≠ r := fun e => by subst e; rw [ha] at hrr; cases hrr
  have nac : a ≠ c := fun e => by subst e; rw [ha] at hcl; cases hcl
  obtain ⟨GL, hGL⟩ : ∃ GL, over G H [a, r, c] = GL := ⟨_, rfl⟩
  have sL : Same G GL := by rw [← hGL]; exact over_same
  have LH : Same GL H := by rw [← hGL]; exact over_sub sm
  have la : GL a = some (.ins C dx (spF r c)) := by rw [← hGL, over_at ga (by simp)]; exact ha
  have lr : GL r = some (.lst xs) := by rw [← hGL, over_at gr (by simp)]; exact hrr
  have lc : GL c = some (.lst ys) := by rw [← hGL, over_at gc (by simp)]; exact hcl
  have lin : ∀ b o, GL b = some o → G b = none → b ∈ [a, r, c] := fun b o e g => by
    rw [← hGL] at e
    unfold over at e
    rw [g] at e
    by_cases m : b ∈ [a, r, c]
    · exact m
    · simp only [m, if_false] at e
      cases e
  have hob : Rep K GL (.ref a) (.ob rows cls) := .ob hC la lr lc (r1.mono sL) (r2.mono sL)
  cases eg : putG msp e2 e4 rows cls d with
  | stuck => rw [eg] at h; exact False.elim h
  | exc => rw [eg] at h; exact False.elim h
  | ok q0 =>
    rw [eg] at h
    obtain ⟨rest, parts, em, hq⟩ := putG_inv eg
    refine ⟨_, rfl, a, dx, _, rfl, ha, spF_no _ _ (by decide +kernel) (by decide +kernel), _, rfl, rfl, GL, [.ob rows cls, d], LH, .cons hob (.cons (rv.mono sL) .nil), ?_⟩
    rw [em]
    intro v1 G1 H1 E1 q1
    rcases q1 with ⟨_, _, _, _, e', _⟩ | ⟨t, p, q, ds, es, rfl, e', nt, np, nq, ht, rp, rq⟩ | ⟨t, q, xs', ds, x', u', Gm, e1, e', nx, _⟩
    · cases e'
    rotate_left
    · have e' : MP.D.tup [.lst rest, .lst parts] = .tup [x', .lst ds] := e'
      injection e' with e'
      injection e' with e1 e'
      exact absurd e1.symm (nx _)
    have e' : MP.D.tup [.lst rest, .lst parts] = .tup [.lst ds, .lst es] := e'
    injection e' with e'
    injection e' with e1 e'
    injection e' with e2' _
    injection e1 with e1
    injection e2' with e2'
    subst e1 e2'
    refine ⟨t, [.ref p, .ref q], rfl, .inl (.inl (E1.sub _ _ ht)), rfl, _, _, rfl, _, _, rfl, rfl, ?_⟩
    have EV1 : EvRel K [.no, .sh d, .sh (.lst rest), .sh (.lst parts), .no, .no, .no] [some (.ref a), some v, some (.ref p), some (.ref q), none, none, none] G1 H1 := ⟨E1.sub, rfl, fun i sv hi => by
      match i, hi with
      | 0, hi => cases hi; trivial
      | 1, hi => cases hi; exact ⟨v, rfl, (rv.mono sL).mono E1.g⟩
      | 2, hi => cases hi; exact ⟨_, rfl, rp⟩
      | 3, hi => cases hi; exact ⟨_, rfl, rq⟩
      | 4, hi => cases hi; trivial
      | 5, hi => cases hi; trivial
      | 6, hi => cases hi; trivial
      | i + 7, hi => simp at hi⟩
    show rd K cl _ e2 [some (.ref a), some v, some (.ref p), some (.ref q), none, none, none] H1 _
    refine ⟨_, G1, EV1, ?_⟩
    rcases hq with ⟨h2, rfl⟩ | ⟨pv, mx, es, h2, h4, hes, nr, nm, l1, l2, rfl⟩
    · rw [h2]
      intro v2 G2 H2 E2 q2
      cases (show Rep K G2 v2 .non from q2)
      have EV2 : EvRel K [.no, .sh d, .sh (.lst rest), .sh (.lst parts), .sh .non, .no, .no] [some (.ref a), some v, some (.ref p), some (.ref q), some .non, none, none] G2 H2 := ⟨E2.sub, rfl, fun i sv hi => by
        match i, hi with
        | 0, hi => cases hi; trivial
        | 1, hi => cases hi; exact ⟨v, rfl, ((rv.mono sL).mono E1.g).mono E2.g⟩
        | 2, hi => cases hi; exact ⟨_, rfl, rp.mono E2.g⟩
        | 3, hi => cases hi; exact ⟨_, rfl, rq.mono E2.g⟩
        | 4, hi => cases hi; exact ⟨_, rfl, .non⟩
        | 5, hi => cases hi; trivial
        | 6, hi => cases hi; trivial
        | i + 7, hi => simp at hi⟩
      refine ⟨_, G2, EV2, ?_⟩
      show Kt cl _ _ G2 H2 (Res.ok (.bl true, .sh)) _
      intro G3 H3 E3
      refine iteT ?_
      have sH : Same H H3 := E1.h.trans (E2.h.trans E3.h)
      exact h G H3 xs ys ⟨Same.refl _, fun b o z _ _ => sH _ _ z, sm.trans sH, fun b o z1 z2 => by rw [z2] at z1; cases z1⟩ (sH _ _ hrr) (sH _ _ hcl) r1 r2
    · rw [h2]
      intro v2 G2 H2 E2 q2
      cases (show Rep K G2 v2 (.int pv) from q2)
      have EV2 : ∀ {G2' H2' : Hp}, Ext G1 H1 G2' H2' → EvRel K [.no, .sh d, .sh (.lst rest), .sh (.lst parts), .sh (.int pv), .no, .no] [some (.ref a), some v, some (.ref p), some (.ref q), some (.int pv), none, none] G2' H2' := fun {G2' H2'} E2 => ⟨E2.sub, rfl, fun i sv hi => by
        match i, hi with
        | 0, hi => cases hi; trivial
        | 1, hi => cases hi; exact ⟨v, rfl, ((rv.mono sL).mono E1.g).mono E2.g⟩
        | 2, hi => cases hi; exact ⟨_, rfl, rp.mono E2.g⟩
        | 3, hi => cases hi; exact ⟨_, rfl, rq.mono E2.g⟩
        | 4, hi => cases hi; exact ⟨_, rfl, .int pv⟩
        | 5, hi => cases hi; trivial
        | 6, hi => cases hi; trivial
        | i + 7, hi => simp at hi⟩
      refine ⟨_, G2, EV2 E2, ?_⟩
      show Kt cl _ _ G2 H2 (Res.ok (.bl false, .sh)) _
      intro G3 H3 E3
      refine iteF ?_
      show rd K cl _ e4 [some (.ref a), some v, some (.ref p), some (.ref q), some (.int pv), none, none] H3 _
      refine ⟨_, G3, EV2 (E2.trans E3), ?_⟩
      rw [h4]
      intro v4 G4 H4 E4 q4
      rcases q4 with ⟨pm, xm, dm, rfl, e', n3, hm4, gm4, rm⟩ | q4
      rotate_left
      · exact q4.nolst.elim
      have e' : MP.D.lst mx = .lst dm := e'
      injection e' with e'
      subst e'
      -- the heap so far
      have EA : Ext GL H G4 H4 := E1.trans (E2.trans (E3.trans E4))
      have h3 : Same H H3 := E1.h.trans (E2.h.trans E3.h)
      have ha4 := EA.h _ _ ha
      have hr4 := EA.h _ _ hrr
      have hc4 := EA.h _ _ hcl
      have hH4 : Same H H4 := EA.h
      have rp4 : Rep K G4 (.ref p) (.lst rest) := rp.mono (E2.g.trans (E3.g.trans E4.g))
      obtain ⟨xp, gp4, rrest⟩ : ∃ xp, G4 p = some (.lst xp) ∧ RepL K G4 xp rest := by
        cases rp4 with
        | lst z1 z2 => exact ⟨_, z1, z2⟩
      obtain ⟨pr, xr, rfl, hrow, rrow⟩ : ∃ pr xr, v = .ref pr ∧ (∀ H', Same G H' → SqL K H' pr xr ∨ SqT K H' pr xr) ∧ RepL K G xr es := by
        rcases seqOf_inv hes with rfl | rfl
        · cases rv with
          | lst z1 z2 => exact ⟨_, _, rfl, fun H' s => .inl (SqL.of (s _ _ z1)), z2⟩
        · cases rv with
          | tup z1 z2 => exact ⟨_, _, rfl, fun H' s => .inr (seqT s z1), z2⟩
      refine ⟨_, rfl, a, C, dx, _, _, rfl, ha4, hC.cl, hC.nC, spF_cleared _ _, .inl ⟨rfl, _, SqL.of hc4⟩, _, rfl, _, rfl, _, rfl, by rw [szl]; show 3 ≤ _; decide, fun tt ntt => ?_⟩
      have tc : c ≠ tt := ne_of_none hc4 ntt
      have tr : r ≠ tt := ne_of_none hr4 ntt
      have ta : a ≠ tt := ne_of_none ha4 ntt
      refine ⟨c, ys, .ref tt, rfl, rfl, (by rw [upd_ne tc]; exact hc4), (by rw [r2.len, szl]; exact l2), ?_⟩
      have sG4 : Same G H4 := sm.trans hH4
      have sG5 : Same G (upd (upd H4 tt (.tup [.int pv, .ref p, .ref pm])) c (.lst (ys ++ [.ref tt]))) := fun b o z => by
        rw [upd_ne (ne_of_none z gc), upd_ne (ne_of_none (sG4 _ _ z) ntt)]
        exact sG4 _ _ z
      refine ⟨_, rfl, a, C, dx, _, _, rfl, (by rw [upd_ne nac, upd_ne ta]; exact ha4), hC.cl, hC.nR, spF_rows _ _, .inl ⟨rfl, _, SqL.of (xs := xs) (by rw [upd_ne rc, upd_ne tr]; exact hr4)⟩, _, rfl, pr, xr, rfl, hrow _ sG5, fun l nl => ?_⟩
      have lc' : l ≠ c := fun e => by subst e; rw [upd_same] at nl; cases nl
      have lt' : l ≠ tt := fun e => by subst e; rw [upd_ne tc.symm, upd_same] at nl; cases nl
      have nl4 : H4 l = none := by rw [upd_ne lc', upd_ne lt'] at nl; exact nl
      have lr' : l ≠ r := fun e => by subst e; rw [nl4] at hr4; cases hr4
      have la' : l ≠ a := fun e => by subst e; rw [nl4] at ha4; cases ha4
      refine ⟨r, xs, .ref l, rfl, rfl, (by rw [upd_ne lr'.symm, upd_ne rc, upd_ne tr]; exact hr4), (by rw [r1.len, szl]; exact l1), ?_⟩
      show Q (.bl true) _
      -- what is plain at the end
      have mL : ∀ b, b ∈ [a, r, c] ↔ b = a ∨ b = r ∨ b = c := fun b => by simp
      have pmr : pm ≠ r := fun e => by subst e; rw [h3 _ _ hrr] at n3; cases n3
      have pmc : pm ≠ c := fun e => by subst e; rw [h3 _ _ hcl] at n3; cases n3
      have pma : pm ≠ a := fun e => by subst e; rw [h3 _ _ ha] at n3; cases n3
      have pmt : pm ≠ tt := ne_of_none hm4 ntt
      have pml : pm ≠ l := ne_of_none hm4 nl4
      have hp4 : H4 p = some (.lst xp) := EA.sub _ _ gp4
      have pr' : p ≠ r := fun e => by subst e; rw [hrr] at np; cases np
      have pc' : p ≠ c := fun e => by subst e; rw [hcl] at np; cases np
      have pa' : p ≠ a := fun e => by subst e; rw [ha] at np; cases np
      have ppm : p ≠ pm := fun e => by subst e; rw [gm4] at gp4; cases gp4
      have pt' : p ≠ tt := ne_of_none hp4 ntt
      have pl' : p ≠ l := ne_of_none hp4 nl4
      have hL : ∀ b ∈ [a, r, c], ∀ zs, G4 b ≠ some (.tup zs) ∧ ∀ f, G4 b ≠ some (.frz f (.tup zs)) := fun b m zs => by
        rcases (mL b).mp m with rfl | rfl | rfl
        · rw [EA.g _ _ la]
          exact ⟨(fun z => by cases z), (fun _ z => by cases z)⟩
        · rw [EA.g _ _ lr]
          exact ⟨(fun z => by cases z), (fun _ z => by cases z)⟩
        · rw [EA.g _ _ lc]
          exact ⟨(fun z => by cases z), (fun _ z => by cases z)⟩
      obtain ⟨G5, hG5⟩ : ∃ G5, upd (upd (upd (strip G4 [a, r, c]) pm (.lst xm)) tt (.tup [.int pv, .ref p, .ref pm])) l (.lst xr) = G5 := ⟨_, rfl⟩
      have s4t : G4 tt = none := EA.sub.free ntt
      have s4l : G4 l = none := EA.sub.free nl4
      have sS : Same (strip G4 [a, r, c]) G5 := fun b o z => by
        have z4 := strip_same _ _ z
        rw [← hG5, upd_ne (ne_of_none z4 s4l), upd_ne (ne_of_none z4 s4t), upd_ne (ne_of_none z4 gm4)]
        exact z
      have sG : Same G G5 := fun b o z => by
        refine sS _ _ ?_
        have m : b ∉ [a, r, c] := fun m => by
          rcases (mL b).mp m with rfl | rfl | rfl
          · rw [ga] at z; cases z
          · rw [gr] at z; cases z
          · rw [gc] at z; cases z
        rw [strip_at m]
        exact EA.g _ _ (sL _ _ z)
      have g5p : G5 p = some (.lst xp) := sS _ _ ((strip_at (fun m => ((mL p).mp m).elim pa' fun e => e.elim pr' pc')).trans gp4)
      have g5l : G5 l = some (.lst xr) := by rw [← hG5, upd_same]
      have g5t : G5 tt = some (.tup [.int pv, .ref p, .ref pm]) := by rw [← hG5, upd_ne lt'.symm, upd_same]
      have g5m : G5 pm = some (.lst xm) := by rw [← hG5, upd_ne pml, upd_ne pmt, upd_same]
      refine h G5 _ (xs ++ [.ref l]) (ys ++ [.ref tt]) ⟨sG, fun b o z nr nc => ?_, fun b o z => ?_, fun b o z g => ?_⟩ upd_same ?_ ((r1.mono sG).app (.cons (.lst g5l (rrow.mono sG)) .nil))
        ((r2.mono sG).app (.cons (.tup (.inl (.inl g5t)) (.cons (.int pv) (.cons (.lst g5p ((reps_strip hL rrest nr).mono sS)) (.cons (.lst g5m ((reps_strip hL rm nm).mono sS)) .nil)))) .nil))
      · have z4 := hH4 _ _ z
        rw [upd_ne nr, upd_ne (ne_of_none z4 nl4), upd_ne nc, upd_ne (ne_of_none z4 ntt)]
        exact z4
      · by_cases e1 : b = l
        · subst e1
          rw [g5l] at z
          rw [upd_ne lr', upd_same]
          exact z
        · by_cases e2 : b = tt
          · subst e2
            rw [g5t] at z
            rw [upd_ne tr.symm, upd_ne e1, upd_ne tc.symm, upd_same]
            exact z
          · by_cases e3 : b = pm
            · subst e3
              rw [g5m] at z
              rw [upd_ne pmr, upd_ne e1, upd_ne pmc, upd_ne e2]
              exact hm4.trans z
            · rw [← hG5, upd_ne e1, upd_ne e2, upd_ne e3] at z
              have m : b ∉ [a, r, c] := fun m => by rw [strip_no m] at z; cases z
              rw [strip_at m] at z
              rw [upd_ne (fun e => m ((mL b).mpr (.inr (.inl e)))), upd_ne e1, upd_ne (fun e => m ((mL b).mpr (.inr (.inr e)))), upd_ne e2]
              exact EA.sub _ _ z
      · by_cases e1 : b = l
        · subst e1; exact hH4.free nl4
        · by_cases e2 : b = tt
          · subst e2; exact hH4.free ntt
          · by_cases e3 : b = pm
            · subst e3; exact h3.free n3
            · rw [← hG5, upd_ne e1, upd_ne e2, upd_ne e3] at z
              have m : b ∉ [a, r, c] := fun m => by rw [strip_no m] at z; cases z
              rw [strip_at m] at z
              cases z2 : GL b with
              | some u => exact absurd (lin b u z2 g) m
              | none => exact EA.new b o z z2
      · rw [upd_ne rc.symm, upd_ne lc'.symm, upd_same]
end
end MP
set_option Elab.async false
set_option linter.all false
/-! fractions: what lowest computes; a common bottom and a bound -/
namespace WM

theorem div_num (t b : Int) (hb : b ≠ 0) : t.fdiv (b.sign * (Int.gcd t b : Int)) = ((t : Rat) / (b : Rat)).num := by
  rw [← Rat.divInt_eq_div, Rat.num_divInt]
  have hg : (Int.gcd t b : Int) ∣ t := Int.gcd_dvd_left t b
  have hg0 : (Int.gcd t b : Int) ≠ 0 := by
    intro h
    have : Int.gcd t b = 0 := by omega
    rw [Int.gcd_eq_zero_iff] at this
    exact hb this.2
  rw [Int.gcd_comm b t]
  obtain ⟨k, hk⟩ := hg
  rcases Int.lt_or_gt_of_ne hb with h | h
  · rw [Int.sign_eq_neg_one_of_neg h]
    generalize (Int.gcd t b : Int) = g at *
    subst hk
    rw [show (-1 : Int) * g = -g by omega, show (-1 : Int) * (g * k) = g * (-k) by rw [Int.mul_neg]; omega, Int.mul_ediv_cancel_left _ hg0]
    rw [show g * k = (-g) * (-k) by rw [Int.neg_mul_neg], Int.mul_fdiv_cancel_left _ (by omega)]
  · rw [Int.sign_eq_one_of_pos h]
    generalize (Int.gcd t b : Int) = g at *
    subst hk
    rw [Int.one_mul, Int.one_mul, Int.mul_ediv_cancel_left _ hg0, Int.mul_fdiv_cancel_left _ hg0]
theorem div_den (t b : Int) (hb : b ≠ 0) : b.fdiv (b.sign * (Int.gcd t b : Int)) = (((t : Rat) / (b : Rat)).den : Int) := by
  rw [← Rat.divInt_eq_div, Rat.den_divInt, if_neg hb, Int.gcd_comm b t]
  have hg : (Int.gcd t b : Int) ∣ b := Int.gcd_dvd_right t b
  have hg0 : (Int.gcd t b : Int) ≠ 0 := by
    intro h
    have : Int.gcd t b = 0 := by omega
    rw [Int.gcd_eq_zero_iff] at this
    exact hb this.2
  generalize Int.gcd t b = g at *
  obtain ⟨k, hk⟩ := hg
  rw [Int.natCast_ediv]
  rcases Int.lt_or_gt_of_ne hb with h | h
  · rw [Int.sign_eq_neg_one_of_neg h, show ((b.natAbs : Nat) : Int) = -b by omega]
    subst hk
    rw [show (-1 : Int) * (g : Int) = -(g : Int) by omega, show -((g : Int) * k) = g * (-k) by rw [Int.mul_neg], Int.mul_ediv_cancel_left _ hg0]
    rw [show (g : Int) * k = (-(g : Int)) * (-k) by rw [Int.neg_mul_neg], Int.mul_fdiv_cancel_left _ (by omega)]
  · rw [Int.sign_eq_one_of_pos h, show ((b.natAbs : Nat) : Int) = b by omega]
    subst hk
    rw [Int.one_mul, Int.mul_ediv_cancel_left _ hg0, Int.mul_fdiv_cancel_left _ hg0]

/-- q times D is a whole number of at most N -/
def Fit (D N : Nat) (q : Rat) : Prop := 0 < D ∧ ∃ z : Int, q * (D : Rat) = (z : Rat) ∧ z.natAbs ≤ N
theorem ratnum (q : Rat) : q * (q.den : Rat) = (q.num : Rat) := by
  have h := Rat.num_divInt_den q
  rw [Rat.divInt_eq_div, Rat.intCast_natCast] at h
  have hd : (q.den : Rat) ≠ 0 := by
    have := q.den_pos
    exact fun e => by
      have : (q.den : Rat) = ((0 : Nat) : Rat) := e
      have := Rat.natCast_inj.mp this
      omega
  grind
theorem cast_inj' {a b : Int} (h : (a : Rat) = (b : Rat)) : a = b := by
  exact Rat.intCast_inj.mp h
theorem Fit.cross {D N : Nat} {q : Rat} (h : Fit D N q) : ∃ z : Int, z.natAbs ≤ N ∧ q.num * (D : Int) = z * (q.den : Int) := by
  obtain ⟨h0, z, h1, h2⟩ := h
  refine ⟨z, h2, ?_⟩
  have e := ratnum q
  apply cast_inj'
  rw [Rat.intCast_mul, Rat.intCast_mul, Rat.intCast_natCast, Rat.intCast_natCast]
  grind
theorem Fit.den_dvd {D N : Nat} {q : Rat} (h : Fit D N q) : q.den ∣ D := by
  obtain ⟨z, _, e⟩ := h.cross
  have c : Nat.Coprime q.den q.num.natAbs := q.reduced.symm
  have d : q.den ∣ q.num.natAbs * D := by
    have z1 : q.num.natAbs * D = z.natAbs * q.den := by
      have := congrArg Int.natAbs e
      rw [Int.natAbs_mul, Int.natAbs_mul, Int.natAbs_natCast, Int.natAbs_natCast] at this
      exact this
    rw [z1]
    exact Nat.dvd_mul_left _ _
  exact c.dvd_of_dvd_mul_left d
theorem Fit.den_le {D N : Nat} {q : Rat} (h : Fit D N q) : q.den ≤ D := Nat.le_of_dvd h.1 h.den_dvd
theorem Fit.num_le {D N : Nat} {q : Rat} (h : Fit D N q) : q.num.natAbs ≤ N := by
  obtain ⟨z, hz, e⟩ := h.cross
  have hd := h.den_le
  have hp := q.den_pos
  have z1 : q.num.natAbs * D = z.natAbs * q.den := by
    have := congrArg Int.natAbs e
    rw [Int.natAbs_mul, Int.natAbs_mul, Int.natAbs_natCast, Int.natAbs_natCast] at this
    exact this
  have : q.num.natAbs * q.den ≤ z.natAbs * q.den := by
    rw [← z1]
    exact Nat.mul_le_mul_left _ hd
  have := Nat.le_of_mul_le_mul_right this hp
  omega
theorem Fit.zero {D N : Nat} (h : 0 < D) : Fit D N 0 := ⟨h, 0, by grind, by simp⟩
theorem Fit.mono {D N M : Nat} {q : Rat} (h : Fit D N q) (l : N ≤ M) : Fit D M q := by
  obtain ⟨h0, z, h1, h2⟩ := h
  exact ⟨h0, z, h1, by omega⟩
theorem Fit.add {D N M : Nat} {p q : Rat} (h : Fit D N p) (k : Fit D M q) : Fit D (N + M) (p + q) := by
  obtain ⟨h0, z, h1, h2⟩ := h
  obtain ⟨k0, w, k1, k2⟩ := k
  exact ⟨h0, z + w, by rw [Rat.intCast_add]; grind, by omega⟩
theorem Fit.neg {D N : Nat} {p : Rat} (h : Fit D N p) : Fit D N (-p) := by
  obtain ⟨h0, z, h1, h2⟩ := h
  exact ⟨h0, -z, by rw [Rat.intCast_neg]; grind, by omega⟩
theorem Fit.sub {D N M : Nat} {p q : Rat} (h : Fit D N p) (k : Fit D M q) : Fit D (N + M) (p - q) := by
  rw [Rat.sub_eq_add_neg]
  exact h.add k.neg
theorem Fit.mul {D E N M : Nat} {p q : Rat} (h : Fit D N p) (k : Fit E M q) : Fit (D * E) (N * M) (p * q) := by
  obtain ⟨h0, z, h1, h2⟩ := h
  obtain ⟨k0, w, k1, k2⟩ := k
  refine ⟨Nat.mul_pos h0 k0, z * w, ?_, ?_⟩
  · rw [Rat.intCast_mul, Rat.natCast_mul]; grind
  · rw [Int.natAbs_mul]; exact Nat.mul_le_mul h2 k2
theorem Fit.scale {D N : Nat} {p : Rat} (E : Nat) (hE : 0 < E) (h : Fit D N p) : Fit (D * E) (N * E) p := by
  obtain ⟨h0, z, h1, h2⟩ := h
  refine ⟨Nat.mul_pos h0 hE, z * E, ?_, ?_⟩
  · rw [Rat.intCast_mul, Rat.natCast_mul, Rat.intCast_natCast]; grind
  · rw [Int.natAbs_mul, Int.natAbs_natCast]; exact Nat.mul_le_mul_right _ h2
theorem Fit.self (q : Rat) : Fit q.den q.num.natAbs q := ⟨q.den_pos, q.num, ratnum q, Nat.le_refl _⟩
end WM
set_option Elab.async false
set_option linter.all false
set_option maxRecDepth 100000
set_option maxHeartbeats 4000000
namespace MP
open PySem PySem.Spec PyProof.Rows L2
/-! evaluating mirrors -/
theorem atI_nat {α : Type} (xs : List α) (k : Nat) : atI xs (k : Int) = xs[k]? := by
  unfold atI ixN
  by_cases h : k < xs.length
  · rw [if_pos (by omega), if_pos (by omega)]; simp
  · rw [if_pos (by omega), if_neg (by omega)]; simp; omega
@[simp] theorem atI_0 {α : Type} (xs : List α) : atI xs 0 = xs[0]? := atI_nat xs 0
@[simp] theorem atI_1 {α : Type} (xs : List α) : atI xs 1 = xs[1]? := atI_nat xs 1
@[simp] theorem atI_2 {α : Type} (xs : List α) : atI xs 2 = xs[2]? := atI_nat xs 2
@[simp] theorem bindS_ok {α : Type} (S : List SV) (a : α) (f : α → SRes) : bindS S (.ok a) f = f a := rfl
@[simp] theorem isBl_bl (b : Bool) : isBl (.bl b) = true := rfl
theorem while_go {c : List SV → Res (D × Kd)} {f : List SV → SRes} {n : Nat} {S S2 : List SV} {k : Kd} (hc : c S = .ok (.bl true, k)) (hf : f S = .nx S2) : whileL c f (n + 1) S = whileL c f n S2 := by
  rw [whileL, hc]
  show (match f S with | .nx S2 => whileL c f n S2 | r => r) = _
  rw [hf]
theorem while_end {c : List SV → Res (D × Kd)} {f : List SV → SRes} {n : Nat} {S : List SV} {k : Kd} (hc : c S = .ok (.bl false, k)) : whileL c f (n + 1) S = .nx S := by
  rw [whileL, hc]; rfl
theorem for_go {f : List SV → SRes} {tg : List SV → D → Option (List SV)} {x : D} {xs : List D} {S S1 S2 : List SV} (ht : tg S x = some S1) (hf : f S1 = .nx S2) : forL f tg (x :: xs) S = forL f tg xs S2 := by
  rw [forL, ht]
  show (match f S1 with | .nx S2 => forL f tg xs S2 | r => r) = _
  rw [hf]
theorem fuel_pos : ∃ m, fuel = m + 1 := ⟨fuel - 1, by have : 0 < 2 ^ 9000 := Nat.pow_pos (by decide); have := fuel_ge; omega⟩
/-- the loop of lowest, _law_low -/
def gcdB : List MS := [.set 4 (.bin .mod (.loc 2) (.loc 3)), .set 2 (.loc 3), .set 3 (.loc 4)]
def gcdC : ME := .cmp .gt (.loc 3) (.int 0)
theorem gcd_loop (fu : Nat) (t bt s4 : SV) : ∀ (n a b : Nat), b < n → ∃ s, whileL (evE gcdC) (exSs fu gcdB) n [t, bt, .sh (.int a), .sh (.int b), s4] = .nx [t, bt, .sh (.int (Nat.gcd a b)), .sh (.int 0), s] := by
  intro n
  induction n generalizing s4 with
  | zero => intro a b h; omega
  | succ n ih =>
    intro a b h
    by_cases hb : b = 0
    · subst hb
      refine ⟨s4, ?_⟩
      rw [while_end (k := .sh) (by simp [gcdC, evE, evCmp])]
      simp
    · have h1 : (0 : Int) < (b : Int) := by omega
      have h2 : (a : Int).fmod (b : Int) = ((a % b : Nat) : Int) := by
        rw [Int.fmod_eq_emod_of_nonneg _ (by omega)]; rfl
      obtain ⟨s, hs⟩ := ih (.sh (.int ((a % b : Nat) : Int))) b (a % b) (by have := Nat.mod_lt a (Nat.pos_of_ne_zero hb); omega)
      refine ⟨s, ?_⟩
      rw [while_go (k := .sh) (S2 := [t, bt, .sh (.int (b : Int)), .sh (.int ((a % b : Nat) : Int)), .sh (.int ((a % b : Nat) : Int))]) (by simp [gcdC, evE, evCmp]; omega) (by simp [gcdB, exSs, exS, evE, evBin, hb, h2]), hs]
      rw [Nat.gcd_comm a b, Nat.gcd_rec b a, Nat.gcd_comm]
end MP
set_option Elab.async false
set_option linter.all false
set_option maxRecDepth 100000
set_option maxHeartbeats 4000000
namespace MP
open PySem PySem.Spec PyProof.Rows L2 WM
noncomputable def wb_lowest_1 : List MS := [.set 4 (.bin .mod (.loc 2) (.loc 3)), .set 2 (.loc 3), .set 3 (.loc 4)]
def wc_lowest_1 : ME := (.cmp .gt (.loc 3) (.int 0))
noncomputable def w_lowest_1 : MS := .whil wc_lowest_1 wb_lowest_1
noncomputable def b_lowest : List MS := [.set 2 (.blt .abs [(.loc 0)]), .set 3 (.blt .abs [(.loc 1)]), w_lowest_1, .ife (.cmp .lt (.loc 1) (.int 0)) [.set 2 (.bin .sub (.int 0) (.loc 2))] [], .ret (.tup [(.bin .fdiv (.loc 0) (.loc 2)), (.bin .fdiv (.loc 1) (.loc 2))])]
noncomputable def m_lowest : Fn := mirror 5 fuel b_lowest
/-- a fraction as the program has it -/
def fr (q : Rat) : D := .tup [.int q.num, .int q.den]
theorem lt_fuel {n : Nat} (h : n < 2 ^ 9000) : n < fuel := Nat.lt_of_lt_of_le h fuel_ge
theorem gcdI_pos {t b : Int} (hb : b ≠ 0) : 0 < Int.gcd t b := by
  rcases Nat.eq_zero_or_pos (Int.gcd t b) with h | h
  · rw [Int.gcd_eq_zero_iff] at h
    exact absurd h.2 hb
  · exact h
theorem gcdI_le {t b : Int} (hb : b ≠ 0) : Int.gcd t b ≤ b.natAbs := Nat.le_of_dvd (by omega) (by
  have := Int.gcd_dvd_right t b
  exact Int.natAbs_dvd_natAbs.mpr this)
theorem log_lt {n : Nat} (h0 : 0 < n) (h : n < 2 ^ 9000) : n.log2 < 9000 := (Nat.log2_lt (by omega)).mpr h
theorem abs_eq (i : Int) : (if i < 0 then -i else i) = (i.natAbs : Int) := by omega
theorem lowest_ok (t b : Int) (hb : b ≠ 0) (h : b.natAbs < 2 ^ 9000) : m_lowest [.int t, .int b] = .ok (fr ((t : Rat) / (b : Rat)), false) := by
  obtain ⟨s, hs⟩ := gcd_loop fuel (.sh (.int t)) (.sh (.int b)) .no fuel t.natAbs b.natAbs (lt_fuel h)
  have hg := gcdI_pos (t := t) hb
  have hl := log_lt hg (Nat.lt_of_le_of_lt (gcdI_le hb) h)
  have hw : exS fuel w_lowest_1 [.sh (.int t), .sh (.int b), .sh (.int (t.natAbs : Int)), .sh (.int (b.natAbs : Int)), .no] = .nx [.sh (.int t), .sh (.int b), .sh (.int (Int.gcd t b)), .sh (.int 0), s] := by
    rw [w_lowest_1, exS]
    exact hs
  have e1 := div_num t b hb
  have e2 := div_den t b hb
  generalize Int.gcd t b = g at *
  have hg0 : g ≠ 0 := by omega
  unfold m_lowest mirror b_lowest
  rcases Int.lt_or_gt_of_ne hb with hn | hn
  · rw [Int.sign_eq_neg_one_of_neg hn, show (-1 : Int) * (g : Int) = -(g : Int) by omega] at e1 e2
    simp [exSs, exS, evE, evEs, evBlt, args1, abs_eq, hw, evCmp, hn, evBin, hasBo, hg0, hl, e1, e2, fr]
  · rw [Int.sign_eq_one_of_pos hn, Int.one_mul] at e1 e2
    have hn' : ¬ b < 0 := by omega
    simp [exSs, exS, evE, evEs, evBlt, args1, abs_eq, hw, evCmp, hn', evBin, hasBo, hg0, hl, e1, e2, fr]
noncomputable def wb_law_low_1 : List MS := [.set 4 (.bin .mod (.loc 2) (.loc 3)), .set 2 (.loc 3), .set 3 (.loc 4)]
def wc_law_low_1 : ME := (.cmp .gt (.loc 3) (.int 0))
noncomputable def w_law_low_1 : MS := .whil wc_law_low_1 wb_law_low_1
noncomputable def b_law_low : List MS := [.set 2 (.blt .abs [(.loc 0)]), .set 3 (.loc 1), w_law_low_1, .ret (.tup [(.bin .fdiv (.loc 0) (.loc 2)), (.bin .fdiv (.loc 1) (.loc 2))])]
noncomputable def m_law_low : Fn := mirror 5 fuel b_law_low
theorem law_low_ok (t b : Int) (hb : 0 < b) (h : b.natAbs < 2 ^ 9000) : m_law_low [.int t, .int b] = .ok (fr ((t : Rat) / (b : Rat)), false) := by
  obtain ⟨s, hs⟩ := gcd_loop fuel (.sh (.int t)) (.sh (.int b)) .no fuel t.natAbs b.natAbs (lt_fuel h)
  have hb0 : b ≠ 0 := by omega
  have hg := gcdI_pos (t := t) hb0
  have hl := log_lt hg (Nat.lt_of_le_of_lt (gcdI_le hb0) h)
  have hw : exS fuel w_law_low_1 [.sh (.int t), .sh (.int b), .sh (.int (t.natAbs : Int)), .sh (.int b), .no] = .nx [.sh (.int t), .sh (.int b), .sh (.int (Int.gcd t b)), .sh (.int 0), s] := by
    rw [show ((b.natAbs : Nat) : Int) = b by omega] at hs
    rw [w_law_low_1, exS]
    exact hs
  have e1 := div_num t b hb0
  have e2 := div_den t b hb0
  generalize Int.gcd t b = g at *
  have hg0 : g ≠ 0 := by omega
  unfold m_law_low mirror b_law_low
  rw [Int.sign_eq_one_of_pos hb, Int.one_mul] at e1 e2
  simp [exSs, exS, evE, evEs, evBlt, args1, abs_eq, hw, evBin, hasBo, hg0, hl, e1, e2, fr]

/-! the four -/
noncomputable def b_plus : List MS := [.ret (.call "lowest" m_lowest [(.bin .add (.bin .mul (.sub (.loc 0) (.int 0)) (.sub (.loc 1) (.int 1))) (.bin .mul (.sub (.loc 1) (.int 0)) (.sub (.loc 0) (.int 1)))), (.bin .mul (.sub (.loc 0) (.int 1)) (.sub (.loc 1) (.int 1)))])]
noncomputable def m_plus : Fn := mirror 2 fuel b_plus
noncomputable def b_minus : List MS := [.ret (.call "lowest" m_lowest [(.bin .sub (.bin .mul (.sub (.loc 0) (.int 0)) (.sub (.loc 1) (.int 1))) (.bin .mul (.sub (.loc 1) (.int 0)) (.sub (.loc 0) (.int 1)))), (.bin .mul (.sub (.loc 0) (.int 1)) (.sub (.loc 1) (.int 1)))])]
noncomputable def m_minus : Fn := mirror 2 fuel b_minus
noncomputable def b_times : List MS := [.ret (.call "lowest" m_lowest [(.bin .mul (.sub (.loc 0) (.int 0)) (.sub (.loc 1) (.int 0))), (.bin .mul (.sub (.loc 0) (.int 1)) (.sub (.loc 1) (.int 1)))])]
noncomputable def m_times : Fn := mirror 2 fuel b_times
noncomputable def b_over : List MS := [.ret (.call "lowest" m_lowest [(.bin .mul (.sub (.loc 0) (.int 0)) (.sub (.loc 1) (.int 1))), (.bin .mul (.sub (.loc 0) (.int 1)) (.sub (.loc 1) (.int 0)))])]
noncomputable def m_over : Fn := mirror 2 fuel b_over
noncomputable def b_law_plus : List MS := [.ret (.call "_law_low" m_law_low [(.bin .add (.bin .mul (.sub (.loc 0) (.int 0)) (.sub (.loc 1) (.int 1))) (.bin .mul (.sub (.loc 1) (.int 0)) (.sub (.loc 0) (.int 1)))), (.bin .mul (.sub (.loc 0) (.int 1)) (.sub (.loc 1) (.int 1)))])]
noncomputable def m_law_plus : Fn := mirror 2 fuel b_law_plus
noncomputable def b_law_times : List MS := [.ret (.call "_law_low" m_law_low [(.bin .mul (.sub (.loc 0) (.int 0)) (.sub (.loc 1) (.int 0))), (.bin .mul (.sub (.loc 0) (.int 1)) (.sub (.loc 1) (.int 1)))])]
noncomputable def m_law_times : Fn := mirror 2 fuel b_law_times
/-- its numbers are of no concern to the products -/
def Sz (q : Rat) : Prop := q.num.natAbs.log2 < 400000 ∧ q.den.log2 < 400000
theorem den0 (q : Rat) : (q.den : Rat) ≠ 0 := by
  have := q.den_pos
  intro e
  have e : (q.den : Rat) = ((0 : Nat) : Rat) := e
  have := Rat.natCast_inj.mp e
  omega
theorem num_eq (q : Rat) : (q.num : Rat) = q * (q.den : Rat) := (ratnum q).symm
theorem dd_lt {a b : Nat} (h : a * b < 2 ^ 9000) : ((a : Int) * (b : Int)).natAbs < 2 ^ 9000 := by
  rw [Int.natAbs_mul, Int.natAbs_natCast, Int.natAbs_natCast]; exact h
theorem dd_pos (p q : Rat) : (0 : Int) < (p.den : Int) * (q.den : Int) := Int.mul_pos (by have := p.den_pos; omega) (by have := q.den_pos; omega)
theorem add_cross (p q : Rat) : ((p.num * (q.den : Int) + q.num * (p.den : Int) : Int) : Rat) / (((p.den : Int) * (q.den : Int) : Int) : Rat) = p + q := by
  have h1 := den0 p
  have h2 := den0 q
  simp only [Rat.intCast_add, Rat.intCast_mul, Rat.intCast_natCast, num_eq]
  grind
theorem sub_cross (p q : Rat) : ((p.num * (q.den : Int) - q.num * (p.den : Int) : Int) : Rat) / (((p.den : Int) * (q.den : Int) : Int) : Rat) = p - q := by
  have h1 := den0 p
  have h2 := den0 q
  simp only [Rat.intCast_sub, Rat.intCast_mul, Rat.intCast_natCast, num_eq]
  grind
theorem mul_cross (p q : Rat) : ((p.num * q.num : Int) : Rat) / (((p.den : Int) * (q.den : Int) : Int) : Rat) = p * q := by
  have h1 := den0 p
  have h2 := den0 q
  simp only [Rat.intCast_mul, Rat.intCast_natCast, num_eq]
  grind
theorem div_cross (p q : Rat) (h : q ≠ 0) : ((p.num * (q.den : Int) : Int) : Rat) / (((p.den : Int) * q.num : Int) : Rat) = p / q := by
  have h1 := den0 p
  have h2 := den0 q
  simp only [Rat.intCast_mul, Rat.intCast_natCast, num_eq]
  grind
theorem nat_ok {a b : Nat} (h1 : a.log2 < 400000) (h2 : b.log2 < 400000) : a.log2 + b.log2 < 1000000 := by omega
theorem plus_ok (p q : Rat) (h1 : Sz p) (h2 : Sz q) (h : p.den * q.den < 2 ^ 9000) : m_plus [fr p, fr q] = .ok (fr (p + q), false) := by
  have hl := lowest_ok (p.num * q.den + q.num * p.den) (p.den * q.den) (by have := dd_pos p q; omega) (dd_lt h)
  rw [add_cross] at hl
  unfold m_plus mirror b_plus
  simp [exSs, exS, evE, evEs, fr, evSub, evBin, nat_ok h1.1 h2.2, nat_ok h2.1 h1.2, nat_ok h1.2 h2.2, args1, hl, hasBo]
theorem minus_ok (p q : Rat) (h1 : Sz p) (h2 : Sz q) (h : p.den * q.den < 2 ^ 9000) : m_minus [fr p, fr q] = .ok (fr (p - q), false) := by
  have hl := lowest_ok (p.num * q.den - q.num * p.den) (p.den * q.den) (by have := dd_pos p q; omega) (dd_lt h)
  rw [sub_cross] at hl
  unfold m_minus mirror b_minus
  simp [exSs, exS, evE, evEs, fr, evSub, evBin, nat_ok h1.1 h2.2, nat_ok h2.1 h1.2, nat_ok h1.2 h2.2, args1, hl, hasBo]
theorem times_ok (p q : Rat) (h1 : Sz p) (h2 : Sz q) (h : p.den * q.den < 2 ^ 9000) : m_times [fr p, fr q] = .ok (fr (p * q), false) := by
  have hl := lowest_ok (p.num * q.num) (p.den * q.den) (by have := dd_pos p q; omega) (dd_lt h)
  rw [mul_cross] at hl
  unfold m_times mirror b_times
  simp [exSs, exS, evE, evEs, fr, evSub, evBin, nat_ok h1.1 h2.1, nat_ok h2.1 h1.2, nat_ok h1.2 h2.2, args1, hl, hasBo]
theorem over_ok (p q : Rat) (h1 : Sz p) (h2 : Sz q) (h0 : q ≠ 0) (h : p.den * q.num.natAbs < 2 ^ 9000) : m_over [fr p, fr q] = .ok (fr (p / q), false) := by
  have hn : q.num ≠ 0 := fun e => h0 (Rat.num_eq_zero.mp e)
  have hl := lowest_ok (p.num * q.den) (p.den * q.num) (by
    intro e
    rcases Int.mul_eq_zero.mp e with z | z
    · have := p.den_pos; omega
    · exact hn z) (by rw [Int.natAbs_mul, Int.natAbs_natCast]; exact h)
  rw [div_cross p q h0] at hl
  unfold m_over mirror b_over
  simp [exSs, exS, evE, evEs, fr, evSub, evBin, nat_ok h1.1 h2.2, nat_ok h1.2 h2.1, args1, hl, hasBo]
theorem law_plus_ok (p q : Rat) (h1 : Sz p) (h2 : Sz q) (h : p.den * q.den < 2 ^ 9000) : m_law_plus [fr p, fr q] = .ok (fr (p + q), false) := by
  have hl := law_low_ok (p.num * q.den + q.num * p.den) (p.den * q.den) (dd_pos p q) (dd_lt h)
  rw [add_cross] at hl
  unfold m_law_plus mirror b_law_plus
  simp [exSs, exS, evE, evEs, fr, evSub, evBin, nat_ok h1.1 h2.2, nat_ok h2.1 h1.2, nat_ok h1.2 h2.2, args1, hl, hasBo]
theorem law_times_ok (p q : Rat) (h1 : Sz p) (h2 : Sz q) (h : p.den * q.den < 2 ^ 9000) : m_law_times [fr p, fr q] = .ok (fr (p * q), false) := by
  have hl := law_low_ok (p.num * q.num) (p.den * q.den) (dd_pos p q) (dd_lt h)
  rw [mul_cross] at hl
  unfold m_law_times mirror b_law_times
  simp [exSs, exS, evE, evEs, fr, evSub, evBin, nat_ok h1.1 h2.1, nat_ok h2.1 h1.2, nat_ok h1.2 h2.2, args1, hl, hasBo]
end MP
set_option Elab.async false
set_option linter.all false
set_option maxRecDepth 100000
set_option maxHeartbeats 4000000
namespace MP
open PySem PySem.Spec PyProof.Rows L2 WM
/-! equality of plain data -/
mutual
/-- plain data without bools, of a depth of at most n -/
def okD : Nat → D → Bool
  | _, .non => true
  | _, .int _ => true
  | _, .str s => PyData.canLay0 (.str s)
  | n + 1, .tup xs => okDs n xs
  | n + 1, .lst xs => okDs n xs
  | _, _ => false
def okDs : Nat → List D → Bool
  | _, [] => true
  | n, x :: xs => okD n x && okDs n xs
end
mutual
theorem okD_lay : ∀ (n : Nat) (d : D), okD n d = true → PyData.canLay0 (toPy d) = true ∧ PyData.depth (toPy d) ≤ n
  | _, .non, _ => ⟨rfl, Nat.zero_le _⟩
  | _, .int _, _ => ⟨rfl, Nat.zero_le _⟩
  | _, .str s, h => ⟨by unfold okD at h; exact h, Nat.zero_le _⟩
  | n + 1, .tup xs, h => by
    have z := okDs_lay n xs (by unfold okD at h; exact h)
    exact ⟨z.1, Nat.succ_le_succ z.2⟩
  | n + 1, .lst xs, h => by
    have z := okDs_lay n xs (by unfold okD at h; exact h)
    exact ⟨z.1, Nat.succ_le_succ z.2⟩
  | _, .bl _, h => by unfold okD at h; cases h
  | _, .scr _, h => by unfold okD at h; cases h
  | 0, .tup _, h => by unfold okD at h; cases h
  | 0, .lst _, h => by unfold okD at h; cases h
theorem okDs_lay : ∀ (n : Nat) (ds : List D), okDs n ds = true → PyData.canLayAll0 (toPys ds) = true ∧ PyData.depthAll (toPys ds) ≤ n
  | _, [], _ => ⟨rfl, Nat.zero_le _⟩
  | n, x :: xs, h => by
    unfold okDs at h
    rw [Bool.and_eq_true] at h
    have z1 := okD_lay n x h.1
    have z2 := okDs_lay n xs h.2
    unfold toPys PyData.canLayAll0 PyData.depthAll
    rw [z1.1, z2.1]
    exact ⟨rfl, Nat.max_le.mpr ⟨z1.2, z2.2⟩⟩
end
theorem okD_shaped {n : Nat} {d : D} (h : okD n d = true) (hn : n ≤ 64) : SeqAt.shaped (toPy d) = true := by
  have z := okD_lay n d h
  unfold SeqAt.shaped
  rw [z.1, Bool.true_and, decide_eq_true_eq]
  exact Nat.le_trans z.2 hn
mutual
theorem okD_eqv : ∀ (n : Nat) (d e : D), okD n d = true → okD n e = true → (PyData.eqv (toPy d) (toPy e) = true ↔ d = e)
  | n, .non, e, h, k => by cases e <;> first | (unfold okD at k; cases k; done) | (simp [toPy, PyData.eqv])
  | n, .int i, e, h, k => by cases e <;> first | (unfold okD at k; cases k; done) | (simp [toPy, PyData.eqv])
  | n, .str i, e, h, k => by cases e <;> first | (unfold okD at k; cases k; done) | (simp [toPy, PyData.eqv])
  | n + 1, .tup xs, e, h, k => by
    cases e <;> first
      | (unfold okD at k; cases k; done)
      | (simp [toPy, PyData.eqv]; done)
      | skip
    rename_i ys
    have z := okDs_eqv n xs ys (by unfold okD at h; exact h) (by unfold okD at k; exact k)
    simp [toPy, PyData.eqv, z]
  | n + 1, .lst xs, e, h, k => by
    cases e <;> first
      | (unfold okD at k; cases k; done)
      | (simp [toPy, PyData.eqv]; done)
      | skip
    rename_i ys
    have z := okDs_eqv n xs ys (by unfold okD at h; exact h) (by unfold okD at k; exact k)
    simp [toPy, PyData.eqv, z]
  | n, .bl _, _, h, _ => by unfold okD at h; cases h
  | n, .scr _, _, h, _ => by unfold okD at h; cases h
  | 0, .tup _, _, h, _ => by unfold okD at h; cases h
  | 0, .lst _, _, h, _ => by unfold okD at h; cases h
theorem okDs_eqv : ∀ (n : Nat) (d e : List D), okDs n d = true → okDs n e = true → (PyData.eqvAll (toPys d) (toPys e) = true ↔ d = e)
  | n, [], [], _, _ => by simp [toPys, PyData.eqvAll]
  | n, [], y :: ys, _, _ => by simp [toPys, PyData.eqvAll]
  | n, x :: xs, [], _, _ => by simp [toPys, PyData.eqvAll]
  | n, x :: xs, y :: ys, h, k => by
    unfold okDs at h k
    rw [Bool.and_eq_true] at h k
    have z1 := okD_eqv n x y h.1 k.1
    have z2 := okDs_eqv n xs ys h.2 k.2
    simp [toPys, PyData.eqvAll, z1, z2]
end
/-- == of plain data -/
theorem ev_eq {n : Nat} {d e : D} (h : okD n d = true) (k : okD n e = true) (hn : n ≤ 64) (p : Bool) (hp : d = e ↔ p = true) : evCmp .eq d e = .ok (.bl p, .sh) := by
  have hb : PyData.eqv (toPy d) (toPy e) = p := by
    rw [Bool.eq_iff_iff, okD_eqv n d e h k, hp]
  simp only [evCmp, okD_shaped h hn, okD_shaped k hn, hb, and_self, if_true]
theorem ev_ne {n : Nat} {d e : D} (h : okD n d = true) (k : okD n e = true) (hn : n ≤ 64) (p : Bool) (hp : d = e ↔ p = true) : evCmp .ne d e = .ok (.bl (!p), .sh) := by
  have hb : PyData.eqv (toPy d) (toPy e) = p := by
    rw [Bool.eq_iff_iff, okD_eqv n d e h k, hp]
  simp only [evCmp, okD_shaped h hn, okD_shaped k hn, hb, and_self, if_true]
@[simp] theorem ev_eqI (i j : Int) : evCmp .eq (.int i) (.int j) = .ok (.bl (decide (i = j)), .sh) := ev_eq (n := 0) rfl rfl (by decide) _ (by simp)
@[simp] theorem ev_neI (i j : Int) : evCmp .ne (.int i) (.int j) = .ok (.bl (!decide (i = j)), .sh) := ev_ne (n := 0) rfl rfl (by decide) _ (by simp)
theorem fr_inj {p q : Rat} : fr p = fr q ↔ p = q := by
  constructor
  · intro h
    unfold fr at h
    simp at h
    exact Rat.ext h.1 (Int.ofNat_inj.mp h.2)
  · rintro rfl; rfl
@[simp] theorem okD_fr (n : Nat) (q : Rat) : okD (n + 1) (fr q) = true := by simp [fr, okD, okDs]
@[simp] theorem ev_eqF (p q : Rat) : evCmp .eq (fr p) (fr q) = .ok (.bl (decide (p = q)), .sh) := ev_eq (n := 1) (by simp) (by simp) (by decide) _ (by rw [fr_inj]; simp)
@[simp] theorem ev_neF (p q : Rat) : evCmp .ne (fr p) (fr q) = .ok (.bl (!decide (p = q)), .sh) := ev_ne (n := 1) (by simp) (by simp) (by decide) _ (by rw [fr_inj]; simp)
/-! sums, products, quotients -/
@[simp] theorem ev_addI (i j : Int) : evBin .add (.int i) (.int j) = .ok (.int (i + j), .sh) := rfl
@[simp] theorem ev_subI (i j : Int) : evBin .sub (.int i) (.int j) = .ok (.int (i - j), .sh) := rfl
theorem ev_mod {i j : Int} (h : j ≠ 0) : evBin .mod (.int i) (.int j) = .ok (.int (i.fmod j), .sh) := by simp only [evBin, ne_eq, h, not_false_eq_true, if_true]
theorem ev_fdiv {i j : Int} (h : j ≠ 0) (k : j.natAbs < 2 ^ 9000) : evBin .fdiv (.int i) (.int j) = .ok (.int (i.fdiv j), .sh) := by
  have : j.natAbs.log2 < 9000 := (Nat.log2_lt (by omega)).mpr k
  simp only [evBin, ne_eq, h, not_false_eq_true, this, and_self, if_true]
theorem ev_mul64 {i j : Int} (h : j.natAbs < 2 ^ 64) : evBin .mul (.int i) (.int j) = .ok (.int (i * j), .sh) := by
  have z : i.natAbs.log2 + j.natAbs.log2 < 1000000 ∨ j.natAbs < 2 ^ 64 := .inr h
  simp only [evBin, z, if_true]
theorem ev_mul {i j : Int} (h1 : i.natAbs < 2 ^ 400000) (h2 : j.natAbs < 2 ^ 400000) : evBin .mul (.int i) (.int j) = .ok (.int (i * j), .sh) := by
  have l : ∀ n : Nat, n < 2 ^ 400000 → n.log2 ≤ 400000 := fun n h => by
    by_cases e : n = 0
    · subst e; simp
    · exact Nat.le_of_lt ((Nat.log2_lt e).mpr h)
  have z : i.natAbs.log2 + j.natAbs.log2 < 1000000 ∨ j.natAbs < 2 ^ 64 := .inl (by have := l _ h1; have := l _ h2; omega)
  simp only [evBin, z, if_true]
theorem ev_pow {i j : Int} (h : 0 ≤ j ∧ j.natAbs ≤ 1000000 ∧ i.natAbs < 2 ^ 64) : evBin .pow (.int i) (.int j) = .ok (.int (i ^ j.toNat), .sh) := by simp only [evBin, h, and_self, if_true]
theorem pow_up {n a b : Nat} (h : n < 2 ^ a) (l : a ≤ b) : n < 2 ^ b := Nat.lt_of_lt_of_le h (Nat.pow_le_pow_right (by decide) l)
theorem exSs_app (n : Nat) (b : List MS) : ∀ (a : List MS) (S : List SV), exSs n (a ++ b) S = match exSs n a S with | .nx S1 => exSs n b S1 | r => r
  | [], S => by rw [List.nil_append, exSs]
  | m :: ms, S => by
    rw [List.cons_append, exSs, exSs]
    cases exS n m S <;> simp [exSs_app n b ms]
theorem ev_mul9 {i j : Int} (h1 : i.natAbs < 2 ^ 9000) (h2 : j.natAbs < 2 ^ 9000) : evBin .mul (.int i) (.int j) = .ok (.int (i * j), .sh) := ev_mul (pow_up h1 (by decide)) (pow_up h2 (by decide))
theorem lt9 {n : Nat} (h : n ≤ 10 ^ 80) : n < 2 ^ 9000 := Nat.lt_of_le_of_lt h (by decide +kernel)
@[simp] theorem is_int (i : Int) (t : Ty) : evIs (.int i) t = .ok (.bl (evIsi (.int i) t), .sh) := rfl
@[simp] theorem is_bl (i : Bool) (t : Ty) : evIs (.bl i) t = .ok (.bl (evIsi (.bl i) t), .sh) := rfl
@[simp] theorem is_str (i : Str) (t : Ty) : evIs (.str i) t = .ok (.bl (evIsi (.str i) t), .sh) := rfl
@[simp] theorem is_non (t : Ty) : evIs .non t = .ok (.bl (evIsi .non t), .sh) := rfl
@[simp] theorem is_tup (i : List D) (t : Ty) : evIs (.tup i) t = .ok (.bl (evIsi (.tup i) t), .sh) := rfl
@[simp] theorem is_lst (i : List D) (t : Ty) : evIs (.lst i) t = .ok (.bl (evIsi (.lst i) t), .sh) := rfl
@[simp] theorem is_fr (q : Rat) (t : Ty) : evIs (fr q) t = .ok (.bl (evIsi (fr q) t), .sh) := rfl
@[simp] theorem isi_fr (q : Rat) : evIsi (fr q) .tuple = true := rfl
end MP
set_option Elab.async false
set_option linter.all false
set_option maxRecDepth 100000
set_option maxHeartbeats 4000000
namespace MP
open PySem PySem.Spec PyProof.Rows L2 WM
noncomputable def b_law_cell_at : List MS := [.ife (.cmp .lt (.loc 1) (.blt .len [(.loc 0)])) [.ret (.sub (.loc 0) (.loc 1))] [], .ret (.int 0)]
noncomputable def m_law_cell_at : Fn := mirror 2 fuel b_law_cell_at
noncomputable def b_law_whole : List MS := [.ret (.and (.isi (.loc 0) .int) (.not (.isi (.loc 0) .bool)))]
noncomputable def m_law_whole : Fn := mirror 1 fuel b_law_whole
noncomputable def b_law_proper : List MS := [.ife (.or (.not (.isi (.loc 0) .tuple)) (.or (.cmp .ne (.blt .len [(.loc 0)]) (.int 2)) (.or (.not (.call "_law_whole" m_law_whole [(.sub (.loc 0) (.int 0))])) (.not (.call "_law_whole" m_law_whole [(.sub (.loc 0) (.int 1))]))))) [.ret (.bl false)] [], .ret (.and (.cmp .gt (.sub (.loc 0) (.int 1)) (.int 0)) (.cmp .eq (.call "_law_low" m_law_low [(.sub (.loc 0) (.int 0)), (.sub (.loc 0) (.int 1))]) (.loc 0)))]
noncomputable def m_law_proper : Fn := mirror 1 fuel b_law_proper
/-- the k-th number of the script, or 0 -/
def cell (ns : List Int) (k : Nat) : Int := ns.getD k 0
theorem cell_at_ok (ns : List Int) (k : Nat) : m_law_cell_at [.scr ns, .int k] = .ok (.int (cell ns k), false) := by
  unfold m_law_cell_at mirror b_law_cell_at cell
  by_cases h : k < ns.length
  · have e : atI ns (k : Int) = some ns[k] := by rw [atI_nat]; simp [h]
    simp [exSs, exS, evE, evEs, evBlt, args1, evCmp, evSub, h, e]
  · simp [exSs, exS, evE, evEs, evBlt, args1, evCmp, evSub, h]
theorem whole_ok (i : Int) : m_law_whole [.int i] = .ok (.bl true, false) := by
  unfold m_law_whole mirror b_law_whole
  simp [exSs, exS, evE, evEs, evIsi]
theorem fr_self (q : Rat) : (q.num : Rat) / ((q.den : Int) : Rat) = q := by
  have h1 := den0 q
  rw [Rat.intCast_natCast, num_eq]
  grind
theorem proper_ok (q : Rat) (h : q.den < 2 ^ 9000) : m_law_proper [fr q] = .ok (.bl true, false) := by
  have hp : (0 : Int) < (q.den : Int) := by have := q.den_pos; omega
  have hl := law_low_ok q.num q.den hp (by rw [Int.natAbs_natCast]; exact h)
  rw [fr_self] at hl
  have he := ev_eqF q q
  unfold fr at he hl
  unfold m_law_proper mirror b_law_proper
  simp [exSs, exS, evE, evEs, fr, evIsi, evBlt, args1, evSub, whole_ok, hasBo, hl, he]
  have := q.den_pos
  simp [evCmp, this, he]
end MP
set_option Elab.async false
set_option linter.all false
set_option maxRecDepth 100000
set_option maxHeartbeats 4000000
namespace MP
open PySem PySem.Spec PyProof.Rows L2 WM
/-! loops and comprehensions -/
/-- a for over anything by an invariant -/
theorem for_inv {f : List SV → SRes} {tg : List SV → D → Option (List SV)} (P : Nat → List SV → Prop) : ∀ (xs : List D) (i : Nat) (S : List SV), P i S →
    (∀ (j : Nat) (x : D) (S : List SV), xs[j]? = some x → P (i + j) S → ∃ S1 S2, tg S x = some S1 ∧ f S1 = .nx S2 ∧ P (i + j + 1) S2) →
    ∃ S', forL f tg xs S = .nx S' ∧ P (i + xs.length) S'
  | [], i, S, h0, _ => ⟨S, by rw [forL], by simpa using h0⟩
  | x :: xs, i, S, h0, st => by
    obtain ⟨S1, S2, h1, h2, h3⟩ := st 0 x S rfl (by simpa using h0)
    obtain ⟨S', h4, h5⟩ := for_inv P xs (i + 1) S2 h3 (fun j y S hy hp => by
      have := st (j + 1) y S (by simpa using hy) (by rw [show i + (j + 1) = i + 1 + j by omega]; exact hp)
      rw [show i + (j + 1) + 1 = i + 1 + j + 1 by omega] at this
      exact this)
    refine ⟨S', by rw [for_go h1 h2, h4], ?_⟩
    rw [List.length_cons, show i + (xs.length + 1) = i + 1 + xs.length by omega]
    exact h5
theorem for_inv0 {f : List SV → SRes} {tg : List SV → D → Option (List SV)} (P : Nat → List SV → Prop) {xs : List D} {S : List SV} (h0 : P 0 S)
    (st : ∀ (j : Nat) (x : D) (S : List SV), xs[j]? = some x → P j S → ∃ S1 S2, tg S x = some S1 ∧ f S1 = .nx S2 ∧ P (j + 1) S2) :
    ∃ S', forL f tg xs S = .nx S' ∧ P xs.length S' := by
  have := for_inv (f := f) (tg := tg) P xs 0 S h0 (fun j x S hx hp => by
    rw [Nat.zero_add] at hp
    have := st j x S hx hp
    rw [Nat.zero_add]
    exact this)
  rw [Nat.zero_add] at this
  exact this
/-- a for over range(n) by an invariant -/
theorem for_rng {f : List SV → SRes} {tg : List SV → D → Option (List SV)} (P : Nat → List SV → Prop) {n : Nat} {S : List SV} (h0 : P 0 S)
    (st : ∀ (j : Nat) (S : List SV), j < n → P j S → ∃ S1 S2, tg S (.int j) = some S1 ∧ f S1 = .nx S2 ∧ P (j + 1) S2) :
    ∃ S', forL f tg ((List.range n).map fun i : Nat => D.int i) S = .nx S' ∧ P n S' := by
  obtain ⟨S', h1, h2⟩ := for_inv0 (f := f) (tg := tg) (xs := (List.range n).map fun i : Nat => D.int i) P h0 (fun j x S hx hp => by
    rw [List.getElem?_map] at hx
    have hj : j < n := by
      by_cases h : j < n
      · exact h
      · rw [List.getElem?_eq_none (by simpa using h)] at hx; cases hx
    rw [List.getElem?_range hj] at hx
    cases hx
    exact st j S hj hp)
  rw [List.length_map, List.length_range] at h2
  exact ⟨S', h1, h2⟩
/-- a for over n items by an invariant -/
theorem for_tab {f : List SV → SRes} {tg : List SV → D → Option (List SV)} (P : Nat → List SV → Prop) (h : Nat → D) {n : Nat} {S : List SV} (h0 : P 0 S)
    (st : ∀ (j : Nat) (S : List SV), j < n → P j S → ∃ S1 S2, tg S (h j) = some S1 ∧ f S1 = .nx S2 ∧ P (j + 1) S2) :
    ∃ S', forL f tg ((List.range n).map h) S = .nx S' ∧ P n S' := by
  obtain ⟨S', h1, h2⟩ := for_inv0 (f := f) (tg := tg) (xs := (List.range n).map h) P h0 (fun j x S hx hp => by
    rw [List.getElem?_map] at hx
    have hj : j < n := by
      by_cases h : j < n
      · exact h
      · rw [List.getElem?_eq_none (by simpa using h)] at hx; cases hx
    rw [List.getElem?_range hj] at hx
    cases hx
    exact st j S hj hp)
  rw [List.length_map, List.length_range] at h2
  exact ⟨S', h1, h2⟩
theorem comp_map {i : Nat} {f : List SV → Res (D × Kd)} {S : List SV} (g : D → D) : ∀ (xs : List D), (∀ x ∈ xs, ∃ k, k ≠ .bo ∧ f (S.set i (.sh x)) = .ok (g x, k)) → compL i f S xs = .ok (xs.map g)
  | [], _ => by rw [compL]; rfl
  | x :: xs, h => by
    obtain ⟨k, hk, e⟩ := h x List.mem_cons_self
    rw [compL, e]
    simp only [hk, if_false]
    rw [comp_map g xs fun y hy => h y (List.mem_cons_of_mem _ hy)]
    rfl
/-- over n items -/
theorem comp_tab {i : Nat} {f : List SV → Res (D × Kd)} {S : List SV} {n : Nat} (h g : Nat → D) (hs : ∀ j, j < n → ∃ k, k ≠ .bo ∧ f (S.set i (.sh (h j))) = .ok (g j, k)) : compL i f S ((List.range n).map h) = .ok ((List.range n).map g) := by
  have key : ∀ (l : List Nat), (∀ j ∈ l, j < n) → compL i f S (l.map h) = .ok (l.map g) := by
    intro l
    induction l with
    | nil => intro _; rw [List.map, compL]; rfl
    | cons j l ih =>
      intro hl
      obtain ⟨k, hk, e⟩ := hs j (hl j List.mem_cons_self)
      rw [List.map, compL, e]
      simp only [hk, if_false]
      rw [ih fun y hy => hl y (List.mem_cons_of_mem _ hy)]
      rfl
  exact key _ fun j hj => List.mem_range.mp hj
/-- over range(n) -/
theorem comp_rng {i : Nat} {f : List SV → Res (D × Kd)} {S : List SV} {n : Nat} (g : Nat → D) (h : ∀ j, j < n → ∃ k, k ≠ .bo ∧ f (S.set i (.sh (.int j))) = .ok (g j, k)) : compL i f S ((List.range n).map fun j : Nat => D.int j) = .ok ((List.range n).map g) := comp_tab _ g h
/-- a comprehension over n items by itself -/
theorem ev_comp {elt : ME} {i : Nat} {k : IK} {es : List ME} {S : List SV} {n : Nat} {rs : List (D × Kd)} (h g : Nat → D) (h1 : evEs es S = .ok rs) (h2 : hasBo rs = false) (h3 : items k (args1 rs) = .ok ((List.range n).map h)) (hn : n ≤ 16777216)
    (hs : ∀ j, j < n → ∃ k, k ≠ .bo ∧ evE elt (S.set i (.sh (h j))) = .ok (g j, k)) : evE (.comp elt i k es) S = .ok (.lst ((List.range n).map g), .fr) := by
  rw [evE, h1]
  show (if hasBo rs = true then _ else _) = _
  rw [h2, if_neg (by decide), h3]
  show (if _ then _ else _) = _
  rw [if_pos (by simpa using hn), comp_tab h g hs]
  rfl
theorem items_rng (n : Nat) (h : n < 4611686018427387904) : items .range1 [.int n] = .ok ((List.range n).map fun i : Nat => D.int i) := by
  have h1 : (n : Int).natAbs < 4611686018427387904 := by omega
  simp only [items, h1, if_true, Int.toNat_natCast]
/-- a def's own frame -/
theorem mir_ret {s n : Nat} {b : List MS} {ds : List D} {d : D} {fr : Bool} (h : exSs n b (ds.map SV.sh ++ List.replicate (s - ds.length) SV.no) = .ret d fr) : mirror s n b ds = .ok (d, fr) := by
  unfold mirror; rw [hide_eq, h]
theorem ss_go {n : Nat} {m : MS} {ms : List MS} {S S1 : List SV} (h : exS n m S = .nx S1) : exSs n (m :: ms) S = exSs n ms S1 := by rw [exSs, h]
theorem ss_ret {n : Nat} {m : MS} {ms : List MS} {S : List SV} {d : D} {fr : Bool} (h : exS n m S = .ret d fr) : exSs n (m :: ms) S = .ret d fr := by rw [exSs, h]
theorem ss_exc {n : Nat} {m : MS} {ms : List MS} {S S1 : List SV} {c : Str} (h : exS n m S = .exc c S1) : exSs n (m :: ms) S = .exc c S1 := by rw [exSs, h]
end MP
set_option Elab.async false
set_option linter.all false
/-! sums, rows, machines: the plain mathematics -/
namespace WM
/-- f 0 + .. + f (n - 1) -/
def sm : Nat → (Nat → Rat) → Rat
  | 0, _ => 0
  | n + 1, f => sm n f + f n
theorem sm_congr {f g : Nat → Rat} : ∀ {n : Nat}, (∀ i, i < n → f i = g i) → sm n f = sm n g
  | 0, _ => rfl
  | n + 1, h => by
    show sm n f + f n = sm n g + g n
    rw [sm_congr fun i hi => h i (by omega), h n (by omega)]
theorem sm_zero {f : Nat → Rat} : ∀ {n : Nat}, (∀ i, i < n → f i = 0) → sm n f = 0
  | 0, _ => rfl
  | n + 1, h => by
    show sm n f + f n = 0
    rw [sm_zero fun i hi => h i (by omega), h n (by omega)]; grind
theorem sm_add (f g : Nat → Rat) : ∀ n : Nat, sm n (fun i => f i + g i) = sm n f + sm n g
  | 0 => by show (0 : Rat) = 0 + 0; grind
  | n + 1 => by
    show sm n (fun i => f i + g i) + (f n + g n) = sm n f + f n + (sm n g + g n)
    rw [sm_add f g n]; grind
theorem sm_sub (f g : Nat → Rat) : ∀ n : Nat, sm n (fun i => f i - g i) = sm n f - sm n g
  | 0 => by show (0 : Rat) = 0 - 0; grind
  | n + 1 => by
    show sm n (fun i => f i - g i) + (f n - g n) = sm n f + f n - (sm n g + g n)
    rw [sm_sub f g n]; grind
theorem sm_mul (c : Rat) (f : Nat → Rat) : ∀ n : Nat, sm n (fun i => c * f i) = c * sm n f
  | 0 => by show (0 : Rat) = c * 0; grind
  | n + 1 => by
    show sm n (fun i => c * f i) + c * f n = c * (sm n f + f n)
    rw [sm_mul c f n]; grind
theorem sm_mulr (c : Rat) (f : Nat → Rat) (n : Nat) : sm n (fun i => f i * c) = sm n f * c := by
  rw [show (fun i => f i * c) = fun i => c * f i from funext fun i => by grind, sm_mul]; grind
theorem sm_neg (f : Nat → Rat) (n : Nat) : sm n (fun i => - f i) = - sm n f := by
  rw [show (fun i => - f i) = fun i => (-1) * f i from funext fun i => by grind, sm_mul]; grind
theorem sm_app (f : Nat → Rat) (n : Nat) : ∀ m : Nat, sm (n + m) f = sm n f + sm m (fun i => f (n + i))
  | 0 => by show sm n f = sm n f + 0; grind
  | m + 1 => by
    show sm (n + m) f + f (n + m) = sm n f + (sm m (fun i => f (n + i)) + f (n + m))
    rw [sm_app f n m]; grind
theorem sm_swap (f : Nat → Nat → Rat) (m : Nat) : ∀ n : Nat, sm n (fun i => sm m (f i)) = sm m (fun j => sm n (fun i => f i j))
  | 0 => by
    show (0 : Rat) = sm m (fun j => 0)
    rw [sm_zero (n := m) (fun i _ => rfl)]
  | n + 1 => by
    show sm n (fun i => sm m (f i)) + sm m (f n) = sm m (fun j => sm n (fun i => f i j) + f n j)
    rw [sm_swap f m n, sm_add]
/-- all but one are nought -/
theorem sm_one {f : Nat → Rat} {k : Nat} : ∀ {n : Nat}, k < n → (∀ i, i < n → i ≠ k → f i = 0) → sm n f = f k
  | 0, h, _ => by omega
  | n + 1, h, z => by
    show sm n f + f n = f k
    by_cases e : k = n
    · subst e
      rw [sm_zero fun i hi => z i (by omega) (by omega)]; grind
    · rw [sm_one (by omega) fun i hi h => z i (by omega) h, z n (by omega) (fun h => e h.symm)]; grind
theorem sm_fit {D N : Nat} {f : Nat → Rat} (hD : 0 < D) : ∀ {n : Nat}, (∀ i, i < n → Fit D N (f i)) → Fit D (n * N) (sm n f)
  | 0, _ => Fit.zero hD
  | n + 1, h => by
    have := (sm_fit hD (n := n) fun i hi => h i (by omega)).add (h n (by omega))
    rw [show n * N + N = (n + 1) * N by rw [Nat.add_mul, Nat.one_mul]] at this
    exact this

/-- a machine -/
structure Mac where
  n : Nat
  k : Nat
  F : Nat → Rat
  T : Nat → Nat → Nat → Rat
  L : Nat → Rat
namespace Mac
/-- a row led on by a sign -/
def step (m : Mac) (v : Nat → Rat) (s : Nat) : Nat → Rat := fun b => sm m.n fun a => v a * m.T s a b
def run (m : Mac) (v : Nat → Rat) (w : List Nat) : Nat → Rat := w.foldl m.step v
def row (m : Mac) (w : List Nat) : Nat → Rat := m.run m.F w
def dotL (m : Mac) (v : Nat → Rat) : Rat := sm m.n fun i => v i * m.L i
def wt (m : Mac) (w : List Nat) : Rat := m.dotL (m.row w)
/-- a column led back by a sign; what a word adds behind -/
def back (m : Mac) (s : Nat) (v : Nat → Rat) : Nat → Rat := fun a => sm m.n fun b => m.T s a b * v b
def col (m : Mac) (w : List Nat) : Nat → Rat := w.foldr m.back m.L
theorem run_nil (m : Mac) (v : Nat → Rat) : m.run v [] = v := rfl
theorem run_cons (m : Mac) (v : Nat → Rat) (s : Nat) (w : List Nat) : m.run v (s :: w) = m.run (m.step v s) w := rfl
theorem run_app (m : Mac) (v : Nat → Rat) (u w : List Nat) : m.run v (u ++ w) = m.run (m.run v u) w := List.foldl_append
theorem row_app (m : Mac) (u w : List Nat) : m.row (u ++ w) = m.run (m.row u) w := run_app m _ u w
theorem row_snoc (m : Mac) (u : List Nat) (s : Nat) : m.row (u ++ [s]) = m.step (m.row u) s := run_app m _ u [s]
theorem step_congr (m : Mac) {v u : Nat → Rat} (s : Nat) (h : ∀ i, i < m.n → v i = u i) : m.step v s = m.step u s := by
  funext b
  exact sm_congr fun a ha => by rw [h a ha]
/-- a step and a column: either way -/
theorem dot_step (m : Mac) (v u : Nat → Rat) (s : Nat) : sm m.n (fun b => m.step v s b * u b) = sm m.n (fun a => v a * m.back s u a) := by
  have e1 : (fun b => m.step v s b * u b) = fun b => sm m.n fun a => v a * m.T s a b * u b := funext fun b => (sm_mulr _ _ _).symm
  have e2 : (fun a => v a * m.back s u a) = fun a => sm m.n fun b => v a * m.T s a b * u b := funext fun a => by
    show v a * sm m.n (fun b => m.T s a b * u b) = _
    rw [← sm_mul]
    exact sm_congr fun b _ => by grind
  rw [e1, e2, sm_swap]
theorem dot_run (m : Mac) : ∀ (w : List Nat) (v : Nat → Rat), m.dotL (m.run v w) = sm m.n (fun a => v a * m.col w a)
  | [], v => rfl
  | s :: w, v => by
    show m.dotL (m.run (m.step v s) w) = sm m.n (fun a => v a * m.back s (m.col w) a)
    rw [dot_run m w (m.step v s), dot_step]
theorem wt_app (m : Mac) (u w : List Nat) : m.wt (u ++ w) = sm m.n (fun a => m.row u a * m.col w a) := by
  show m.dotL (m.row (u ++ w)) = _
  rw [row_app, dot_run]
/-! sums of rows -/
theorem step_add (m : Mac) (v u : Nat → Rat) (s : Nat) : m.step (fun i => v i + u i) s = fun b => m.step v s b + m.step u s b := by
  funext b
  show sm m.n _ = sm m.n _ + sm m.n _
  rw [← sm_add]
  exact sm_congr fun a _ => by grind
theorem step_mul (m : Mac) (c : Rat) (v : Nat → Rat) (s : Nat) : m.step (fun i => c * v i) s = fun b => c * m.step v s b := by
  funext b
  show sm m.n _ = c * sm m.n _
  rw [← sm_mul]
  exact sm_congr fun a _ => by grind
theorem run_add (m : Mac) : ∀ (w : List Nat) (v u : Nat → Rat), m.run (fun i => v i + u i) w = fun b => m.run v w b + m.run u w b
  | [], _, _ => rfl
  | s :: w, v, u => by
    rw [run_cons, step_add, run_add m w]; rfl
theorem run_mul (m : Mac) (c : Rat) : ∀ (w : List Nat) (v : Nat → Rat), m.run (fun i => c * v i) w = fun b => c * m.run v w b
  | [], _ => rfl
  | s :: w, v => by
    rw [run_cons, step_mul, run_mul m c w]; rfl
/-! sizes -/
/-- the first numbers fit D, N; the steps E, M -/
theorem run_fit (m : Mac) {E M : Nat} (hE : ∀ s a b, s < m.k → a < m.n → b < m.n → Fit E M (m.T s a b)) (hE0 : 0 < E) (w : List Nat) : (∀ s ∈ w, s < m.k) → ∀ (v : Nat → Rat) (D N : Nat), 0 < D → (∀ i, i < m.n → Fit D N (v i)) →
    ∀ i, i < m.n → Fit (D * E ^ w.length) (N * (m.n * M) ^ w.length) (m.run v w i) := by
  induction w with
  | nil =>
    intro _ v D N _ h i hi
    show Fit (D * 1) (N * 1) (v i)
    rw [Nat.mul_one, Nat.mul_one]
    exact h i hi
  | cons s w ih =>
    intro hw v D N hD h i hi
    have hs : s < m.k := hw s List.mem_cons_self
    have st : ∀ b, b < m.n → Fit (D * E) (m.n * (N * M)) (m.step v s b) := fun b hb => sm_fit (Nat.mul_pos hD hE0) fun a ha => (h a ha).mul (hE s a b hs ha hb)
    have z := ih (fun t ht => hw t (List.mem_cons_of_mem _ ht)) (m.step v s) (D * E) (m.n * (N * M)) (Nat.mul_pos hD hE0) st i hi
    have e1 : D * E * E ^ w.length = D * E ^ (s :: w).length := by
      rw [List.length_cons, Nat.pow_succ, Nat.mul_assoc, Nat.mul_comm E]
    have e2 : m.n * (N * M) * (m.n * M) ^ w.length = N * (m.n * M) ^ (s :: w).length := by
      rw [List.length_cons, Nat.pow_succ, ← Nat.mul_assoc m.n, Nat.mul_comm m.n N, Nat.mul_assoc N m.n M, Nat.mul_assoc, Nat.mul_comm ((m.n * M) ^ w.length)]
    rw [e1, e2] at z
    exact z
end Mac
end WM
set_option Elab.async false
set_option linter.all false
set_option maxRecDepth 100000
set_option maxHeartbeats 4000000
namespace MP
open PySem PySem.Spec PyProof.Rows L2 WM
noncomputable def wb_dot_1 : List MS := [.set 2 (.call "plus" m_plus [(.loc 2), (.call "times" m_times [(.sub (.loc 0) (.loc 3)), (.sub (.loc 1) (.loc 3))])])]
noncomputable def w_dot_1 : MS := .forI 3 .range1 [(.blt .len [(.loc 0)])] wb_dot_1
noncomputable def b_dot : List MS := [.set 2 (.glo "NOUGHT" (.tup [(.int 0), (.int 1)])), w_dot_1, .ret (.loc 2)]
noncomputable def m_dot : Fn := mirror 4 fuel b_dot
noncomputable def ce_column_1 : ME := (.sub (.loc 2) (.loc 1))
noncomputable def c_column_1 : ME := .comp ce_column_1 2 .val [(.loc 0)]
noncomputable def b_column : List MS := [.ret c_column_1]
noncomputable def m_column : Fn := mirror 3 fuel b_column
noncomputable def ce_led_1 : ME := (.call "dot" m_dot [(.loc 0), (.call "column" m_column [(.loc 1), (.loc 2)])])
noncomputable def c_led_1 : ME := .comp ce_led_1 2 .range1 [(.blt .len [(.loc 0)])]
noncomputable def b_led : List MS := [.ret c_led_1]
noncomputable def m_led : Fn := mirror 3 fuel b_led
noncomputable def wb_row_behind_1 : List MS := [.ife (.or (.cmp .lt (.loc 2) (.int 0)) (.cmp .ge (.loc 2) (.blt .len [(.sub (.loc 0) (.int 1))]))) [.rais "NoSign"] []]
noncomputable def w_row_behind_1 : MS := .forI 2 .val [(.loc 1)] wb_row_behind_1
noncomputable def wb_row_behind_2 : List MS := [.own 3 (.call "led" m_led [(.loc 3), (.sub (.sub (.loc 0) (.int 1)) (.loc 2))])]
noncomputable def w_row_behind_2 : MS := .forI 2 .val [(.loc 1)] wb_row_behind_2
noncomputable def b_row_behind : List MS := [w_row_behind_1, .own 3 (.blt .list [(.sub (.loc 0) (.int 0))]), w_row_behind_2, .retL 3]
noncomputable def m_row_behind : Fn := mirror 4 fuel b_row_behind
noncomputable def b_weigh : List MS := [.ret (.call "dot" m_dot [(.call "row_behind" m_row_behind [(.loc 0), (.loc 1)]), (.sub (.loc 0) (.int 2))])]
noncomputable def m_weigh : Fn := mirror 2 fuel b_weigh
noncomputable def wb_law_dot_1 : List MS := [.set 2 (.call "_law_plus" m_law_plus [(.loc 2), (.call "_law_times" m_law_times [(.sub (.loc 0) (.loc 3)), (.sub (.loc 1) (.loc 3))])])]
noncomputable def w_law_dot_1 : MS := .forI 3 .range1 [(.blt .len [(.loc 0)])] wb_law_dot_1
noncomputable def b_law_dot : List MS := [.set 2 (.tup [(.int 0), (.int 1)]), w_law_dot_1, .ret (.loc 2)]
noncomputable def m_law_dot : Fn := mirror 4 fuel b_law_dot
noncomputable def b_law_fraction : List MS := [.ret (.call "_law_low" m_law_low [(.bin .sub (.bin .mod (.loc 0) (.int 9)) (.int 4)), (.sub (.lst [(.int 1), (.int 1), (.int 2), (.int 1), (.int 3)]) (.bin .mod (.bin .fdiv (.loc 0) (.int 9)) (.int 5)))])]
noncomputable def m_law_fraction : Fn := mirror 1 fuel b_law_fraction
noncomputable def wb_law_machine_1 : List MS := [.set 0 (.bin .mod (.bin .add (.bin .mul (.loc 0) (.int 48271)) (.int 29)) (.int 2147483647)), .app 3 (.ife (.cmp .eq (.bin .mod (.bin .fdiv (.loc 0) (.int 11)) (.int 3)) (.int 0)) (.tup [(.int 0), (.int 1)]) (.call "_law_fraction" m_law_fraction [(.bin .fdiv (.loc 0) (.int 33))]))]
noncomputable def w_law_machine_1 : MS := .forI 4 .range1 [(.bin .mul (.loc 1) (.bin .add (.int 2) (.bin .mul (.loc 1) (.loc 2))))] wb_law_machine_1
noncomputable def wb_law_machine_2 : List MS := [.set 9 (.bin .add (.bin .mul (.int 2) (.loc 1)) (.bin .mul (.bin .add (.bin .mul (.loc 6) (.loc 1)) (.loc 8)) (.loc 1))), .app 7 (.blt .tuple [(.sl (.loc 3) (.loc 9) (.bin .add (.loc 9) (.loc 1)))])]
noncomputable def w_law_machine_2 : MS := .forI 8 .range1 [(.loc 1)] wb_law_machine_2
noncomputable def wb_law_machine_3 : List MS := [.own 7 (.lst []), w_law_machine_2, .app 5 (.blt .tuple [(.loc 7)])]
noncomputable def w_law_machine_3 : MS := .forI 6 .range1 [(.loc 2)] wb_law_machine_3
noncomputable def b_law_machine : List MS := [.own 3 (.lst []), w_law_machine_1, .own 5 (.lst []), w_law_machine_3, .ret (.tup [(.blt .tuple [(.slHi (.loc 3) (.loc 1))]), (.blt .tuple [(.loc 5)]), (.blt .tuple [(.sl (.loc 3) (.loc 1) (.bin .mul (.int 2) (.loc 1)))])])]
noncomputable def m_law_machine : Fn := mirror 10 fuel b_law_machine
noncomputable def wb_law_word_1 : List MS := [.set 0 (.bin .mod (.bin .add (.bin .mul (.loc 0) (.int 48271)) (.int 17)) (.int 2147483647)), .app 3 (.bin .mod (.bin .fdiv (.loc 0) (.int 5)) (.loc 1))]
noncomputable def w_law_word_1 : MS := .forI 4 .range1 [(.bin .mod (.loc 0) (.bin .add (.loc 2) (.int 1)))] wb_law_word_1
noncomputable def b_law_word : List MS := [.own 3 (.lst []), w_law_word_1, .ret (.blt .tuple [(.loc 3)])]
noncomputable def m_law_word : Fn := mirror 5 fuel b_law_word
noncomputable def ce_law_led_1 : ME := (.sub (.sub (.loc 1) (.loc 4)) (.loc 3))
noncomputable def c_law_led_1 : ME := .comp ce_law_led_1 4 .range1 [(.blt .len [(.loc 0)])]
noncomputable def wb_law_led_1 : List MS := [.app 2 (.call "_law_dot" m_law_dot [(.loc 0), c_law_led_1])]
noncomputable def w_law_led_1 : MS := .forI 3 .range1 [(.blt .len [(.loc 0)])] wb_law_led_1
noncomputable def b_law_led : List MS := [.own 2 (.lst []), w_law_led_1, .retL 2]
noncomputable def m_law_led : Fn := mirror 5 fuel b_law_led
noncomputable def wb_law_row_1 : List MS := [.set 2 (.call "_law_led" m_law_led [(.loc 2), (.sub (.sub (.loc 0) (.int 1)) (.loc 3))])]
noncomputable def w_law_row_1 : MS := .forI 3 .val [(.loc 1)] wb_law_row_1
noncomputable def b_law_row : List MS := [.set 2 (.blt .list [(.sub (.loc 0) (.int 0))]), w_law_row_1, .ret (.loc 2)]
noncomputable def m_law_row : Fn := mirror 4 fuel b_law_row
noncomputable def b_law_weight : List MS := [.ret (.call "_law_dot" m_law_dot [(.call "_law_row" m_law_row [(.loc 0), (.loc 1)]), (.sub (.loc 0) (.int 2))])]
noncomputable def m_law_weight : Fn := mirror 2 fuel b_law_weight
noncomputable def b_law_is_fraction : List MS := [.ife (.or (.not (.isi (.loc 0) .tuple)) (.cmp .ne (.blt .len [(.loc 0)]) (.int 2))) [.ret (.bl false)] [], .ret (.and (.call "_law_whole" m_law_whole [(.sub (.loc 0) (.int 0))]) (.and (.call "_law_whole" m_law_whole [(.sub (.loc 0) (.int 1))]) (.cmp .eq (.loc 0) (.loc 1))))]
noncomputable def m_law_is_fraction : Fn := mirror 2 fuel b_law_is_fraction
noncomputable def wb_law_same_row_1 : List MS := [.ife (.not (.call "_law_is_fraction" m_law_is_fraction [(.sub (.loc 0) (.loc 2)), (.sub (.loc 1) (.loc 2))])) [.ret (.bl false)] []]
noncomputable def w_law_same_row_1 : MS := .forI 2 .range1 [(.blt .len [(.loc 1)])] wb_law_same_row_1
noncomputable def b_law_same_row : List MS := [.ife (.or (.not (.isi (.loc 0) .list)) (.cmp .ne (.blt .len [(.loc 0)]) (.blt .len [(.loc 1)]))) [.ret (.bl false)] [], w_law_same_row_1, .ret (.bl true)]
noncomputable def m_law_same_row : Fn := mirror 3 fuel b_law_same_row

/-- a row as a tuple, as a list -/
def tabs (n : Nat) (f : Nat → Rat) : List D := (List.range n).map fun i => fr (f i)
def rT (n : Nat) (f : Nat → Rat) : D := .tup (tabs n f)
def rL (n : Nat) (f : Nat → Rat) : D := .lst (tabs n f)
/-- a tuple or a list -/
def Sq (d : D) (xs : List D) : Prop := d = .tup xs ∨ d = .lst xs
theorem tabs_len (n : Nat) (f : Nat → Rat) : (tabs n f).length = n := by simp [tabs]
theorem tabs_get {n : Nat} {f : Nat → Rat} {i : Nat} (h : i < n) : (tabs n f)[i]? = some (fr (f i)) := by simp [tabs, h]
theorem tabs_congr {n : Nat} {f g : Nat → Rat} (h : ∀ i, i < n → f i = g i) : tabs n f = tabs n g := by
  unfold tabs
  refine List.map_congr_left fun i hi => ?_
  rw [h i (List.mem_range.mp hi)]
theorem Sq.len {d : D} {xs : List D} (h : Sq d xs) : evBlt .len [d] = .ok (.int xs.length, .sh) := by
  rcases h with rfl | rfl <;> rfl
theorem Sq.sub {d e : D} {xs : List D} {i : Nat} (h : Sq d xs) (hi : xs[i]? = some e) : evSub d (.int i) = .ok (e, .sh) := by
  rcases h with rfl | rfl <;> simp only [evSub, atI_nat, hi]
theorem rT_sq (n : Nat) (f : Nat → Rat) : Sq (rT n f) (tabs n f) := .inl rfl
theorem rL_sq (n : Nat) (f : Nat → Rat) : Sq (rL n f) (tabs n f) := .inr rfl
theorem fr_zero : fr 0 = .tup [.int 0, .int 1] := rfl
theorem fr_one : fr 1 = .tup [.int 1, .int 1] := rfl
theorem Sz.fit {D N : Nat} {q : Rat} (h : Fit D N q) (hD : D < 2 ^ 9000) (hN : N < 2 ^ 390000) : Sz q := by
  have l : ∀ n a : Nat, n < 2 ^ a → a ≤ 390000 → n.log2 < 400000 := fun n a hn ha => by
    by_cases e : n = 0
    · subst e; simp
    · exact Nat.lt_of_lt_of_le ((Nat.log2_lt e).mpr hn) (by omega)
  exact ⟨l _ 390000 (Nat.lt_of_le_of_lt h.num_le hN) (by decide), l _ 9000 (Nat.lt_of_le_of_lt h.den_le hD) (by decide)⟩
theorem le_sq {a : Nat} : a ≤ a * a := by
  rcases Nat.eq_zero_or_pos a with h | h
  · subst h; exact Nat.le_refl _
  · exact Nat.le_mul_of_pos_left _ h
/-- sizes at which a sum of products is worked out -/
structure Cap (n D1 N1 D2 N2 : Nat) : Prop where
  d : (D1 * D2) * (D1 * D2) < 2 ^ 9000
  n1 : N1 < 2 ^ 180000
  n2 : N2 < 2 ^ 180000
  n : n < 2 ^ 1000
theorem Cap.one {n D1 N1 D2 N2 : Nat} (c : Cap n D1 N1 D2 N2) : D1 * D2 < 2 ^ 9000 := Nat.lt_of_le_of_lt le_sq c.d
theorem Cap.nn {n D1 N1 D2 N2 : Nat} (c : Cap n D1 N1 D2 N2) {i : Nat} (h : i ≤ n) : i * (N1 * N2) < 2 ^ 390000 := by
  have h1 : N1 * N2 ≤ 2 ^ 180000 * 2 ^ 180000 := Nat.mul_le_mul (Nat.le_of_lt c.n1) (Nat.le_of_lt c.n2)
  have h2 : i * (N1 * N2) ≤ 2 ^ 1000 * (2 ^ 180000 * 2 ^ 180000) := Nat.mul_le_mul (Nat.le_trans h (Nat.le_of_lt c.n)) h1
  rw [← Nat.pow_add, ← Nat.pow_add] at h2
  exact Nat.lt_of_le_of_lt h2 (Nat.pow_lt_pow_right (by decide) (by decide))
theorem Cap.len {n D1 N1 D2 N2 : Nat} (c : Cap n D1 N1 D2 N2) (hn : n < 2 ^ 40) : n < 4611686018427387904 := Nat.lt_of_lt_of_le hn (by decide)
section
variable {n D1 N1 D2 N2 : Nat} {f g : Nat → Rat}
theorem Cap.szf (c : Cap n D1 N1 D2 N2) (hf : ∀ i, i < n → Fit D1 N1 (f i)) (hg : ∀ i, i < n → Fit D2 N2 (g i)) {i : Nat} (h : i < n) :
    Sz (f i) ∧ Sz (g i) ∧ (f i).den * (g i).den < 2 ^ 9000 ∧ Sz (f i * g i) ∧ Sz (sm i fun i => f i * g i) ∧ (sm i fun i => f i * g i).den * (f i * g i).den < 2 ^ 9000 := by
  have f1 := hf i h
  have g1 := hg i h
  have p1 := f1.mul g1
  have s1 : Fit (D1 * D2) (i * (N1 * N2)) (sm i fun i => f i * g i) := sm_fit (Nat.mul_pos f1.1 g1.1) fun j hj => (hf j (by omega)).mul (hg j (by omega))
  have hd1 : D1 < 2 ^ 9000 := Nat.lt_of_le_of_lt (Nat.le_mul_of_pos_right _ g1.1) c.one
  have hd2 : D2 < 2 ^ 9000 := Nat.lt_of_le_of_lt (Nat.le_mul_of_pos_left _ f1.1) c.one
  exact ⟨Sz.fit f1 hd1 (pow_up c.n1 (by decide)), Sz.fit g1 hd2 (pow_up c.n2 (by decide)), Nat.lt_of_le_of_lt (Nat.mul_le_mul f1.den_le g1.den_le) c.one,
    Sz.fit p1 c.one (by have := c.nn (i := 1) (by omega); omega), Sz.fit s1 c.one (c.nn (by omega)), Nat.lt_of_le_of_lt (Nat.mul_le_mul s1.den_le p1.den_le) c.d⟩
/-- the loop of dot, _law_dot -/
theorem dot_loop {P T : Fn} {x y : Str} {a b : D} (s3 : SV) (fa : ∀ i, i < n → evSub a (.int i) = .ok (fr (f i), .sh)) (fb : ∀ i, i < n → evSub b (.int i) = .ok (fr (g i), .sh))
    (pt : ∀ i, i < n → T [fr (f i), fr (g i)] = .ok (fr (f i * g i), false)) (pp : ∀ i, i < n → P [fr (sm i fun i => f i * g i), fr (f i * g i)] = .ok (fr (sm (i + 1) fun i => f i * g i), false)) :
    ∃ s, forL (exSs fuel [.set 2 (.call x P [(.loc 2), (.call y T [(.sub (.loc 0) (.loc 3)), (.sub (.loc 1) (.loc 3))])])]) (fun S d => some (S.set 3 (.sh d))) ((List.range n).map fun i : Nat => D.int i) [.sh a, .sh b, .sh (fr 0), s3] = .nx [.sh a, .sh b, .sh (fr (sm n fun i => f i * g i)), s] := by
  obtain ⟨S', h1, s, h2⟩ := for_rng (f := exSs fuel [.set 2 (.call x P [(.loc 2), (.call y T [(.sub (.loc 0) (.loc 3)), (.sub (.loc 1) (.loc 3))])])]) (tg := fun S d => some (S.set 3 (.sh d)))
    (fun j S => ∃ s, S = [.sh a, .sh b, .sh (fr (sm j fun i => f i * g i)), s]) (n := n) (S := [.sh a, .sh b, .sh (fr 0), s3]) ⟨s3, rfl⟩ (by
      rintro j S hj ⟨s, rfl⟩
      exact ⟨_, _, rfl, by simp [exSs, exS, evE, evEs, args1, hasBo, fa j hj, fb j hj, pt j hj, pp j hj]; rfl, _, rfl⟩)
  exact ⟨s, by rw [h1, h2]⟩
theorem dot_ok {a b : D} {xs ys : List D} (ha : Sq a (tabs n f)) (hb : Sq b ys) (hy : ∀ i, i < n → ys[i]? = some (fr (g i))) (c : Cap n D1 N1 D2 N2) (hn : n < 2 ^ 40) (hf : ∀ i, i < n → Fit D1 N1 (f i)) (hg : ∀ i, i < n → Fit D2 N2 (g i)) :
    m_dot [a, b] = .ok (fr (sm n fun i => f i * g i), false) := by
  obtain ⟨s, h⟩ := dot_loop (P := m_plus) (T := m_times) (x := "plus") (y := "times") (a := a) (b := b) (n := n) (f := f) (g := g) .no (fun i hi => ha.sub (tabs_get hi)) (fun i hi => hb.sub (hy i hi))
    (fun i hi => by obtain ⟨z1, z2, z3, z4, z5, z6⟩ := c.szf hf hg hi; exact times_ok _ _ z1 z2 z3) (fun i hi => by obtain ⟨z1, z2, z3, z4, z5, z6⟩ := c.szf hf hg hi; exact plus_ok _ _ z5 z4 z6)
  have hl := ha.len
  rw [tabs_len] at hl
  refine mir_ret ?_
  unfold b_dot
  rw [ss_go (S1 := [.sh a, .sh b, .sh (fr 0), .no]) (by simp [exS, evE, fr_zero]), ss_go (S1 := [.sh a, .sh b, .sh (fr (sm n fun i => f i * g i)), s]) (by
    rw [w_dot_1, exS]
    simp only [evI, evEs, evE, List.getElem?_cons_zero, Res.bind, args1, List.map, hl, hasBo, List.any, Bool.or_false, decide_false, Bool.false_eq_true, if_false, items_rng n (c.len hn), bindS_ok]
    exact h)]
  simp [exSs, exS, evE]
theorem law_dot_ok {a b : D} {xs ys : List D} (ha : Sq a (tabs n f)) (hb : Sq b ys) (hy : ∀ i, i < n → ys[i]? = some (fr (g i))) (c : Cap n D1 N1 D2 N2) (hn : n < 2 ^ 40) (hf : ∀ i, i < n → Fit D1 N1 (f i)) (hg : ∀ i, i < n → Fit D2 N2 (g i)) :
    m_law_dot [a, b] = .ok (fr (sm n fun i => f i * g i), false) := by
  obtain ⟨s, h⟩ := dot_loop (P := m_law_plus) (T := m_law_times) (x := "_law_plus") (y := "_law_times") (a := a) (b := b) (n := n) (f := f) (g := g) .no (fun i hi => ha.sub (tabs_get hi)) (fun i hi => hb.sub (hy i hi))
    (fun i hi => by obtain ⟨z1, z2, z3, z4, z5, z6⟩ := c.szf hf hg hi; exact law_times_ok _ _ z1 z2 z3) (fun i hi => by obtain ⟨z1, z2, z3, z4, z5, z6⟩ := c.szf hf hg hi; exact law_plus_ok _ _ z5 z4 z6)
  have hl := ha.len
  rw [tabs_len] at hl
  refine mir_ret ?_
  unfold b_law_dot
  rw [ss_go (S1 := [.sh a, .sh b, .sh (fr 0), .no]) (by simp [exS, evE, evEs, fr_zero, hasBo, args1]), ss_go (S1 := [.sh a, .sh b, .sh (fr (sm n fun i => f i * g i)), s]) (by
    rw [w_law_dot_1, exS]
    simp only [evI, evEs, evE, List.getElem?_cons_zero, Res.bind, args1, List.map, hl, hasBo, List.any, Bool.or_false, decide_false, Bool.false_eq_true, if_false, items_rng n (c.len hn), bindS_ok]
    exact h)]
  simp [exSs, exS, evE]
end
/-- a step: n rows of n numbers -/
def sT (n m : Nat) (T : Nat → Nat → Rat) : D := .tup ((List.range n).map fun a => rT m (T a))
theorem column_ok {n m b : Nat} {T : Nat → Nat → Rat} (hb : b < m) (hn : n ≤ 16777216) : m_column [sT n m T, .int b] = .ok (rL n fun a => T a b, true) := by
  refine mir_ret ?_
  have e : evE c_column_1 [.sh (sT n m T), .sh (.int b), .no] = .ok (rL n fun a => T a b, .fr) := by
    rw [c_column_1, ev_comp (rs := [(sT n m T, .sh)]) (fun a => rT m (T a)) (fun a => fr (T a b)) (by simp [evEs, evE]) (by simp [hasBo]) (by simp [args1, sT, items]) hn (fun j hj => ⟨.sh, by decide, by
      simp [ce_column_1, evE, (rT_sq m (T j)).sub (tabs_get hb)]⟩)]
    rfl
  unfold b_column
  rw [ss_ret (d := rL n fun a => T a b) (fr := true) (by simp [exS, List.replicate, e])]
theorem led_ok {n : Nat} {a : D} {f : Nat → Rat} {T : Nat → Nat → Rat} {D1 N1 D2 N2 : Nat} (ha : Sq a (tabs n f)) (c : Cap n D1 N1 D2 N2) (hn : n ≤ 16777216) (hf : ∀ i, i < n → Fit D1 N1 (f i)) (hT : ∀ i j, i < n → j < n → Fit D2 N2 (T i j)) :
    m_led [a, sT n n T] = .ok (rL n fun b => sm n fun i => f i * T i b, true) := by
  refine mir_ret ?_
  have hl := ha.len
  rw [tabs_len] at hl
  have e : evE c_led_1 [.sh a, .sh (sT n n T), .no] = .ok (rL n fun b => sm n fun i => f i * T i b, .fr) := by
    rw [c_led_1, ev_comp (n := n) (rs := [(.int n, .sh)]) (fun j : Nat => D.int j) (fun b => fr (sm n fun i => f i * T i b)) (by simp [evEs, evE, args1, hl]) (by simp [hasBo]) (by simp only [args1, List.map]; exact items_rng n (by omega)) hn (fun j hj => ⟨.sh, by decide, by
      have h2 := dot_ok (xs := []) ha (rL_sq n fun a => T a j) (fun i hi => tabs_get hi) c (by omega) hf (fun i hi => hT i j hi hj)
      simp [ce_led_1, evE, evEs, args1, hasBo, column_ok (T := T) hj hn, h2]⟩)]
    rfl
  unfold b_led
  rw [ss_ret (d := rL n fun b => sm n fun i => f i * T i b) (fr := true) (by simp [exS, List.replicate, e])]
theorem law_led_ok {n : Nat} {a : D} {f : Nat → Rat} {T : Nat → Nat → Rat} {D1 N1 D2 N2 : Nat} (ha : Sq a (tabs n f)) (c : Cap n D1 N1 D2 N2) (hn : n ≤ 16777215) (hf : ∀ i, i < n → Fit D1 N1 (f i)) (hT : ∀ i j, i < n → j < n → Fit D2 N2 (T i j)) :
    m_law_led [a, sT n n T] = .ok (rL n fun b => sm n fun i => f i * T i b, true) := by
  have hl := ha.len
  rw [tabs_len] at hl
  refine mir_ret ?_
  unfold b_law_led
  obtain ⟨S', h1, s3, h2⟩ := for_rng (f := exSs fuel wb_law_led_1) (tg := fun S d => some (S.set 3 (.sh d))) (fun j S => ∃ s3, S = [.sh a, .sh (sT n n T), .ow (tabs j fun b => sm n fun i => f i * T i b), s3, .no]) (n := n) (S := [.sh a, .sh (sT n n T), .ow [], .no, .no]) ⟨.no, rfl⟩ (by
    rintro j S hj ⟨s3, rfl⟩
    have h3 := law_dot_ok (xs := []) ha (rL_sq n fun a => T a j) (fun i hi => tabs_get hi) c (by omega) hf (fun i hi => hT i j hi hj)
    have e : evE c_law_led_1 [.sh a, .sh (sT n n T), .ow (tabs j fun b => sm n fun i => f i * T i b), .sh (.int j), .no] = .ok (rL n fun a => T a j, .fr) := by
      rw [c_law_led_1, ev_comp (n := n) (rs := [(.int n, .sh)]) (fun j : Nat => D.int j) (fun a => fr (T a j)) (by simp [evEs, evE, args1, hl]) (by simp [hasBo]) (by simp only [args1, List.map]; exact items_rng n (by omega)) (by omega) (fun i hi => ⟨.sh, by decide, by
        have e1 : evSub (sT n n T) (.int i) = .ok (rT n (T i), .sh) := Sq.sub (xs := (List.range n).map fun a => rT n (T a)) (.inl rfl) (by simp [hi])
        simp [ce_law_led_1, evE, e1, (rT_sq n (T i)).sub (tabs_get hj)]⟩)]
      rfl
    refine ⟨_, [.sh a, .sh (sT n n T), .ow (tabs (j + 1) fun b => sm n fun i => f i * T i b), .sh (.int j), .no], rfl, ?_, _, rfl⟩
    have hlt : j < 16777216 := by omega
    simp [wb_law_led_1, exSs, exS, evE, evEs, args1, hasBo, e, h3, tabs_len, hlt]
    simp [tabs, List.range_succ])
  rw [ss_go (S1 := [.sh a, .sh (sT n n T), .ow [], .no, .no]) (by simp [exS, evE, evEs, hasBo, args1]), ss_go (S1 := S') (by
    rw [w_law_led_1, exS]
    simp only [evI, evEs, evE, List.getElem?_cons_zero, Res.bind, args1, List.map, hl, hasBo, List.any, Bool.or_false, decide_false, Bool.false_eq_true, if_false, items_rng n (show n < 4611686018427387904 by omega), bindS_ok]
    exact h1)]
  subst h2
  simp [exSs, exS, rL]
/-- a machine, a word -/
def macD (m : Mac) : D := .tup [rT m.n m.F, .tup ((List.range m.k).map fun s => sT m.n m.n (m.T s)), rT m.n m.L]
def wD (w : List Nat) : D := .tup (w.map fun s : Nat => D.int s)
theorem mac_0 (m : Mac) : evSub (macD m) (.int 0) = .ok (rT m.n m.F, .sh) := by simp [macD, evSub]
theorem mac_1 (m : Mac) : evSub (macD m) (.int 1) = .ok (.tup ((List.range m.k).map fun s => sT m.n m.n (m.T s)), .sh) := by simp [macD, evSub]
theorem mac_2 (m : Mac) : evSub (macD m) (.int 2) = .ok (rT m.n m.L, .sh) := by simp [macD, evSub]
theorem mac_s {m : Mac} {s : Nat} (h : s < m.k) : evSub (.tup ((List.range m.k).map fun s => sT m.n m.n (m.T s))) (.int s) = .ok (sT m.n m.n (m.T s), .sh) := Sq.sub (xs := (List.range m.k).map fun s => sT m.n m.n (m.T s)) (.inl rfl) (by simp [h])
theorem take_snoc {w : List Nat} {j : Nat} {s : Nat} (h : w[j]? = some s) : w.take (j + 1) = w.take j ++ [s] := by
  rw [List.take_add_one, h]; rfl
theorem wD_get {w : List Nat} {j : Nat} {x : D} (h : (w.map fun s : Nat => D.int s)[j]? = some x) : ∃ s, w[j]? = some s ∧ x = .int s := by
  rw [List.getElem?_map] at h
  cases e : w[j]? with
  | none => rw [e] at h; cases h
  | some s => rw [e] at h; cases h; exact ⟨s, rfl, rfl⟩
/-- what a walk through a word needs of the sizes -/
structure Walk (m : Mac) (w : List Nat) (D N E M : Nat) : Prop where
  sg : ∀ s ∈ w, s < m.k
  rows : ∀ u v, u ++ v = w → ∀ i, i < m.n → Fit D N (m.row u i)
  steps : ∀ s a b, s < m.k → a < m.n → b < m.n → Fit E M (m.T s a b)
  cap : Cap m.n D N E M
  n : m.n ≤ 16777215
theorem row_behind_ok {m : Mac} {w : List Nat} {D N E M : Nat} (h : Walk m w D N E M) : m_row_behind [macD m, wD w] = .ok (rL m.n (m.row w), true) := by
  refine mir_ret ?_
  unfold b_row_behind
  obtain ⟨S1, h1, s2, h2⟩ := for_inv0 (f := exSs fuel wb_row_behind_1) (tg := fun S d => some (S.set 2 (.sh d))) (fun j S => ∃ s, S = [.sh (macD m), .sh (wD w), s, .no]) (xs := w.map fun s : Nat => MP.D.int s) (S := [.sh (macD m), .sh (wD w), .no, .no]) ⟨.no, rfl⟩ (by
    rintro j x S hx ⟨s, rfl⟩
    obtain ⟨s, hs, rfl⟩ := wD_get hx
    have hk := h.sg s (List.mem_of_getElem? hs)
    have e1 : ¬ ((s : Int) < 0) := by omega
    have e2 : ¬ ((m.k : Int) ≤ (s : Int)) := by omega
    refine ⟨_, _, rfl, ?_, .sh (.int s), rfl⟩
    simp [wb_row_behind_1, exSs, exS, evE, evEs, evCmp, e1, mac_1, evBlt, args1]
    simp [Nat.not_le.mpr hk])
  subst h2
  obtain ⟨S3, h3, s3, h4⟩ := for_inv0 (f := exSs fuel wb_row_behind_2) (tg := fun S d => some (S.set 2 (.sh d))) (fun j S => ∃ s, S = [.sh (macD m), .sh (wD w), s, .ow (tabs m.n (m.row (w.take j)))]) (xs := w.map fun s : Nat => MP.D.int s) (S := [.sh (macD m), .sh (wD w), s2, .ow (tabs m.n m.F)]) ⟨s2, rfl⟩ (by
    rintro j x S hx ⟨s', rfl⟩
    obtain ⟨s, hs, rfl⟩ := wD_get hx
    have hk := h.sg s (List.mem_of_getElem? hs)
    have hl := led_ok (T := m.T s) (rL_sq m.n (m.row (w.take j))) h.cap (by have := h.n; omega) (h.rows (w.take j) (w.drop j) (List.take_append_drop j w)) (fun a b => h.steps s a b hk)
    have e : (fun b => sm m.n fun i => m.row (w.take j) i * m.T s i b) = m.row (w.take (j + 1)) := by
      rw [take_snoc hs, Mac.row_snoc]; rfl
    rw [e] at hl
    refine ⟨_, _, rfl, ?_, .sh (.int s), rfl⟩
    have hno : noR (rL m.n (m.row (w.take (j + 1))), true) = true := by
      have key : ∀ l : List Nat, noLs (l.map fun i => fr (m.row (w.take (j + 1)) i)) = true := by
        intro l
        induction l with
        | nil => rfl
        | cons a l ih =>
          have hf : noL (fr (m.row (w.take (j + 1)) a)) = true := by simp [fr, noL, noLs]
          simp [noLs, ih, hf]
      exact key _
    have hl' : m_led [.lst (tabs m.n (m.row (w.take j))), sT m.n m.n (m.T s)] = .ok (.lst (tabs m.n (m.row (w.take (j + 1)))), true) := hl
    have hno' : noR (.lst (tabs m.n (m.row (w.take (j + 1)))), true) = true := hno
    have e2 : evE (.call "led" m_led [(.loc 3), (.sub (.sub (.loc 0) (.int 1)) (.loc 2))]) [.sh (macD m), .sh (wD w), .sh (.int s), .ow (tabs m.n (m.row (w.take j)))] = .ok (.lst (tabs m.n (m.row (w.take (j + 1)))), .fr) := by
      simp [evE, evEs, mac_1, mac_s hk, args1, hl', hasBo, hno']
    rw [wb_row_behind_2, ss_go (S1 := [.sh (macD m), .sh (wD w), .sh (.int s), .ow (tabs m.n (m.row (w.take (j + 1))))]) (by
      rw [exS]
      show bindS _ (evE _ [.sh (macD m), .sh (wD w), .sh (.int s), .ow (tabs m.n (m.row (w.take j)))]) _ = _
      rw [e2]
      rfl)]
    rfl)
  rw [List.length_map, List.take_length] at h4
  subst h4
  rw [ss_go (S1 := [.sh (macD m), .sh (wD w), s2, .no]) (by
    rw [w_row_behind_1, exS]
    simp only [evI, evEs, evE, List.getElem?_cons_zero, List.getElem?_cons_succ, Res.bind, args1, List.map, hasBo, List.any, Bool.or_false, decide_false, Bool.false_eq_true, if_false, items, wD, bindS_ok]
    exact h1), ss_go (S1 := [.sh (macD m), .sh (wD w), s2, .ow (tabs m.n m.F)]) (by simp [exS, evE, evEs, mac_0, args1, evBlt, rT]), ss_go (S1 := [.sh (macD m), .sh (wD w), s3, .ow (tabs m.n (m.row w))]) (by
    rw [w_row_behind_2, exS]
    simp only [evI, evEs, evE, List.getElem?_cons_zero, List.getElem?_cons_succ, Res.bind, args1, List.map, hasBo, List.any, Bool.or_false, decide_false, Bool.false_eq_true, if_false, items, wD, bindS_ok]
    exact h3)]
  simp [exSs, exS, rL]
/-- the last numbers too -/
structure Weigh (m : Mac) (w : List Nat) (D N E M Dl Nl : Nat) : Prop extends Walk m w D N E M where
  last : ∀ i, i < m.n → Fit Dl Nl (m.L i)
  capl : Cap m.n D N Dl Nl
theorem Walk.here {m : Mac} {w : List Nat} {D N E M : Nat} (h : Walk m w D N E M) : ∀ i, i < m.n → Fit D N (m.row w i) := h.rows w [] (List.append_nil w)
theorem weigh_ok {m : Mac} {w : List Nat} {D N E M Dl Nl : Nat} (h : Weigh m w D N E M Dl Nl) : m_weigh [macD m, wD w] = .ok (fr (m.wt w), false) := by
  have h1 := row_behind_ok h.toWalk
  have h2 := dot_ok (xs := []) (rL_sq m.n (m.row w)) (rT_sq m.n m.L) (fun i hi => tabs_get hi) h.capl (by have := h.n; omega) h.here h.last
  refine mir_ret ?_
  unfold b_weigh
  simp [exSs, exS, evE, evEs, args1, h1, mac_2, h2, hasBo]
  rfl
theorem law_row_ok {m : Mac} {w : List Nat} {D N E M : Nat} (h : Walk m w D N E M) : m_law_row [macD m, wD w] = .ok (rL m.n (m.row w), false) := by
  refine mir_ret ?_
  unfold b_law_row
  obtain ⟨S3, h3, s3, h4⟩ := for_inv0 (f := exSs fuel wb_law_row_1) (tg := fun S d => some (S.set 3 (.sh d))) (fun j S => ∃ s, S = [.sh (macD m), .sh (wD w), .sh (rL m.n (m.row (w.take j))), s]) (xs := w.map fun s : Nat => MP.D.int s) (S := [.sh (macD m), .sh (wD w), .sh (rL m.n m.F), .no]) ⟨.no, rfl⟩ (by
    rintro j x S hx ⟨s', rfl⟩
    obtain ⟨s, hs, rfl⟩ := wD_get hx
    have hk := h.sg s (List.mem_of_getElem? hs)
    have hl := law_led_ok (T := m.T s) (rL_sq m.n (m.row (w.take j))) h.cap h.n (h.rows (w.take j) (w.drop j) (List.take_append_drop j w)) (fun a b => h.steps s a b hk)
    have e : (fun b => sm m.n fun i => m.row (w.take j) i * m.T s i b) = m.row (w.take (j + 1)) := by
      rw [take_snoc hs, Mac.row_snoc]; rfl
    rw [e] at hl
    refine ⟨_, [.sh (macD m), .sh (wD w), .sh (rL m.n (m.row (w.take (j + 1)))), .sh (.int s)], rfl, ?_, .sh (.int s), rfl⟩
    simp [wb_law_row_1, exSs, exS, evE, evEs, mac_1, mac_s hk, args1, hl, hasBo])
  rw [List.length_map, List.take_length] at h4
  subst h4
  rw [ss_go (S1 := [.sh (macD m), .sh (wD w), .sh (rL m.n m.F), .no]) (by simp [exS, evE, evEs, mac_0, args1, evBlt, rT, rL]), ss_go (S1 := [.sh (macD m), .sh (wD w), .sh (rL m.n (m.row w)), s3]) (by
    rw [w_law_row_1, exS]
    simp only [evI, evEs, evE, List.getElem?_cons_zero, List.getElem?_cons_succ, Res.bind, args1, List.map, hasBo, List.any, Bool.or_false, decide_false, Bool.false_eq_true, if_false, items, wD, bindS_ok]
    exact h3)]
  simp [exSs, exS, evE]
theorem law_weight_ok {m : Mac} {w : List Nat} {D N E M Dl Nl : Nat} (h : Weigh m w D N E M Dl Nl) : m_law_weight [macD m, wD w] = .ok (fr (m.wt w), false) := by
  have h1 := law_row_ok h.toWalk
  have h2 := law_dot_ok (xs := []) (rL_sq m.n (m.row w)) (rT_sq m.n m.L) (fun i hi => tabs_get hi) h.capl (by have := h.n; omega) h.here h.last
  refine mir_ret ?_
  unfold b_law_weight
  simp [exSs, exS, evE, evEs, args1, h1, mac_2, h2, hasBo]
  rfl
/-! what the laws look at -/
theorem is_fraction_ok (p q : Rat) : m_law_is_fraction [fr p, fr q] = .ok (.bl (decide (p = q)), false) := by
  refine mir_ret ?_
  unfold b_law_is_fraction
  have e0 : evSub (fr p) (.int 0) = .ok (.int p.num, .sh) := by simp [fr, evSub]
  have e1 : evSub (fr p) (.int 1) = .ok (.int p.den, .sh) := by simp [fr, evSub]
  have e2 : evBlt .len [fr p] = .ok (.int 2, .sh) := rfl
  simp [exSs, exS, evE, evEs, args1, e0, e1, e2, whole_ok, hasBo]
theorem same_row_ok {n : Nat} {f g : Nat → Rat} (hn : n < 2 ^ 40) (h : ∀ i, i < n → f i = g i) : m_law_same_row [rL n f, rL n g] = .ok (.bl true, false) := by
  rw [show rL n f = rL n g from by unfold rL; rw [tabs_congr h]]
  refine mir_ret ?_
  unfold b_law_same_row
  have hl : evBlt .len [rL n g] = .ok (.int n, .sh) := by have := (rL_sq n g).len; rw [tabs_len] at this; exact this
  obtain ⟨S', h1, s3, h2⟩ := for_rng (f := exSs fuel wb_law_same_row_1) (tg := fun S d => some (S.set 2 (.sh d))) (fun j S => ∃ s3, S = [.sh (rL n g), .sh (rL n g), s3]) (n := n) (S := [.sh (rL n g), .sh (rL n g), .no]) ⟨.no, rfl⟩ (by
    rintro j S hj ⟨s3, rfl⟩
    refine ⟨_, [.sh (rL n g), .sh (rL n g), .sh (.int j)], rfl, ?_, _, rfl⟩
    have e := (rL_sq n g).sub (tabs_get hj)
    simp [wb_law_same_row_1, exSs, exS, evE, evEs, args1, hasBo, e, is_fraction_ok])
  subst h2
  have e4 : ∀ t, evIs (rL n g) t = .ok (.bl (evIsi (rL n g) t), .sh) := fun t => rfl
  have e5 : evIsi (rL n g) .list = true := rfl
  rw [ss_go (S1 := [.sh (rL n g), .sh (rL n g), .no]) (by simp [exSs, exS, evE, evEs, args1, hl, e4, e5, hasBo]), ss_go (S1 := [.sh (rL n g), .sh (rL n g), s3]) (by
    rw [w_law_same_row_1, exS]
    simp only [evI, evEs, evE, List.getElem?_cons_zero, List.getElem?_cons_succ, Res.bind, args1, List.map, hl, hasBo, List.any, Bool.or_false, decide_false, Bool.false_eq_true, if_false, items_rng n (show n < 4611686018427387904 by omega), bindS_ok]
    exact h1)]
  simp [exSs, exS, evE]
end MP
set_option Elab.async false
set_option linter.all false
set_option maxRecDepth 100000
set_option maxHeartbeats 4000000
namespace MP
open PySem PySem.Spec PyProof.Rows L2 WM
/-! drawn fractions, machines, words -/
def botOf (c : Int) : Int := if (c.fdiv 9).fmod 5 = 2 then 2 else if (c.fdiv 9).fmod 5 = 4 then 3 else 1
def fracQ (c : Int) : Rat := ((c.fmod 9 - 4 : Int) : Rat) / ((botOf c : Int) : Rat)
theorem fmod_lt' {w m : Int} (h : 0 < m) : 0 ≤ w.fmod m ∧ w.fmod m < m := ⟨Int.fmod_nonneg_of_pos _ h, Int.fmod_lt_of_pos _ h⟩
theorem Fit.quot' (t b : Int) (hb : 0 < b) : Fit b.toNat t.natAbs ((t : Rat) / (b : Rat)) := by
  have hb' : (b : Rat) ≠ 0 := fun e => by have := cast_inj' (show ((b : Int) : Rat) = ((0 : Int) : Rat) by rw [e]; rfl); omega
  refine ⟨by omega, t, ?_, by omega⟩
  rw [← Rat.intCast_natCast, show ((b.toNat : Nat) : Int) = b by omega]
  grind
theorem frac_fit (c : Int) : Fit 6 24 (fracQ c) := by
  have h9 := fmod_lt' (w := c) (m := 9) (by decide)
  unfold fracQ botOf
  split
  · exact ((Fit.quot' (c.fmod 9 - 4) 2 (by decide)).scale 3 (by decide)).mono (by omega)
  · split
    · exact ((Fit.quot' (c.fmod 9 - 4) 3 (by decide)).scale 2 (by decide)).mono (by omega)
    · exact ((Fit.quot' (c.fmod 9 - 4) 1 (by decide)).scale 6 (by decide)).mono (by omega)
theorem law_fraction_ok (c : Int) : m_law_fraction [.int c] = .ok (fr (fracQ c), false) := by
  have h5 := fmod_lt' (w := c.fdiv 9) (m := 5) (by decide)
  have m1 : evBin .mod (.int c) (.int 9) = .ok (.int (c.fmod 9), .sh) := ev_mod (by decide)
  have m2 : evBin .fdiv (.int c) (.int 9) = .ok (.int (c.fdiv 9), .sh) := ev_fdiv (by decide) (by decide +kernel)
  have m3 : evBin .mod (.int (c.fdiv 9)) (.int 5) = .ok (.int ((c.fdiv 9).fmod 5), .sh) := ev_mod (by decide)
  have m4 : evSub (.lst [.int 1, .int 1, .int 2, .int 1, .int 3]) (.int ((c.fdiv 9).fmod 5)) = .ok (.int (botOf c), .sh) := by
    have h : (c.fdiv 9).fmod 5 = 0 ∨ (c.fdiv 9).fmod 5 = 1 ∨ (c.fdiv 9).fmod 5 = 2 ∨ (c.fdiv 9).fmod 5 = 3 ∨ (c.fdiv 9).fmod 5 = 4 := by omega
    have e3 : atI [D.int 1, .int 1, .int 2, .int 1, .int 3] 3 = some (.int 1) := atI_nat _ 3
    have e4 : atI [D.int 1, .int 1, .int 2, .int 1, .int 3] 4 = some (.int 3) := atI_nat _ 4
    unfold botOf
    rcases h with h | h | h | h | h <;> rw [h] <;> simp [evSub, e3, e4]
  have hb : 0 < botOf c ∧ botOf c ≤ 3 := by unfold botOf; split <;> (try split) <;> omega
  have hl := law_low_ok (c.fmod 9 - 4) (botOf c) hb.1 (lt9 (by omega))
  rw [show ((c.fmod 9 - 4 : Int) : Rat) / ((botOf c : Int) : Rat) = fracQ c from rfl] at hl
  refine mir_ret ?_
  unfold b_law_fraction
  simp [exSs, exS, evE, evEs, args1, m1, m2, m3, m4, hl, hasBo]
/-- the generator of drawn cells -/
def nxt (a c : Int) : Int := (c * 48271 + a).fmod 2147483647
def cells (a c : Int) : Nat → Int
  | 0 => c
  | i + 1 => nxt a (cells a c i)
def drawQ (c : Int) : Rat := if (c.fdiv 11).fmod 3 = 0 then 0 else fracQ (c.fdiv 33)
theorem draw_fit (c : Int) : Fit 6 24 (drawQ c) := by
  unfold drawQ
  split
  · exact Fit.zero (by decide)
  · exact frac_fit _
/-- the i-th number that is drawn -/
def outQ (c : Int) (i : Nat) : Rat := drawQ (cells 29 c (i + 1))
theorem nxt_ok (a c : Int) : evBin .mul (.int c) (.int 48271) = .ok (.int (c * 48271), .sh) ∧ evBin .mod (.int (c * 48271 + a)) (.int 2147483647) = .ok (.int (nxt a c), .sh) := ⟨ev_mul64 (by decide), ev_mod (by decide)⟩
theorem tabs_snoc (n : Nat) (f : Nat → Rat) : tabs (n + 1) f = tabs n f ++ [fr (f n)] := by simp [tabs, List.range_succ]
theorem tabs_cut (f : Nat → Rat) (a n m : Nat) (h : a + n ≤ m) : ((tabs m f).drop a).take n = tabs n fun i => f (a + i) := by
  apply List.ext_getElem?
  intro i
  rw [List.getElem?_take, List.getElem?_drop]
  by_cases hi : i < n
  · rw [if_pos hi, tabs_get (by omega), tabs_get hi]
  · rw [if_neg hi]
    simp [tabs, hi]
theorem sl_tabs (f : Nat → Rat) (a n m : Nat) (h : a + n ≤ m) : evSl (.lst (tabs m f)) (some (a : Int)) (some ((a + n : Nat) : Int)) = .ok (rL n fun i => f (a + i), .fr) := by
  have e : cutD (tabs m f) (some (a : Int)) (some ((a + n : Nat) : Int)) = tabs n fun i => f (a + i) := by
    unfold cutD
    rw [HT.sIx_nat, HT.sIx_nat, tabs_len, Nat.min_eq_left h, Nat.min_eq_left (show a ≤ m by omega), show a + n - a = n by omega]
    exact tabs_cut f a n m h
  show Res.ok (D.lst (cutD _ _ _), Kd.fr) = _
  rw [e]; rfl
theorem slHi_tabs (f : Nat → Rat) (n m : Nat) (h : n ≤ m) : evSl (.lst (tabs m f)) none (some (n : Int)) = .ok (rL n f, .fr) := by
  have e : cutD (tabs m f) none (some (n : Int)) = tabs n f := by
    unfold cutD
    rw [HT.sIx_nat, HT.sIx_none, tabs_len, Nat.min_eq_left h, Nat.sub_zero]
    have := tabs_cut f 0 n m (by omega)
    simpa using this
  show Res.ok (D.lst (cutD _ _ _), Kd.fr) = _
  rw [e]; rfl
/-- the drawn machine -/
def drawn (c : Int) (n k : Nat) : Mac := ⟨n, k, outQ c, fun s a b => outQ c (2 * n + (s * n + a) * n + b), fun i => outQ c (n + i)⟩
theorem drawn_T (c : Int) (n k : Nat) (s a b : Nat) : Fit 6 24 ((drawn c n k).T s a b) := draw_fit _
theorem drawn_F (c : Int) (n k : Nat) (i : Nat) : Fit 6 24 ((drawn c n k).F i) := draw_fit _
theorem drawn_L (c : Int) (n k : Nat) (i : Nat) : Fit 6 24 ((drawn c n k).L i) := draw_fit _
theorem ev_tupleL (n : Nat) (f : Nat → Rat) : evBlt .tuple [rL n f] = .ok (rT n f, .sh) := rfl
theorem mach_loop1 (c : Int) (x1 x2 x5 x6 x7 x8 x9 : SV) (N : Nat) (hN : N ≤ 16777215) : ∃ c' s4, forL (exSs fuel wb_law_machine_1) (fun S d => some (S.set 4 (.sh d))) ((List.range N).map fun i : Nat => D.int i) [.sh (.int c), x1, x2, .ow [], .no, x5, x6, x7, x8, x9] = .nx [.sh (.int c'), x1, x2, .ow (tabs N (outQ c)), s4, x5, x6, x7, x8, x9] := by
  obtain ⟨S', h1, s4, h2⟩ := for_rng (f := exSs fuel wb_law_machine_1) (tg := fun S d => some (S.set 4 (.sh d))) (fun j S => ∃ s4, S = [.sh (.int (cells 29 c j)), x1, x2, .ow (tabs j (outQ c)), s4, x5, x6, x7, x8, x9]) (n := N) (S := [.sh (.int c), x1, x2, .ow [], .no, x5, x6, x7, x8, x9]) ⟨.no, rfl⟩ (by
    rintro j S hj ⟨s4, rfl⟩
    obtain ⟨m1, m2⟩ := nxt_ok 29 (cells 29 c j)
    refine ⟨_, [.sh (.int (cells 29 c (j + 1))), x1, x2, .ow (tabs (j + 1) (outQ c)), .sh (.int j), x5, x6, x7, x8, x9], rfl, ?_, _, rfl⟩
    have hlt : j < 16777216 := by omega
    rw [show cells 29 c (j + 1) = nxt 29 (cells 29 c j) from rfl, tabs_snoc, show outQ c j = drawQ (nxt 29 (cells 29 c j)) from rfl]
    generalize nxt 29 (cells 29 c j) = y at m2
    have m3 : evBin .fdiv (.int y) (.int 11) = .ok (.int (y.fdiv 11), .sh) := ev_fdiv (by decide) (by decide +kernel)
    have m4 : evBin .mod (.int (y.fdiv 11)) (.int 3) = .ok (.int ((y.fdiv 11).fmod 3), .sh) := ev_mod (by decide)
    have m5 : evBin .fdiv (.int y) (.int 33) = .ok (.int (y.fdiv 33), .sh) := ev_fdiv (by decide) (by decide +kernel)
    unfold drawQ
    by_cases h0 : (y.fdiv 11).fmod 3 = 0
    · simp [wb_law_machine_1, exSs, exS, evE, evEs, args1, m1, m2, m3, m4, m5, h0, hasBo, tabs_len, hlt, fr_zero]
    · simp [wb_law_machine_1, exSs, exS, evE, evEs, args1, m1, m2, m3, m4, m5, h0, hasBo, tabs_len, hlt, law_fraction_ok])
  exact ⟨_, s4, by rw [h1, h2]⟩
/-- rows of one sign -/
theorem mach_loop2 (f : Nat → Rat) (n k N s : Nat) (x0 x4 x5 x8 x9 : SV) (hn : n ≤ 100) (hs : s < 10) (hN : 2 * n + (s * n + n) * n ≤ N) : ∃ s8 s9, forL (exSs fuel wb_law_machine_2) (fun S d => some (S.set 8 (.sh d))) ((List.range n).map fun i : Nat => D.int i) [x0, .sh (.int n), .sh (.int k), .ow (tabs N f), x4, x5, .sh (.int s), .ow [], x8, x9] =
    .nx [x0, .sh (.int n), .sh (.int k), .ow (tabs N f), x4, x5, .sh (.int s), .ow ((List.range n).map fun a => rT n fun b => f (2 * n + (s * n + a) * n + b)), s8, s9] := by
  obtain ⟨S', h1, s8, s9, h2⟩ := for_rng (f := exSs fuel wb_law_machine_2) (tg := fun S d => some (S.set 8 (.sh d))) (fun j S => ∃ s8 s9, S = [x0, .sh (.int n), .sh (.int k), .ow (tabs N f), x4, x5, .sh (.int s), .ow ((List.range j).map fun a => rT n fun b => f (2 * n + (s * n + a) * n + b)), s8, s9]) (n := n) (S := [x0, .sh (.int n), .sh (.int k), .ow (tabs N f), x4, x5, .sh (.int s), .ow [], x8, x9]) ⟨x8, x9, rfl⟩ (by
    rintro j S hj ⟨s8, s9, rfl⟩
    refine ⟨_, [x0, .sh (.int n), .sh (.int k), .ow (tabs N f), x4, x5, .sh (.int s), .ow ((List.range (j + 1)).map fun a => rT n fun b => f (2 * n + (s * n + a) * n + b)), .sh (.int j), .sh (.int ((2 * n + (s * n + j) * n : Nat) : Int))], rfl, ?_, _, _, rfl⟩
    have hle : 2 * n + (s * n + j) * n + n ≤ N := by
      have : (s * n + j) * n + n ≤ (s * n + n) * n := by
        rw [show (s * n + j) * n + n = (s * n + j + 1) * n by rw [Nat.add_mul (s * n + j) 1, Nat.one_mul]]
        exact Nat.mul_le_mul_right _ (by omega)
      omega
    have m1 : evBin .mul (.int 2) (.int n) = .ok (.int (2 * n), .sh) := ev_mul64 (by omega)
    have m2 : evBin .mul (.int s) (.int n) = .ok (.int (s * n), .sh) := ev_mul64 (by omega)
    have m3 : evBin .mul (.int ((s : Int) * n + j)) (.int n) = .ok (.int (((s : Int) * n + j) * n), .sh) := ev_mul64 (by omega)
    have e := sl_tabs f (2 * n + (s * n + j) * n) n N hle
    have c1 : ((2 * n + (s * n + j) * n : Nat) : Int) = 2 * (n : Int) + ((s : Int) * n + j) * n := by simp
    have c2 : ((2 * n + (s * n + j) * n + n : Nat) : Int) = 2 * (n : Int) + ((s : Int) * n + j) * n + n := by simp
    rw [c1, c2] at e
    rw [c1]
    have hlt : j < 16777216 := by omega
    simp [wb_law_machine_2, exSs, exS, evE, evEs, args1, m1, m2, m3, e, hasBo, hlt, ev_tupleL, List.range_succ])
  exact ⟨s8, s9, by rw [h1, h2]⟩
theorem law_machine_ok (c : Int) (n k : Nat) (hn : n ≤ 100) (hk : k < 10) : m_law_machine [.int c, .int n, .int k] = .ok (macD (drawn c n k), false) := by
  refine mir_ret ?_
  unfold b_law_machine
  have hN : n * (2 + n * k) ≤ 16777215 := Nat.le_trans (Nat.mul_le_mul hn (show 2 + n * k ≤ 2 + 100 * 9 from Nat.add_le_add_left (Nat.mul_le_mul hn (by omega)) 2)) (by decide)
  obtain ⟨c', s4, h1⟩ := mach_loop1 c (.sh (.int n)) (.sh (.int k)) .no .no .no .no .no (n * (2 + n * k)) hN
  obtain ⟨S', h2, s6, s7, s8, s9, h3⟩ := for_rng (f := exSs fuel wb_law_machine_3) (tg := fun S d => some (S.set 6 (.sh d))) (fun j S => ∃ s6 s7 s8 s9, S = [.sh (.int c'), .sh (.int n), .sh (.int k), .ow (tabs (n * (2 + n * k)) (outQ c)), s4, .ow ((List.range j).map fun s => sT n n fun a b => outQ c (2 * n + (s * n + a) * n + b)), s6, s7, s8, s9]) (n := k) (S := [.sh (.int c'), .sh (.int n), .sh (.int k), .ow (tabs (n * (2 + n * k)) (outQ c)), s4, .ow [], .no, .no, .no, .no]) ⟨.no, .no, .no, .no, rfl⟩ (by
    rintro j S hj ⟨s6, s7, s8, s9, rfl⟩
    have hle : 2 * n + (j * n + n) * n ≤ n * (2 + n * k) := by
      have e1 : (j * n + n) * n = n * (n * (j + 1)) := by rw [show j * n + n = n * (j + 1) by rw [Nat.mul_add, Nat.mul_one, Nat.mul_comm], Nat.mul_comm]
      have e2 : n * (2 + n * k) = 2 * n + n * (n * k) := by rw [Nat.mul_add, Nat.mul_comm n 2]
      have e3 : n * (n * (j + 1)) ≤ n * (n * k) := Nat.mul_le_mul_left _ (Nat.mul_le_mul_left _ (show j + 1 ≤ k by omega))
      omega
    obtain ⟨t8, t9, h4⟩ := mach_loop2 (outQ c) n k (n * (2 + n * k)) j (.sh (.int c')) s4 (.ow ((List.range j).map fun s => sT n n fun a b => outQ c (2 * n + (s * n + a) * n + b))) s8 s9 hn (by omega) hle
    refine ⟨_, [.sh (.int c'), .sh (.int n), .sh (.int k), .ow (tabs (n * (2 + n * k)) (outQ c)), s4, .ow ((List.range (j + 1)).map fun s => sT n n fun a b => outQ c (2 * n + (s * n + a) * n + b)), .sh (.int j), .ow ((List.range n).map fun a => rT n fun b => outQ c (2 * n + (j * n + a) * n + b)), t8, t9], rfl, ?_, _, _, _, _, rfl⟩
    rw [wb_law_machine_3, ss_go (S1 := [.sh (.int c'), .sh (.int n), .sh (.int k), .ow (tabs (n * (2 + n * k)) (outQ c)), s4, .ow ((List.range j).map fun s => sT n n fun a b => outQ c (2 * n + (s * n + a) * n + b)), .sh (.int j), .ow [], s8, s9]) (by simp [exS, evE, evEs, hasBo, args1]), ss_go (S1 := [.sh (.int c'), .sh (.int n), .sh (.int k), .ow (tabs (n * (2 + n * k)) (outQ c)), s4, .ow ((List.range j).map fun s => sT n n fun a b => outQ c (2 * n + (s * n + a) * n + b)), .sh (.int j), .ow ((List.range n).map fun a => rT n fun b => outQ c (2 * n + (j * n + a) * n + b)), t8, t9]) (by
      rw [w_law_machine_2, exS]
      have hi := items_rng n (by omega)
      simp [evI, evEs, evE, args1, hasBo, hi]
      exact h4)]
    have hlt : j < 16777216 := by omega
    simp [exSs, exS, evE, evEs, args1, evBlt, hlt, List.range_succ, sT])
  subst h3
  have m1 : evBin .mul (.int n) (.int k) = .ok (.int (n * k), .sh) := ev_mul64 (by omega)
  have m2 : evBin .mul (.int n) (.int (2 + (n : Int) * k)) = .ok (.int (n * (2 + n * k)), .sh) := ev_mul64 (by
    have : ((2 : Int) + n * k).natAbs ≤ 2 + 100 * 9 := by
      have : n * k ≤ 100 * 9 := Nat.mul_le_mul hn (by omega)
      have e : (n : Int) * k = ((n * k : Nat) : Int) := by simp
      rw [e]; omega
    omega)
  have m3 : evBin .mul (.int 2) (.int n) = .ok (.int (2 * n), .sh) := ev_mul64 (by omega)
  have hi1 : items .range1 [.int (n * (2 + n * k))] = .ok ((List.range (n * (2 + n * k))).map fun i : Nat => D.int i) := by
    have := items_rng (n * (2 + n * k)) (by omega)
    rw [show ((n * (2 + n * k) : Nat) : Int) = (n : Int) * (2 + n * k) by simp] at this
    exact this
  have hi2 := items_rng k (by omega)
  have hle : n + n ≤ n * (2 + n * k) := by rw [Nat.mul_add]; omega
  have e1 := slHi_tabs (outQ c) n _ (show n ≤ n * (2 + n * k) by omega)
  have e2 := sl_tabs (outQ c) n n _ hle
  rw [show ((n + n : Nat) : Int) = 2 * (n : Int) by omega] at e2
  rw [ss_go (S1 := [.sh (.int c), .sh (.int n), .sh (.int k), .ow [], .no, .no, .no, .no, .no, .no]) (by simp [exS, evE, evEs, hasBo, args1]),
    ss_go (S1 := [.sh (.int c'), .sh (.int n), .sh (.int k), .ow (tabs (n * (2 + n * k)) (outQ c)), s4, .no, .no, .no, .no, .no]) (by
      rw [w_law_machine_1, exS]
      simp [evI, evEs, evE, args1, hasBo, m1, m2, hi1]
      exact h1),
    ss_go (S1 := [.sh (.int c'), .sh (.int n), .sh (.int k), .ow (tabs (n * (2 + n * k)) (outQ c)), s4, .ow [], .no, .no, .no, .no]) (by simp [exS, evE, evEs, hasBo, args1]),
    ss_go (S1 := [.sh (.int c'), .sh (.int n), .sh (.int k), .ow (tabs (n * (2 + n * k)) (outQ c)), s4, .ow ((List.range k).map fun s => sT n n fun a b => outQ c (2 * n + (s * n + a) * n + b)), s6, s7, s8, s9]) (by
      rw [w_law_machine_3, exS]
      simp [evI, evEs, evE, args1, hasBo, hi2]
      exact h2)]
  simp [exSs, exS, evE, evEs, args1, hasBo, e1, e2, m3, ev_tupleL, evBlt]
  rfl
/-- the drawn word -/
def wordSign (c : Int) (k : Nat) (i : Nat) : Nat := (((cells 17 c (i + 1)).fdiv 5).fmod k).toNat
def drawnW (c : Int) (k most : Nat) : List Nat := (List.range (c.fmod (most + 1)).toNat).map (wordSign c k)
theorem drawnW_lt (c : Int) {k : Nat} (most : Nat) (hk : 0 < k) : ∀ s ∈ drawnW c k most, s < k := by
  intro s hs
  obtain ⟨i, _, rfl⟩ := List.mem_map.mp hs
  have := fmod_lt' (w := (cells 17 c (i + 1)).fdiv 5) (m := k) (by omega)
  unfold wordSign
  omega
theorem drawnW_len (c : Int) (k most : Nat) : (drawnW c k most).length ≤ most := by
  have := fmod_lt' (w := c) (m := (most : Int) + 1) (by omega)
  simp [drawnW]; omega
theorem law_word_ok (c : Int) (k most : Nat) (hk : 0 < k) (hm : most ≤ 1000) : m_law_word [.int c, .int k, .int most] = .ok (wD (drawnW c k most), false) := by
  refine mir_ret ?_
  unfold b_law_word
  have hf := fmod_lt' (w := c) (m := (most : Int) + 1) (by omega)
  obtain ⟨N, hN⟩ : ∃ N : Nat, c.fmod (most + 1) = N := ⟨(c.fmod (most + 1)).toNat, by omega⟩
  have hw : drawnW c k most = (List.range N).map (wordSign c k) := by unfold drawnW; rw [hN]; rfl
  have hNl : N ≤ 1000 := by omega
  obtain ⟨S', h1, s4, h2⟩ := for_rng (f := exSs fuel wb_law_word_1) (tg := fun S d => some (S.set 4 (.sh d))) (fun j S => ∃ s4, S = [.sh (.int (cells 17 c j)), .sh (.int k), .sh (.int most), .ow ((List.range j).map fun i => D.int (wordSign c k i)), s4]) (n := N) (S := [.sh (.int c), .sh (.int k), .sh (.int most), .ow [], .no]) ⟨.no, rfl⟩ (by
    rintro j S hj ⟨s4, rfl⟩
    obtain ⟨m1, m2⟩ := nxt_ok 17 (cells 17 c j)
    refine ⟨_, [.sh (.int (cells 17 c (j + 1))), .sh (.int k), .sh (.int most), .ow ((List.range (j + 1)).map fun i => D.int (wordSign c k i)), .sh (.int j)], rfl, ?_, _, rfl⟩
    have hlt : j < 16777216 := by omega
    have hy : wordSign c k j = (((nxt 17 (cells 17 c j)).fdiv 5).fmod k).toNat := rfl
    rw [show cells 17 c (j + 1) = nxt 17 (cells 17 c j) from rfl, List.range_succ, List.map_append, List.map_cons, List.map_nil, hy]
    generalize nxt 17 (cells 17 c j) = y at m2
    have hm := fmod_lt' (w := y.fdiv 5) (m := k) (by omega)
    have m3 : evBin .fdiv (.int y) (.int 5) = .ok (.int (y.fdiv 5), .sh) := ev_fdiv (by decide) (by decide +kernel)
    have m4 : evBin .mod (.int (y.fdiv 5)) (.int k) = .ok (.int ((y.fdiv 5).fmod k), .sh) := ev_mod (by omega)
    have e : ((((y.fdiv 5).fmod k).toNat : Nat) : Int) = (y.fdiv 5).fmod k := by omega
    rw [e]
    simp [wb_law_word_1, exSs, exS, evE, evEs, args1, m1, m2, m3, m4, hasBo, hlt])
  subst h2
  have m1 : evBin .mod (.int c) (.int ((most : Int) + 1)) = .ok (.int N, .sh) := by rw [← hN]; exact ev_mod (by omega)
  have hi := items_rng N (by omega)
  rw [ss_go (S1 := [.sh (.int c), .sh (.int k), .sh (.int most), .ow [], .no]) (by simp [exS, evE, evEs, hasBo, args1]), ss_go (S1 := [.sh (.int (cells 17 c N)), .sh (.int k), .sh (.int most), .ow ((List.range N).map fun i => D.int (wordSign c k i)), s4]) (by
    rw [w_law_word_1, exS]
    simp [evI, evEs, evE, args1, hasBo, m1, hi]
    exact h1)]
  simp [exSs, exS, evE, evEs, args1, evBlt, hw, wD]
end MP
set_option Elab.async false
set_option linter.all false
set_option maxRecDepth 100000
set_option maxHeartbeats 4000000
namespace MP
open PySem PySem.Spec PyProof.Rows L2 WM
/-! sizes of walks -/
theorem Cap.mono {n m D1 N1 D2 N2 : Nat} (c : Cap n D1 N1 D2 N2) (h : m ≤ n) : Cap m D1 N1 D2 N2 := ⟨c.d, c.n1, c.n2, Nat.lt_of_le_of_lt h c.n⟩
/-- rows of all words of at most len signs fit -/
theorem rows_fit {m : Mac} {nb len D0 N0 E M : Nat} (hn : m.n ≤ nb) (hE : 0 < E) (hF : ∀ i, i < m.n → Fit D0 N0 (m.F i)) (hT : ∀ s a b, s < m.k → a < m.n → b < m.n → Fit E M (m.T s a b)) (u : List Nat) (hu : u.length ≤ len) (sg : ∀ s ∈ u, s < m.k) (i : Nat) (hi : i < m.n) :
    Fit (D0 * E ^ len) (N0 * ((nb * M + 1) * E) ^ len) (m.row u i) := by
  have h0 : 0 < D0 := (hF i hi).1
  have z := Mac.run_fit m hT hE u sg m.F D0 N0 h0 hF i hi
  obtain ⟨j, hj⟩ : ∃ j, len = u.length + j := ⟨len - u.length, by omega⟩
  have z2 := z.scale (E ^ j) (Nat.pow_pos hE)
  have e1 : D0 * E ^ u.length * E ^ j = D0 * E ^ len := by rw [hj, Nat.pow_add, Nat.mul_assoc]
  rw [e1] at z2
  refine z2.mono ?_
  have a1 : (m.n * M) ^ u.length ≤ (nb * M + 1) ^ u.length := Nat.pow_le_pow_left (Nat.le_trans (Nat.mul_le_mul_right _ hn) (by omega)) _
  have a2 : (nb * M + 1) ^ u.length ≤ (nb * M + 1) ^ len := Nat.pow_le_pow_right (by omega) hu
  have a3 : E ^ j ≤ E ^ len := Nat.pow_le_pow_right hE (by omega)
  rw [Nat.mul_pow (nb * M + 1), Nat.mul_assoc]
  exact Nat.mul_le_mul_left _ (Nat.mul_le_mul (Nat.le_trans a1 a2) a3)
theorem weigh_of {m : Mac} {w : List Nat} {nb len D0 N0 E M Dl Nl : Nat} (hn : m.n ≤ nb) (hl : w.length ≤ len) (sg : ∀ s ∈ w, s < m.k) (hE : 0 < E) (hF : ∀ i, i < m.n → Fit D0 N0 (m.F i)) (hT : ∀ s a b, s < m.k → a < m.n → b < m.n → Fit E M (m.T s a b)) (hL : ∀ i, i < m.n → Fit Dl Nl (m.L i))
    (c1 : Cap nb (D0 * E ^ len) (N0 * ((nb * M + 1) * E) ^ len) E M) (c2 : Cap nb (D0 * E ^ len) (N0 * ((nb * M + 1) * E) ^ len) Dl Nl) (hb : nb ≤ 16777215) : Weigh m w (D0 * E ^ len) (N0 * ((nb * M + 1) * E) ^ len) E M Dl Nl :=
  { sg := sg
    rows := fun u v e i hi => rows_fit hn hE hF hT u (by have := congrArg List.length e; rw [List.length_append] at this; omega) (fun s hs => sg s (by rw [← e]; exact List.mem_append_left _ hs)) i hi
    steps := hT
    cap := c1.mono hn
    n := by omega
    last := hL
    capl := c2.mono hn }
theorem cap_drawn : Cap 24 (6 * 6 ^ 60) (24 * ((24 * 24 + 1) * 6) ^ 60) 6 24 := ⟨by decide +kernel, Nat.lt_of_lt_of_le (m := 2 ^ 9000) (by decide +kernel) (Nat.pow_le_pow_right (by decide) (by decide)), Nat.lt_of_lt_of_le (m := 2 ^ 9000) (by decide +kernel) (Nat.pow_le_pow_right (by decide) (by decide)), by decide +kernel⟩
/-- a machine with small numbers and any word of at most sixty signs -/
theorem weigh_small {m : Mac} {w : List Nat} (hn : m.n ≤ 24) (hl : w.length ≤ 60) (sg : ∀ s ∈ w, s < m.k) (hF : ∀ i, i < m.n → Fit 6 24 (m.F i)) (hT : ∀ s a b, s < m.k → a < m.n → b < m.n → Fit 6 24 (m.T s a b)) (hL : ∀ i, i < m.n → Fit 6 24 (m.L i)) : Weigh m w (6 * 6 ^ 60) (24 * ((24 * 24 + 1) * 6) ^ 60) 6 24 6 24 :=
  weigh_of hn hl sg (by decide) hF hT hL cap_drawn cap_drawn (by decide)
theorem weigh_drawn (c : Int) {n k : Nat} {w : List Nat} (hn : n ≤ 24) (hl : w.length ≤ 60) (sg : ∀ s ∈ w, s < k) : Weigh (drawn c n k) w (6 * 6 ^ 60) (24 * ((24 * 24 + 1) * 6) ^ 60) 6 24 6 24 :=
  weigh_small hn hl sg (fun i _ => drawn_F c n k i) (fun s a b _ _ _ => drawn_T c n k s a b) (fun i _ => drawn_L c n k i)
/-! slices of words -/
theorem wD_hi (w : List Nat) (c : Nat) (h : c ≤ w.length) : evSl (wD w) none (some (c : Int)) = .ok (wD (w.take c), .sh) := by
  show Res.ok (D.tup (cutD _ _ _), Kd.sh) = _
  unfold cutD
  rw [HT.sIx_nat, HT.sIx_none, List.length_map, Nat.min_eq_left h, Nat.sub_zero, List.drop_zero, ← List.map_take]
  rfl
theorem wD_lo (w : List Nat) (c : Nat) (h : c ≤ w.length) : evSl (wD w) (some (c : Int)) none = .ok (wD (w.drop c), .sh) := by
  show Res.ok (D.tup (cutD _ _ _), Kd.sh) = _
  unfold cutD
  rw [HT.sIx_nat, HT.sIx_none, List.length_map, Nat.min_eq_left h, ← List.map_drop, List.take_of_length_le (by simp)]
  rfl
theorem wD_len (w : List Nat) : evBlt .len [wD w] = .ok (.int w.length, .sh) := by
  show Res.ok (D.int ((w.map fun s : Nat => D.int s).length : Nat), Kd.sh) = _
  rw [List.length_map]
/-- the machine that begins with another row -/
def from_ (m : Mac) (f : Nat → Rat) : Mac := { m with F := f }
theorem Weigh.cut {m : Mac} {u v : List Nat} {D N E M Dl Nl : Nat} (h : Weigh m (u ++ v) D N E M Dl Nl) : Weigh (from_ m (m.row u)) v D N E M Dl Nl :=
  { sg := fun s hs => h.sg s (List.mem_append_right _ hs)
    rows := fun a b e i hi => by
      have := h.rows (u ++ a) b (by rw [List.append_assoc, e]) i hi
      rw [Mac.row_app] at this
      exact this
    steps := h.steps
    cap := h.cap
    n := h.n
    last := h.last
    capl := h.capl }
theorem wt_cut (m : Mac) (u v : List Nat) : (from_ m (m.row u)).wt v = m.wt (u ++ v) := by
  show m.dotL (m.run (m.row u) v) = m.dotL (m.row (u ++ v))
  rw [Mac.row_app]
theorem Walk.pre {m : Mac} {u v : List Nat} {D N E M : Nat} (h : Walk m (u ++ v) D N E M) : Walk m u D N E M :=
  { sg := fun s hs => h.sg s (List.mem_append_left _ hs)
    rows := fun a b e i hi => h.rows a (b ++ v) (by rw [← List.append_assoc, e]) i hi
    steps := h.steps
    cap := h.cap
    n := h.n }
end MP
set_option Elab.async false
set_option linter.all false
/-! machines from machines: the plain mathematics -/
namespace WM
theorem sm_const_mul (f g : Nat → Rat) (n m : Nat) : sm n (fun a => sm m (fun b => f a * g b)) = sm n f * sm m g := by
  rw [sm_congr (g := fun a => f a * sm m g) (fun a _ => sm_mul (f a) g m), sm_mulr]
/-- pairs of places -/
theorem sm_pairs (h : Nat → Nat → Rat) (m : Nat) (hm : 0 < m) : ∀ n : Nat, sm (n * m) (fun i => h (i / m) (i % m)) = sm n (fun a => sm m (h a))
  | 0 => by rw [Nat.zero_mul]; rfl
  | n + 1 => by
    rw [Nat.add_mul, Nat.one_mul, sm_app, sm_pairs h m hm n]
    show _ + _ = sm n _ + sm m (h n)
    congr 1
    exact sm_congr fun b hb => by
      rw [Nat.mul_comm n m, Nat.mul_add_div hm, Nat.div_eq_of_lt hb, Nat.add_zero, Nat.mul_add_mod, Nat.mod_eq_of_lt hb]
namespace Mac
/-! products -/
def prod (p q : Mac) : Mac := ⟨p.n * q.n, p.k, fun i => p.F (i / q.n) * q.F (i % q.n), fun s i j => p.T s (i / q.n) (j / q.n) * q.T s (i % q.n) (j % q.n), fun i => p.L (i / q.n) * q.L (i % q.n)⟩
theorem prod_step (p q : Mac) (hq : 0 < q.n) (v u : Nat → Rat) (s : Nat) : (p.prod q).step (fun i => v (i / q.n) * u (i % q.n)) s = fun j => p.step v s (j / q.n) * q.step u s (j % q.n) := by
  funext j
  show sm (p.n * q.n) (fun i => v (i / q.n) * u (i % q.n) * (p.T s (i / q.n) (j / q.n) * q.T s (i % q.n) (j % q.n))) = _
  rw [sm_pairs (fun a b => v a * u b * (p.T s a (j / q.n) * q.T s b (j % q.n))) q.n hq p.n]
  show _ = sm p.n (fun a => v a * p.T s a (j / q.n)) * sm q.n (fun b => u b * q.T s b (j % q.n))
  rw [← sm_const_mul]
  exact sm_congr fun a _ => sm_congr fun b _ => by grind
theorem prod_run (p q : Mac) (hq : 0 < q.n) : ∀ (w : List Nat) (v u : Nat → Rat), (p.prod q).run (fun i => v (i / q.n) * u (i % q.n)) w = fun j => p.run v w (j / q.n) * q.run u w (j % q.n)
  | [], _, _ => rfl
  | s :: w, v, u => by
    rw [run_cons, prod_step p q hq, prod_run p q hq w]; rfl
theorem prod_wt (p q : Mac) (w : List Nat) : (p.prod q).wt w = p.wt w * q.wt w := by
  rcases Nat.eq_zero_or_pos q.n with h | h
  · show sm (p.n * q.n) _ = _ * sm q.n _
    rw [h, Nat.mul_zero]
    show (0 : Rat) = _ * 0
    grind
  · show sm (p.n * q.n) (fun i => (p.prod q).run (p.prod q).F w i * (p.L (i / q.n) * q.L (i % q.n))) = _
    rw [show (p.prod q).F = fun i => p.F (i / q.n) * q.F (i % q.n) from rfl, prod_run p q h w p.F q.F]
    rw [sm_pairs (fun a b => p.run p.F w a * q.run q.F w b * (p.L a * q.L b)) q.n h p.n]
    show _ = sm p.n (fun a => p.run p.F w a * p.L a) * sm q.n (fun b => q.run q.F w b * q.L b)
    rw [← sm_const_mul]
    exact sm_congr fun a _ => sm_congr fun b _ => by grind
/-! sums -/
/-- f, then g from place n on -/
def cat (n : Nat) (f g : Nat → Rat) : Nat → Rat := fun i => if i < n then f i else g (i - n)
theorem cat_lo {n i : Nat} {f g : Nat → Rat} (h : i < n) : cat n f g i = f i := if_pos h
theorem cat_hi (n i : Nat) (f g : Nat → Rat) : cat n f g (n + i) = g i := by
  unfold cat
  rw [if_neg (by omega), Nat.add_sub_cancel_left]
theorem sm_cat (n m : Nat) (f g f' g' : Nat → Rat) : sm (n + m) (fun i => cat n f g i * cat n f' g' i) = sm n (fun i => f i * f' i) + sm m (fun i => g i * g' i) := by
  rw [sm_app]
  congr 1
  · exact sm_congr fun i hi => by rw [cat_lo hi, cat_lo hi]
  · exact sm_congr fun i _ => by rw [cat_hi, cat_hi]
def zero : Nat → Rat := fun _ => 0
def sum (p q : Mac) : Mac := ⟨p.n + q.n, p.k, cat p.n p.F q.F, fun s a => if a < p.n then cat p.n (p.T s a) zero else cat p.n zero (q.T s (a - p.n)), cat p.n p.L q.L⟩
theorem sum_step (p q : Mac) (v u : Nat → Rat) (s : Nat) : (p.sum q).step (cat p.n v u) s = cat p.n (p.step v s) (q.step u s) := by
  funext b
  show sm (p.n + q.n) _ = _
  rw [sm_app]
  have e1 : sm p.n (fun a => cat p.n v u a * (p.sum q).T s a b) = if b < p.n then p.step v s b else 0 := by
    split
    · rename_i h
      exact sm_congr fun a ha => by
        show cat p.n v u a * (if a < p.n then cat p.n (p.T s a) zero else cat p.n zero (q.T s (a - p.n))) b = _
        rw [cat_lo ha, if_pos ha, cat_lo h]
    · rename_i h
      exact sm_zero fun a ha => by
        show cat p.n v u a * (if a < p.n then cat p.n (p.T s a) zero else cat p.n zero (q.T s (a - p.n))) b = _
        rw [if_pos ha]
        unfold cat zero
        rw [if_neg h]; grind
  have e2 : sm q.n (fun a => cat p.n v u (p.n + a) * (p.sum q).T s (p.n + a) b) = if b < p.n then 0 else q.step u s (b - p.n) := by
    split
    · rename_i h
      exact sm_zero fun a ha => by
        show cat p.n v u (p.n + a) * (if p.n + a < p.n then cat p.n (p.T s (p.n + a)) zero else cat p.n zero (q.T s (p.n + a - p.n))) b = _
        rw [if_neg (by omega), cat_lo h]
        unfold zero; grind
    · rename_i h
      exact sm_congr fun a ha => by
        show cat p.n v u (p.n + a) * (if p.n + a < p.n then cat p.n (p.T s (p.n + a)) zero else cat p.n zero (q.T s (p.n + a - p.n))) b = _
        rw [if_neg (by omega), cat_hi, Nat.add_sub_cancel_left]
        unfold cat
        rw [if_neg h]
  rw [e1, e2]
  unfold cat
  split <;> grind
theorem sum_run (p q : Mac) : ∀ (w : List Nat) (v u : Nat → Rat), (p.sum q).run (cat p.n v u) w = cat p.n (p.run v w) (q.run u w)
  | [], _, _ => rfl
  | s :: w, v, u => by
    rw [run_cons, sum_step, sum_run p q w]; rfl
theorem sum_row (p q : Mac) (w : List Nat) : (p.sum q).row w = cat p.n (p.row w) (q.row w) := sum_run p q w p.F q.F
theorem sum_wt (p q : Mac) (w : List Nat) : (p.sum q).wt w = p.wt w + q.wt w := by
  show sm (p.n + q.n) (fun i => (p.sum q).row w i * cat p.n p.L q.L i) = _
  rw [sum_row, sm_cat]; rfl
/-! multiples -/
def scale (p : Mac) (c : Rat) : Mac := { p with F := fun i => p.F i * c }
theorem scale_wt (p : Mac) (c : Rat) (w : List Nat) : (p.scale c).wt w = p.wt w * c := by
  have e : (p.scale c).row w = fun i => c * p.row w i := by
    show p.run (fun i => p.F i * c) w = _
    rw [show (fun i => p.F i * c) = fun i => c * p.F i from funext fun i => by grind, run_mul]; rfl
  show sm p.n (fun i => (p.scale c).row w i * p.L i) = _
  rw [e]
  show sm p.n (fun i => c * p.row w i * p.L i) = sm p.n (fun i => p.row w i * p.L i) * c
  rw [← sm_mulr]
  exact sm_congr fun i _ => by grind
/-! turned -/
def turn (p : Mac) : Mac := ⟨p.n, p.k, p.L, fun s a b => p.T s b a, p.F⟩
theorem turn_step (p : Mac) (v : Nat → Rat) (s : Nat) : p.turn.step v s = p.back s v := by
  funext b
  exact sm_congr fun a _ => by show v a * p.T s b a = p.T s b a * v a; grind
theorem turn_run (p : Mac) : ∀ (w : List Nat) (v : Nat → Rat), p.turn.run v w = (w.reverse).foldr p.back v
  | [], _ => rfl
  | s :: w, v => by
    rw [run_cons, turn_step, turn_run p w, List.reverse_cons, List.foldr_append]; rfl
theorem turn_row (p : Mac) (w : List Nat) : p.turn.row w = p.col w.reverse := turn_run p w p.L
theorem turn_wt (p : Mac) (w : List Nat) : p.turn.wt w = p.wt w.reverse := by
  show sm p.n (fun i => p.turn.row w i * p.F i) = p.dotL (p.run p.F w.reverse)
  rw [turn_row, dot_run]
  exact sm_congr fun i _ => by grind
theorem turn_turn (p : Mac) : p.turn.turn = p := rfl
/-! chains -/
def hop (p : Mac) (s a : Nat) : Rat := sm p.n fun c => p.T s a c * p.L c
def chain (p q : Mac) : Mac := ⟨p.n + q.n, p.k, cat p.n p.F fun i => p.wt [] * q.F i, fun s a => if a < p.n then cat p.n (p.T s a) (fun i => p.hop s a * q.F i) else cat p.n zero (q.T s (a - p.n)), cat p.n zero q.L⟩
theorem chain_step (p q : Mac) (v u : Nat → Rat) (s : Nat) : (p.chain q).step (cat p.n v u) s = cat p.n (p.step v s) (fun j => p.dotL (p.step v s) * q.F j + q.step u s j) := by
  funext b
  show sm (p.n + q.n) _ = _
  rw [sm_app]
  have e1 : sm p.n (fun a => cat p.n v u a * (p.chain q).T s a b) = if b < p.n then p.step v s b else p.dotL (p.step v s) * q.F (b - p.n) := by
    split
    · rename_i h
      exact sm_congr fun a ha => by
        show cat p.n v u a * (if a < p.n then cat p.n (p.T s a) (fun i => p.hop s a * q.F i) else cat p.n zero (q.T s (a - p.n))) b = _
        rw [cat_lo ha, if_pos ha, cat_lo h]
    · rename_i h
      have z : p.dotL (p.step v s) = sm p.n fun a => v a * p.hop s a := by
        show sm p.n (fun b => p.step v s b * p.L b) = _
        rw [dot_step]; rfl
      rw [z, ← sm_mulr]
      exact sm_congr fun a ha => by
        show cat p.n v u a * (if a < p.n then cat p.n (p.T s a) (fun i => p.hop s a * q.F i) else cat p.n zero (q.T s (a - p.n))) b = _
        rw [cat_lo ha, if_pos ha]
        unfold cat
        rw [if_neg h]; grind
  have e2 : sm q.n (fun a => cat p.n v u (p.n + a) * (p.chain q).T s (p.n + a) b) = if b < p.n then 0 else q.step u s (b - p.n) := by
    split
    · rename_i h
      exact sm_zero fun a ha => by
        show cat p.n v u (p.n + a) * (if p.n + a < p.n then cat p.n (p.T s (p.n + a)) (fun i => p.hop s (p.n + a) * q.F i) else cat p.n zero (q.T s (p.n + a - p.n))) b = _
        rw [if_neg (by omega), cat_lo h]
        unfold zero; grind
    · rename_i h
      exact sm_congr fun a ha => by
        show cat p.n v u (p.n + a) * (if p.n + a < p.n then cat p.n (p.T s (p.n + a)) (fun i => p.hop s (p.n + a) * q.F i) else cat p.n zero (q.T s (p.n + a - p.n))) b = _
        rw [if_neg (by omega), cat_hi, Nat.add_sub_cancel_left]
        unfold cat
        rw [if_neg h]
  rw [e1, e2]
  unfold cat
  split <;> grind
/-- what stands in the second machine's rooms -/
def cuts (p q : Mac) (w : List Nat) : Nat → Rat := fun j => sm (w.length + 1) fun c => p.wt (w.take c) * q.row (w.drop c) j
theorem cuts_snoc (p q : Mac) (w : List Nat) (s : Nat) : p.cuts q (w ++ [s]) = fun j => p.wt (w ++ [s]) * q.F j + q.step (p.cuts q w) s j := by
  funext j
  unfold cuts
  rw [List.length_append, List.length_singleton]
  show sm (w.length + 1) _ + _ = _
  have e1 : sm (w.length + 1) (fun c => p.wt ((w ++ [s]).take c) * q.row ((w ++ [s]).drop c) j) = q.step (fun j => sm (w.length + 1) fun c => p.wt (w.take c) * q.row (w.drop c) j) s j := by
    show _ = sm q.n (fun a => sm (w.length + 1) (fun c => p.wt (w.take c) * q.row (w.drop c) a) * q.T s a j)
    have e : sm q.n (fun a => sm (w.length + 1) (fun c => p.wt (w.take c) * q.row (w.drop c) a) * q.T s a j) = sm q.n (fun a => sm (w.length + 1) (fun c => p.wt (w.take c) * q.row (w.drop c) a * q.T s a j)) := sm_congr fun a _ => (sm_mulr _ _ _).symm
    rw [e, sm_swap (fun a c => p.wt (w.take c) * q.row (w.drop c) a * q.T s a j)]
    refine sm_congr fun c hc => ?_
    have hl : c ≤ w.length := by omega
    rw [List.take_append_of_le_length hl, List.drop_append_of_le_length hl, row_snoc]
    show p.wt (w.take c) * sm q.n (fun a => q.row (w.drop c) a * q.T s a j) = _
    rw [← sm_mul]
    exact sm_congr fun a _ => by grind
  rw [e1]
  have e2 : (w ++ [s]).take (w.length + 1) = w ++ [s] := List.take_of_length_le (by simp)
  have e3 : (w ++ [s]).drop (w.length + 1) = [] := List.drop_of_length_le (by simp)
  show _ + p.wt ((w ++ [s]).take (w.length + 1)) * q.row ((w ++ [s]).drop (w.length + 1)) j = _
  rw [e2, e3]
  show _ + p.wt (w ++ [s]) * q.F j = _
  grind
theorem chain_row (p q : Mac) (w : List Nat) : (p.chain q).row w = cat p.n (p.row w) (p.cuts q w) := by
  have key : ∀ (n : Nat) (w : List Nat), w.length = n → (p.chain q).row w = cat p.n (p.row w) (p.cuts q w) := by
    intro n
    induction n with
    | zero =>
      intro w hw
      have : w = [] := List.eq_nil_of_length_eq_zero hw
      subst this
      show cat p.n p.F (fun i => p.wt [] * q.F i) = cat p.n p.F (p.cuts q [])
      congr 1
      funext j
      show p.wt [] * q.F j = 0 + p.wt [] * q.F j
      grind
    | succ n ih =>
      intro w hw
      obtain ⟨u, s, rfl⟩ : ∃ u s, w = u ++ [s] := by
        rcases List.eq_nil_or_concat w with h | ⟨u, s, h⟩
        · subst h; simp at hw
        · exact ⟨u, s, by rw [h, List.concat_eq_append]⟩
      have hu : u.length = n := by simpa using hw
      rw [row_snoc, ih u hu, chain_step, row_snoc, cuts_snoc]
      rw [show p.dotL (p.step (p.row u) s) = p.wt (u ++ [s]) by show _ = p.dotL (p.row (u ++ [s])); rw [row_snoc]]
  exact key w.length w rfl
theorem chain_wt (p q : Mac) (w : List Nat) : (p.chain q).wt w = sm (w.length + 1) fun c => p.wt (w.take c) * q.wt (w.drop c) := by
  show sm (p.n + q.n) (fun i => (p.chain q).row w i * cat p.n zero q.L i) = _
  rw [chain_row, sm_cat]
  have e1 : sm p.n (fun i => p.row w i * zero i) = 0 := sm_zero fun i _ => by unfold zero; grind
  rw [e1]
  have e2 : sm q.n (fun i => p.cuts q w i * q.L i) = sm q.n (fun i => sm (w.length + 1) (fun c => p.wt (w.take c) * q.row (w.drop c) i * q.L i)) := sm_congr fun i _ => (sm_mulr _ _ _).symm
  rw [e2, sm_swap (fun i c => p.wt (w.take c) * q.row (w.drop c) i * q.L i)]
  have e3 : sm (w.length + 1) (fun c => sm q.n (fun i => p.wt (w.take c) * q.row (w.drop c) i * q.L i)) = sm (w.length + 1) fun c => p.wt (w.take c) * q.wt (w.drop c) := sm_congr fun c _ => by
    show _ = p.wt (w.take c) * sm q.n (fun i => q.row (w.drop c) i * q.L i)
    rw [← sm_mul]
    exact sm_congr fun i _ => by grind
  rw [e3]; grind
end Mac
end WM
set_option Elab.async false
set_option linter.all false
set_option maxRecDepth 100000
set_option maxHeartbeats 4000000
namespace MP
open PySem PySem.Spec PyProof.Rows L2 WM
/-! making.py, and what the laws look at in a machine -/
noncomputable def b_see_signs : List MS := [.ife (.cmp .ne (.blt .len [(.sub (.loc 0) (.int 1))]) (.blt .len [(.sub (.loc 1) (.int 1))])) [.rais "Unlike"] []]
noncomputable def m_see_signs : Fn := mirror 2 fuel b_see_signs
-- 0:one 1:other
noncomputable def b_see_rooms : List MS := [.ife (.cmp .gt (.loc 0) (.glo "MOST_ROOMS" (.int 24))) [.rais "TooMany"] []]
noncomputable def m_see_rooms : Fn := mirror 1 fuel b_see_rooms
-- 0:rooms
noncomputable def wb_paired_1 : List MS := [.app 2 (.call "times" m_times [(.loc 3), (.loc 4)])]
noncomputable def w_paired_1 : MS := .forI 4 .val [(.loc 1)] wb_paired_1
noncomputable def wb_paired_2 : List MS := [w_paired_1]
noncomputable def w_paired_2 : MS := .forI 3 .val [(.loc 0)] wb_paired_2
noncomputable def b_paired : List MS := [.own 2 (.lst []), w_paired_2, .ret (.blt .tuple [(.loc 2)])]
noncomputable def m_paired : Fn := mirror 5 fuel b_paired
-- 0:one 1:other 2:found 3:left 4:right
noncomputable def wb_paired_step_1 : List MS := [.app 2 (.call "paired" m_paired [(.loc 3), (.loc 4)])]
noncomputable def w_paired_step_1 : MS := .forI 4 .val [(.loc 1)] wb_paired_step_1
noncomputable def wb_paired_step_2 : List MS := [w_paired_step_1]
noncomputable def w_paired_step_2 : MS := .forI 3 .val [(.loc 0)] wb_paired_step_2
noncomputable def b_paired_step : List MS := [.own 2 (.lst []), w_paired_step_2, .ret (.blt .tuple [(.loc 2)])]
noncomputable def m_paired_step : Fn := mirror 5 fuel b_paired_step
-- 0:one 1:other 2:rows 3:left 4:right
noncomputable def ce_product_1 : ME := (.call "paired_step" m_paired_step [(.sub (.sub (.loc 0) (.int 1)) (.loc 3)), (.sub (.sub (.loc 1) (.int 1)) (.loc 3))])
noncomputable def c_product_1 : ME := .comp ce_product_1 3 .range1 [(.blt .len [(.sub (.loc 0) (.int 1))])]
noncomputable def b_product : List MS := [.exp (.call "see_signs" m_see_signs [(.loc 0), (.loc 1)]), .exp (.call "see_rooms" m_see_rooms [(.bin .mul (.blt .len [(.sub (.loc 0) (.int 0))]) (.blt .len [(.sub (.loc 1) (.int 0))]))]), .set 2 (.blt .tuple [c_product_1]), .ret (.tup [(.call "paired" m_paired [(.sub (.loc 0) (.int 0)), (.sub (.loc 1) (.int 0))]), (.loc 2), (.call "paired" m_paired [(.sub (.loc 0) (.int 2)), (.sub (.loc 1) (.int 2))])])]
noncomputable def m_product : Fn := mirror 4 fuel b_product
-- 0:one 1:other 2:steps 3:k
noncomputable def wb_law_proper_row_1 : List MS := [.ife (.not (.call "_law_proper" m_law_proper [(.loc 2)])) [.ret (.bl false)] []]
noncomputable def w_law_proper_row_1 : MS := .forI 2 .val [(.loc 0)] wb_law_proper_row_1
noncomputable def b_law_proper_row : List MS := [.ife (.or (.not (.isi (.loc 0) .tuple)) (.cmp .ne (.blt .len [(.loc 0)]) (.loc 1))) [.ret (.bl false)] [], w_law_proper_row_1, .ret (.bl true)]
noncomputable def m_law_proper_row : Fn := mirror 3 fuel b_law_proper_row
-- 0:row 1:many 2:part
noncomputable def wb_law_is_machine_1 : List MS := [.ife (.not (.call "_law_proper_row" m_law_proper_row [(.loc 4), (.loc 1)])) [.ret (.bl false)] []]
noncomputable def w_law_is_machine_1 : MS := .forI 4 .val [(.loc 3)] wb_law_is_machine_1
noncomputable def wb_law_is_machine_2 : List MS := [.ife (.or (.not (.isi (.loc 3) .tuple)) (.cmp .ne (.blt .len [(.loc 3)]) (.loc 1))) [.ret (.bl false)] [], w_law_is_machine_1]
noncomputable def w_law_is_machine_2 : MS := .forI 3 .val [(.sub (.loc 0) (.int 1))] wb_law_is_machine_2
noncomputable def b_law_is_machine : List MS := [.ife (.or (.not (.isi (.loc 0) .tuple)) (.or (.cmp .ne (.blt .len [(.loc 0)]) (.int 3)) (.not (.isi (.sub (.loc 0) (.int 1)) .tuple)))) [.ret (.bl false)] [], .ife (.or (.not (.call "_law_proper_row" m_law_proper_row [(.sub (.loc 0) (.int 0)), (.loc 1)])) (.not (.call "_law_proper_row" m_law_proper_row [(.sub (.loc 0) (.int 2)), (.loc 1)]))) [.ret (.bl false)] [], .ife (.cmp .ne (.blt .len [(.sub (.loc 0) (.int 1))]) (.loc 2)) [.ret (.bl false)] [], w_law_is_machine_2, .ret (.bl true)]
noncomputable def m_law_is_machine : Fn := mirror 5 fuel b_law_is_machine
-- 0:machine 1:rooms 2:signs 3:step 4:row
noncomputable def ce_noughts_1 : ME := (.glo "NOUGHT" (.tup [(.int 0), (.int 1)]))
noncomputable def c_noughts_1 : ME := .comp ce_noughts_1 1 .range1 [(.loc 0)]
noncomputable def b_noughts : List MS := [.ret (.blt .tuple [c_noughts_1])]
noncomputable def m_noughts : Fn := mirror 2 fuel b_noughts
-- 0:many 1:k
noncomputable def ce_side_by_side_1 : ME := (.bin .add (.loc 3) (.call "noughts" m_noughts [(.blt .len [(.loc 1)])]))
noncomputable def c_side_by_side_1 : ME := .comp ce_side_by_side_1 3 .val [(.loc 0)]
noncomputable def ce_side_by_side_2 : ME := (.bin .add (.call "noughts" m_noughts [(.blt .len [(.loc 0)])]) (.loc 3))
noncomputable def c_side_by_side_2 : ME := .comp ce_side_by_side_2 3 .val [(.loc 1)]
noncomputable def b_side_by_side : List MS := [.set 2 c_side_by_side_1, .ret (.blt .tuple [(.bin .add (.loc 2) c_side_by_side_2)])]
noncomputable def m_side_by_side : Fn := mirror 4 fuel b_side_by_side
-- 0:one 1:other 2:rows 3:row
noncomputable def ce_added_1 : ME := (.call "side_by_side" m_side_by_side [(.sub (.sub (.loc 0) (.int 1)) (.loc 3)), (.sub (.sub (.loc 1) (.int 1)) (.loc 3))])
noncomputable def c_added_1 : ME := .comp ce_added_1 3 .range1 [(.blt .len [(.sub (.loc 0) (.int 1))])]
noncomputable def b_added : List MS := [.exp (.call "see_signs" m_see_signs [(.loc 0), (.loc 1)]), .exp (.call "see_rooms" m_see_rooms [(.bin .add (.blt .len [(.sub (.loc 0) (.int 0))]) (.blt .len [(.sub (.loc 1) (.int 0))]))]), .set 2 (.blt .tuple [c_added_1]), .ret (.tup [(.bin .add (.sub (.loc 0) (.int 0)) (.sub (.loc 1) (.int 0))), (.loc 2), (.bin .add (.sub (.loc 0) (.int 2)) (.sub (.loc 1) (.int 2)))])]
noncomputable def m_added : Fn := mirror 4 fuel b_added
-- 0:one 1:other 2:steps 3:k
noncomputable def ce_scaled_1 : ME := (.call "times" m_times [(.loc 2), (.loc 1)])
noncomputable def c_scaled_1 : ME := .comp ce_scaled_1 2 .val [(.sub (.loc 0) (.int 0))]
noncomputable def b_scaled : List MS := [.ret (.tup [(.blt .tuple [c_scaled_1]), (.sub (.loc 0) (.int 1)), (.sub (.loc 0) (.int 2))])]
noncomputable def m_scaled : Fn := mirror 3 fuel b_scaled
-- 0:machine 1:fraction 2:part
noncomputable def ce_turned_1 : ME := (.blt .tuple [(.call "column" m_column [(.loc 2), (.loc 3)])])
noncomputable def c_turned_1 : ME := .comp ce_turned_1 3 .range1 [(.blt .len [(.loc 2)])]
noncomputable def wb_turned_1 : List MS := [.app 1 (.blt .tuple [c_turned_1])]
noncomputable def w_turned_1 : MS := .forI 2 .val [(.sub (.loc 0) (.int 1))] wb_turned_1
noncomputable def b_turned : List MS := [.own 1 (.lst []), w_turned_1, .ret (.tup [(.sub (.loc 0) (.int 2)), (.blt .tuple [(.loc 1)]), (.sub (.loc 0) (.int 0))])]
noncomputable def m_turned : Fn := mirror 4 fuel b_turned
-- 0:machine 1:steps 2:step 3:b
noncomputable def ce_chained_step_1 : ME := (.call "times" m_times [(.loc 6), (.loc 8)])
noncomputable def c_chained_step_1 : ME := .comp ce_chained_step_1 8 .val [(.loc 3)]
noncomputable def wb_chained_step_1 : List MS := [.set 6 (.call "dot" m_dot [(.sub (.loc 0) (.loc 5)), (.loc 1)]), .app 4 (.bin .add (.sub (.loc 0) (.loc 5)) (.blt .tuple [c_chained_step_1]))]
noncomputable def w_chained_step_1 : MS := .forI 5 .range1 [(.blt .len [(.loc 0)])] wb_chained_step_1
noncomputable def wb_chained_step_2 : List MS := [.app 4 (.bin .add (.call "noughts" m_noughts [(.blt .len [(.loc 0)])]) (.loc 7))]
noncomputable def w_chained_step_2 : MS := .forI 7 .val [(.loc 2)] wb_chained_step_2
noncomputable def b_chained_step : List MS := [.own 4 (.lst []), w_chained_step_1, w_chained_step_2, .ret (.blt .tuple [(.loc 4)])]
noncomputable def m_chained_step : Fn := mirror 9 fuel b_chained_step
-- 0:one 1:one_last 2:other 3:other_first 4:rows 5:a 6:hop 7:row 8:part
noncomputable def ce_chained_1 : ME := (.call "times" m_times [(.loc 2), (.loc 6)])
noncomputable def c_chained_1 : ME := .comp ce_chained_1 6 .val [(.sub (.loc 1) (.int 0))]
noncomputable def wb_chained_1 : List MS := [.app 4 (.call "chained_step" m_chained_step [(.sub (.sub (.loc 0) (.int 1)) (.loc 5)), (.sub (.loc 0) (.int 2)), (.sub (.sub (.loc 1) (.int 1)) (.loc 5)), (.sub (.loc 1) (.int 0))])]
noncomputable def w_chained_1 : MS := .forI 5 .range1 [(.blt .len [(.sub (.loc 0) (.int 1))])] wb_chained_1
noncomputable def b_chained : List MS := [.exp (.call "see_signs" m_see_signs [(.loc 0), (.loc 1)]), .exp (.call "see_rooms" m_see_rooms [(.bin .add (.blt .len [(.sub (.loc 0) (.int 0))]) (.blt .len [(.sub (.loc 1) (.int 0))]))]), .set 2 (.call "dot" m_dot [(.sub (.loc 0) (.int 0)), (.sub (.loc 0) (.int 2))]), .set 3 (.bin .add (.sub (.loc 0) (.int 0)) (.blt .tuple [c_chained_1])), .own 4 (.lst []), w_chained_1, .ret (.tup [(.loc 3), (.blt .tuple [(.loc 4)]), (.bin .add (.call "noughts" m_noughts [(.blt .len [(.sub (.loc 0) (.int 0))])]) (.sub (.loc 1) (.int 2)))])]
noncomputable def m_chained : Fn := mirror 7 fuel b_chained
-- 0:one 1:other 2:none 3:first 4:steps 5:k 6:part
theorem see_signs_ok {p q : Mac} (h : p.k = q.k) : m_see_signs [macD p, macD q] = .ok (.non, false) := by
  unfold m_see_signs mirror b_see_signs
  simp [exSs, exS, evE, evEs, args1, mac_1, evBlt, h]
theorem see_signs_no {p q : Mac} (h : p.k ≠ q.k) : m_see_signs [macD p, macD q] = .exc "Unlike" := by
  have h' : ¬ ((p.k : Int) = q.k) := by omega
  unfold m_see_signs mirror b_see_signs
  simp [exSs, exS, evE, evEs, args1, mac_1, evBlt, h, h']
theorem see_rooms_ok {n : Nat} (h : n ≤ 24) : m_see_rooms [.int n] = .ok (.non, false) := by
  have h' : ¬ ((24 : Int) < n) := by omega
  unfold m_see_rooms mirror b_see_rooms
  simp [exSs, exS, evE, evEs, args1, evCmp, h']
theorem see_rooms_no {n : Nat} (h : 24 < n) : m_see_rooms [.int n] = .exc "TooMany" := by
  have h' : (24 : Int) < n := by omega
  unfold m_see_rooms mirror b_see_rooms
  simp [exSs, exS, evE, evEs, args1, evCmp, h']
theorem rT_len (n : Nat) (f : Nat → Rat) : evBlt .len [rT n f] = .ok (.int n, .sh) := by have := (rT_sq n f).len; rw [tabs_len] at this; exact this
theorem rL_len (n : Nat) (f : Nat → Rat) : evBlt .len [rL n f] = .ok (.int n, .sh) := by have := (rL_sq n f).len; rw [tabs_len] at this; exact this
theorem sT_len (n m : Nat) (T : Nat → Nat → Rat) : evBlt .len [sT n m T] = .ok (.int n, .sh) := by
  show Res.ok (D.int (((List.range n).map fun a => rT m (T a)).length : Nat), Kd.sh) = _
  rw [List.length_map, List.length_range]
theorem steps_len (m : Mac) : evBlt .len [.tup ((List.range m.k).map fun s => sT m.n m.n (m.T s))] = .ok (.int m.k, .sh) := by
  show Res.ok (D.int (((List.range m.k).map fun s => sT m.n m.n (m.T s)).length : Nat), Kd.sh) = _
  rw [List.length_map, List.length_range]
theorem sT_get {n m a : Nat} {T : Nat → Nat → Rat} (h : a < n) : evSub (sT n m T) (.int a) = .ok (rT m (T a), .sh) := Sq.sub (xs := (List.range n).map fun a => rT m (T a)) (.inl rfl) (by simp [h])
/-- the four, with sizes -/
theorem times_fit {p q : Rat} {D N E M : Nat} (h : Fit D N p) (k : Fit E M q) (h1 : D * E < 2 ^ 9000) (h2 : N < 2 ^ 180000) (h3 : M < 2 ^ 180000) : m_times [fr p, fr q] = .ok (fr (p * q), false) := by
  have a1 : D < 2 ^ 9000 := Nat.lt_of_le_of_lt (Nat.le_mul_of_pos_right _ k.1) h1
  have a2 : E < 2 ^ 9000 := Nat.lt_of_le_of_lt (Nat.le_mul_of_pos_left _ h.1) h1
  exact times_ok p q (Sz.fit h a1 (pow_up h2 (by decide))) (Sz.fit k a2 (pow_up h3 (by decide))) (Nat.lt_of_le_of_lt (Nat.mul_le_mul h.den_le k.den_le) h1)
/-! products -/
theorem pair_div {m a b : Nat} (hb : b < m) : (a * m + b) / m = a ∧ (a * m + b) % m = b := by
  have hm : 0 < m := by omega
  rw [Nat.mul_comm a m, Nat.mul_add_div hm, Nat.div_eq_of_lt hb, Nat.mul_add_mod, Nat.mod_eq_of_lt hb]
  exact ⟨by omega, rfl⟩
theorem paired_ok {n m D1 N1 D2 N2 : Nat} {f g : Nat → Rat} (hn : n ≤ 100) (hm : m ≤ 100) (hf : ∀ i, i < n → Fit D1 N1 (f i)) (hg : ∀ i, i < m → Fit D2 N2 (g i)) (h1 : D1 * D2 < 2 ^ 9000) (h2 : N1 < 2 ^ 180000) (h3 : N2 < 2 ^ 180000) :
    m_paired [rT n f, rT m g] = .ok (rT (n * m) fun i => f (i / m) * g (i % m), false) := by
  refine mir_ret ?_
  unfold b_paired
  obtain ⟨h, hh⟩ : ∃ h : Nat → Rat, (fun i => f (i / m) * g (i % m)) = h := ⟨_, rfl⟩
  obtain ⟨S', l1, s3, s4, l2⟩ := for_tab (f := exSs fuel wb_paired_2) (tg := fun S d => some (S.set 3 (.sh d))) (fun a S => ∃ s3 s4, S = [.sh (rT n f), .sh (rT m g), .ow (tabs (a * m) h), s3, s4]) (fun i => fr (f i)) (n := n) (S := [.sh (rT n f), .sh (rT m g), .ow [], .no, .no]) ⟨.no, .no, by rw [Nat.zero_mul]; rfl⟩ (by
    rintro a S ha ⟨s3, s4, rfl⟩
    obtain ⟨S'', i1, s4', i2⟩ := for_tab (f := exSs fuel wb_paired_1) (tg := fun S d => some (S.set 4 (.sh d))) (fun b S => ∃ s4, S = [.sh (rT n f), .sh (rT m g), .ow (tabs (a * m + b) h), .sh (fr (f a)), s4]) (fun i => fr (g i)) (n := m) (S := [.sh (rT n f), .sh (rT m g), .ow (tabs (a * m) h), .sh (fr (f a)), s4]) ⟨s4, rfl⟩ (by
      rintro b S hb ⟨s4, rfl⟩
      refine ⟨_, [.sh (rT n f), .sh (rT m g), .ow (tabs (a * m + (b + 1)) h), .sh (fr (f a)), .sh (fr (g b))], rfl, ?_, _, rfl⟩
      have e1 := times_fit (hf a ha) (hg b hb) h1 h2 h3
      have e2 : f a * g b = h (a * m + b) := by
        rw [← hh]
        show _ = f ((a * m + b) / m) * g ((a * m + b) % m)
        rw [(pair_div hb).1, (pair_div hb).2]
      have hlt : a * m + b < 16777216 := by
        have : a * m ≤ 100 * 100 := Nat.mul_le_mul (by omega) hm
        omega
      rw [← Nat.add_assoc, tabs_snoc, ← e2]
      simp [wb_paired_1, exSs, exS, evE, evEs, args1, hasBo, e1, tabs_len, hlt])
    subst i2
    refine ⟨_, [.sh (rT n f), .sh (rT m g), .ow (tabs ((a + 1) * m) h), .sh (fr (f a)), s4'], rfl, ?_, _, _, rfl⟩
    rw [wb_paired_2, ss_go (S1 := [.sh (rT n f), .sh (rT m g), .ow (tabs ((a + 1) * m) h), .sh (fr (f a)), s4']) (by
      rw [w_paired_1, exS]
      simp [evI, evEs, evE, args1, hasBo, rT, items]
      rw [Nat.add_mul, Nat.one_mul]
      exact i1)]
    rw [exSs])
  subst l2
  rw [ss_go (S1 := [.sh (rT n f), .sh (rT m g), .ow [], .no, .no]) (by simp [exS, evE, evEs, hasBo, args1]), ss_go (S1 := [.sh (rT n f), .sh (rT m g), .ow (tabs (n * m) h), s3, s4]) (by
    rw [w_paired_2, exS]
    simp [evI, evEs, evE, args1, hasBo, rT, items]
    exact l1)]
  simp [exSs, exS, evE, evEs, args1, evBlt, rT, hh]
theorem paired_step_ok {n m D1 N1 D2 N2 : Nat} {T U : Nat → Nat → Rat} (hn : n ≤ 100) (hm : m ≤ 100) (hf : ∀ i j, i < n → j < n → Fit D1 N1 (T i j)) (hg : ∀ i j, i < m → j < m → Fit D2 N2 (U i j)) (h1 : D1 * D2 < 2 ^ 9000) (h2 : N1 < 2 ^ 180000) (h3 : N2 < 2 ^ 180000) :
    m_paired_step [sT n n T, sT m m U] = .ok (sT (n * m) (n * m) fun i j => T (i / m) (j / m) * U (i % m) (j % m), false) := by
  refine mir_ret ?_
  unfold b_paired_step
  obtain ⟨h, hh⟩ : ∃ h : Nat → D, (fun i => rT (n * m) fun j => T (i / m) (j / m) * U (i % m) (j % m)) = h := ⟨_, rfl⟩
  obtain ⟨S', l1, s3, s4, l2⟩ := for_tab (f := exSs fuel wb_paired_step_2) (tg := fun S d => some (S.set 3 (.sh d))) (fun a S => ∃ s3 s4, S = [.sh (sT n n T), .sh (sT m m U), .ow ((List.range (a * m)).map h), s3, s4]) (fun i => rT n (T i)) (n := n) (S := [.sh (sT n n T), .sh (sT m m U), .ow [], .no, .no]) ⟨.no, .no, by rw [Nat.zero_mul]; rfl⟩ (by
    rintro a S ha ⟨s3, s4, rfl⟩
    obtain ⟨S'', i1, s4', i2⟩ := for_tab (f := exSs fuel wb_paired_step_1) (tg := fun S d => some (S.set 4 (.sh d))) (fun b S => ∃ s4, S = [.sh (sT n n T), .sh (sT m m U), .ow ((List.range (a * m + b)).map h), .sh (rT n (T a)), s4]) (fun i => rT m (U i)) (n := m) (S := [.sh (sT n n T), .sh (sT m m U), .ow ((List.range (a * m)).map h), .sh (rT n (T a)), s4]) ⟨s4, rfl⟩ (by
      rintro b S hb ⟨s4, rfl⟩
      refine ⟨_, [.sh (sT n n T), .sh (sT m m U), .ow ((List.range (a * m + (b + 1))).map h), .sh (rT n (T a)), .sh (rT m (U b))], rfl, ?_, _, rfl⟩
      have e1 := paired_ok hn hm (fun i hi => hf a i ha hi) (fun i hi => hg b i hb hi) h1 h2 h3
      have e2 : (rT (n * m) fun i => T a (i / m) * U b (i % m)) = h (a * m + b) := by
        rw [← hh]
        show _ = rT (n * m) fun j => T ((a * m + b) / m) (j / m) * U ((a * m + b) % m) (j % m)
        rw [(pair_div hb).1, (pair_div hb).2]
      rw [e2] at e1
      have hlt : a * m + b < 16777216 := by
        have : a * m ≤ 100 * 100 := Nat.mul_le_mul (by omega) hm
        omega
      rw [← Nat.add_assoc, List.range_succ, List.map_append]
      simp [wb_paired_step_1, exSs, exS, evE, evEs, args1, hasBo, e1, hlt])
    subst i2
    refine ⟨_, [.sh (sT n n T), .sh (sT m m U), .ow ((List.range ((a + 1) * m)).map h), .sh (rT n (T a)), s4'], rfl, ?_, _, _, rfl⟩
    rw [wb_paired_step_2, ss_go (S1 := [.sh (sT n n T), .sh (sT m m U), .ow ((List.range ((a + 1) * m)).map h), .sh (rT n (T a)), s4']) (by
      rw [w_paired_step_1, exS]
      simp [evI, evEs, evE, args1, hasBo, sT, items]
      rw [Nat.add_mul, Nat.one_mul]
      exact i1)]
    rw [exSs])
  subst l2
  rw [ss_go (S1 := [.sh (sT n n T), .sh (sT m m U), .ow [], .no, .no]) (by simp [exS, evE, evEs, hasBo, args1]), ss_go (S1 := [.sh (sT n n T), .sh (sT m m U), .ow ((List.range (n * m)).map h), s3, s4]) (by
    rw [w_paired_step_2, exS]
    simp [evI, evEs, evE, args1, hasBo, sT, items]
    exact l1)]
  simp [exSs, exS, evE, evEs, args1, evBlt, sT, ← hh]
/-- sizes of a machine's numbers -/
structure MFit (m : Mac) (D0 N0 E M Dl Nl : Nat) : Prop where
  F : ∀ i, i < m.n → Fit D0 N0 (m.F i)
  T : ∀ s a b, s < m.k → a < m.n → b < m.n → Fit E M (m.T s a b)
  L : ∀ i, i < m.n → Fit Dl Nl (m.L i)
theorem MFit.drawn (c : Int) (n k : Nat) : MFit (drawn c n k) 6 24 6 24 6 24 := ⟨fun i _ => drawn_F c n k i, fun s a b _ _ _ => drawn_T c n k s a b, fun i _ => drawn_L c n k i⟩
theorem div_lt {i n m : Nat} (h : i < n * m) : i / m < n ∧ i % m < m := by
  have hm : 0 < m := by
    rcases Nat.eq_zero_or_pos m with e | e
    · subst e; rw [Nat.mul_zero] at h; omega
    · exact e
  exact ⟨(Nat.div_lt_iff_lt_mul hm).mpr h, Nat.mod_lt _ hm⟩
theorem MFit.prod {p q : Mac} {D N E M A B D' N' E' M' A' B' : Nat} (hp : MFit p D N E M A B) (hq : MFit q D' N' E' M' A' B') (hk : p.k = q.k) : MFit (p.prod q) (D * D') (N * N') (E * E') (M * M') (A * A') (B * B') :=
  ⟨fun i hi => (hp.F _ (div_lt hi).1).mul (hq.F _ (div_lt hi).2), fun s a b hs ha hb => (hp.T s _ _ hs (div_lt ha).1 (div_lt hb).1).mul (hq.T s _ _ (by rw [← hk]; exact hs) (div_lt ha).2 (div_lt hb).2), fun i hi => (hp.L _ (div_lt hi).1).mul (hq.L _ (div_lt hi).2)⟩
theorem product_ok {p q : Mac} {D N E M A B D' N' E' M' A' B' : Nat} (hk : p.k = q.k) (hn : p.n * q.n ≤ 24) (hpn : p.n ≤ 100) (hqn : q.n ≤ 100) (hpk : p.k ≤ 100) (hp : MFit p D N E M A B) (hq : MFit q D' N' E' M' A' B')
    (h1 : D * D' < 2 ^ 9000) (h2 : E * E' < 2 ^ 9000) (h3 : A * A' < 2 ^ 9000) (h4 : N < 2 ^ 180000) (h5 : N' < 2 ^ 180000) (h6 : M < 2 ^ 180000) (h7 : M' < 2 ^ 180000) (h8 : B < 2 ^ 180000) (h9 : B' < 2 ^ 180000) :
    m_product [macD p, macD q] = .ok (macD (p.prod q), false) := by
  have e1 := see_signs_ok hk
  have e2 := see_rooms_ok hn
  have e3 := paired_ok hpn hqn hp.F hq.F h1 h4 h5
  have e4 := paired_ok hpn hqn hp.L hq.L h3 h8 h9
  have e5 : evE c_product_1 [.sh (macD p), .sh (macD q), .no, .no] = .ok (.lst ((List.range p.k).map fun s => sT (p.n * q.n) (p.n * q.n) ((p.prod q).T s)), .fr) := by
    rw [c_product_1, ev_comp (n := p.k) (rs := [(.int p.k, .sh)]) (fun j : Nat => MP.D.int j) (fun s => sT (p.n * q.n) (p.n * q.n) ((p.prod q).T s)) (by simp [evEs, evE, args1, mac_1, steps_len]) (by simp [hasBo]) (by simp only [args1, List.map]; exact items_rng p.k (by omega)) (by omega) (fun s hs => ⟨.sh, by decide, by
      have e := paired_step_ok hpn hqn (fun i j => hp.T s i j hs) (fun i j => hq.T s i j (by omega)) h2 h6 h7
      have hs' : s < q.k := by omega
      simp [ce_product_1, evE, evEs, args1, hasBo, mac_1, mac_s hs, mac_s hs', e]
      rfl⟩)]
  have m1 : evBin .mul (.int p.n) (.int q.n) = .ok (.int ((p.n * q.n : Nat) : Int), .sh) := by
    rw [Int.natCast_mul]; exact ev_mul64 (by omega)
  refine mir_ret ?_
  unfold b_product
  show exSs fuel _ [.sh (macD p), .sh (macD q), .no, .no] = _
  rw [ss_go (S1 := [.sh (macD p), .sh (macD q), .no, .no]) (by simp [exS, evE, evEs, args1, hasBo, e1]),
    ss_go (S1 := [.sh (macD p), .sh (macD q), .no, .no]) (by simp only [exS, evE, evEs, List.getElem?_cons_zero, List.getElem?_cons_succ, Res.bind, mac_0, args1, List.map, rT_len, m1, e2, hasBo, List.any, bindS_ok]; simp),
    ss_go (S1 := [.sh (macD p), .sh (macD q), .sh (.tup ((List.range p.k).map fun s => sT (p.n * q.n) (p.n * q.n) ((p.prod q).T s))), .no]) (by
      rw [exS, evE, evEs, e5]
      simp [evEs, args1, evBlt])]
  simp [exSs, exS, evE, evEs, args1, hasBo, mac_0, mac_2, e3, e4]
  rfl
/-! what the laws look at in a machine -/
theorem proper_row_ok {n : Nat} {f : Nat → Rat} {D N : Nat} (h : ∀ i, i < n → Fit D N (f i)) (hD : D < 2 ^ 9000) : m_law_proper_row [rT n f, .int n] = .ok (.bl true, false) := by
  refine mir_ret ?_
  unfold b_law_proper_row
  obtain ⟨S', l1, s2, l2⟩ := for_tab (f := exSs fuel wb_law_proper_row_1) (tg := fun S d => some (S.set 2 (.sh d))) (fun j S => ∃ s2, S = [.sh (rT n f), .sh (.int n), s2]) (fun i => fr (f i)) (n := n) (S := [.sh (rT n f), .sh (.int n), .no]) ⟨.no, rfl⟩ (by
    rintro j S hj ⟨s2, rfl⟩
    have e := proper_ok (f j) (Nat.lt_of_le_of_lt (h j hj).den_le hD)
    refine ⟨_, [.sh (rT n f), .sh (.int n), .sh (fr (f j))], rfl, ?_, _, rfl⟩
    simp [wb_law_proper_row_1, exSs, exS, evE, evEs, args1, hasBo, e])
  subst l2
  have e4 : evIs (rT n f) .tuple = .ok (.bl true, .sh) := rfl
  rw [ss_go (S1 := [.sh (rT n f), .sh (.int n), .no]) (by simp [exSs, exS, evE, evEs, args1, e4, rT_len, hasBo]), ss_go (S1 := [.sh (rT n f), .sh (.int n), s2]) (by
    rw [w_law_proper_row_1, exS]
    simp [evI, evEs, evE, args1, hasBo, rT, items]
    exact l1)]
  simp [exSs, exS, evE]
theorem is_machine_ok {m : Mac} {D0 N0 E M Dl Nl : Nat} (h : MFit m D0 N0 E M Dl Nl) (h1 : D0 < 2 ^ 9000) (h2 : E < 2 ^ 9000) (h3 : Dl < 2 ^ 9000) : m_law_is_machine [macD m, .int m.n, .int m.k] = .ok (.bl true, false) := by
  refine mir_ret ?_
  unfold b_law_is_machine
  have p1 := proper_row_ok h.F h1
  have p2 := proper_row_ok h.L h3
  obtain ⟨S', l1, s3, s4, l2⟩ := for_tab (f := exSs fuel wb_law_is_machine_2) (tg := fun S d => some (S.set 3 (.sh d))) (fun j S => ∃ s3 s4, S = [.sh (macD m), .sh (.int m.n), .sh (.int m.k), s3, s4]) (fun s => sT m.n m.n (m.T s)) (n := m.k) (S := [.sh (macD m), .sh (.int m.n), .sh (.int m.k), .no, .no]) ⟨.no, .no, rfl⟩ (by
    rintro s S hs ⟨s3, s4, rfl⟩
    obtain ⟨S'', i1, s4', i2⟩ := for_tab (f := exSs fuel wb_law_is_machine_1) (tg := fun S d => some (S.set 4 (.sh d))) (fun b S => ∃ s4, S = [.sh (macD m), .sh (.int m.n), .sh (.int m.k), .sh (sT m.n m.n (m.T s)), s4]) (fun a => rT m.n (m.T s a)) (n := m.n) (S := [.sh (macD m), .sh (.int m.n), .sh (.int m.k), .sh (sT m.n m.n (m.T s)), s4]) ⟨s4, rfl⟩ (by
      rintro a S ha ⟨s4, rfl⟩
      have e := proper_row_ok (fun i hi => h.T s a i hs ha hi) h2
      refine ⟨_, [.sh (macD m), .sh (.int m.n), .sh (.int m.k), .sh (sT m.n m.n (m.T s)), .sh (rT m.n (m.T s a))], rfl, ?_, _, rfl⟩
      simp [wb_law_is_machine_1, exSs, exS, evE, evEs, args1, hasBo, e])
    subst i2
    refine ⟨_, [.sh (macD m), .sh (.int m.n), .sh (.int m.k), .sh (sT m.n m.n (m.T s)), s4'], rfl, ?_, _, _, rfl⟩
    have e4 : evIs (sT m.n m.n (m.T s)) .tuple = .ok (.bl true, .sh) := rfl
    rw [wb_law_is_machine_2, ss_go (S1 := [.sh (macD m), .sh (.int m.n), .sh (.int m.k), .sh (sT m.n m.n (m.T s)), s4]) (by simp [exSs, exS, evE, evEs, args1, e4, sT_len, hasBo]), ss_go (S1 := [.sh (macD m), .sh (.int m.n), .sh (.int m.k), .sh (sT m.n m.n (m.T s)), s4']) (by
      rw [w_law_is_machine_1, exS]
      simp [evI, evEs, evE, args1, hasBo, sT, items]
      exact i1)]
    rw [exSs])
  subst l2
  have e4 : evIs (macD m) .tuple = .ok (.bl true, .sh) := rfl
  have e5 : evBlt .len [macD m] = .ok (.int 3, .sh) := rfl
  rw [ss_go (S1 := [.sh (macD m), .sh (.int m.n), .sh (.int m.k), .no, .no]) (by simp [exSs, exS, evE, evEs, args1, e4, e5, mac_1, hasBo, evIsi]),
    ss_go (S1 := [.sh (macD m), .sh (.int m.n), .sh (.int m.k), .no, .no]) (by simp [exSs, exS, evE, evEs, args1, mac_0, mac_2, p1, p2, hasBo]),
    ss_go (S1 := [.sh (macD m), .sh (.int m.n), .sh (.int m.k), .no, .no]) (by simp [exSs, exS, evE, evEs, args1, mac_1, steps_len]),
    ss_go (S1 := [.sh (macD m), .sh (.int m.n), .sh (.int m.k), s3, s4]) (by
      rw [w_law_is_machine_2, exS]
      simp [evI, evEs, evE, args1, hasBo, mac_1, items]
      exact l1)]
  simp [exSs, exS, evE]
end MP
set_option Elab.async false
set_option linter.all false
set_option maxRecDepth 100000
set_option maxHeartbeats 4000000
namespace MP
open PySem PySem.Spec PyProof.Rows L2 WM
/-! making.py: sums, multiples, turned, chains -/
theorem mir_exc {s n : Nat} {b : List MS} {ds : List D} {c : Str} {S1 : List SV} (h : exSs n b (ds.map SV.sh ++ List.replicate (s - ds.length) SV.no) = .exc c S1) : mirror s n b ds = .exc c := by
  unfold mirror; rw [hide_eq, h]
theorem mir_nx {s n : Nat} {b : List MS} {ds : List D} {S1 : List SV} (h : exSs n b (ds.map SV.sh ++ List.replicate (s - ds.length) SV.no) = .nx S1) : mirror s n b ds = .ok (.non, false) := by
  unfold mirror; rw [hide_eq, h]
theorem blt_tl (xs : List D) : evBlt .tuple [.lst xs] = .ok (.tup xs, .sh) := rfl
theorem blt_tt (xs : List D) : evBlt .tuple [.tup xs] = .ok (.tup xs, .sh) := rfl
theorem blt_lt (xs : List D) : evBlt .list [.tup xs] = .ok (.lst xs, .fr) := rfl
theorem blt_ll (xs : List D) : evBlt .list [.lst xs] = .ok (.lst xs, .fr) := rfl
theorem map_cat {α : Type} (n m : Nat) (h : Nat → α) : (List.range (n + m)).map h = (List.range n).map h ++ (List.range m).map fun i => h (n + i) := by
  rw [List.range_add, List.map_append, List.map_map]; rfl
theorem tabs_cat (n m : Nat) (f g : Nat → Rat) : tabs (n + m) (Mac.cat n f g) = tabs n f ++ tabs m g := by
  unfold tabs
  rw [map_cat]
  congr 1
  · exact List.map_congr_left fun i hi => by rw [Mac.cat_lo (List.mem_range.mp hi)]
  · exact List.map_congr_left fun i _ => by rw [Mac.cat_hi]
theorem ev_addR {n m : Nat} (f g : Nat → Rat) (h : n + m ≤ 16777216) : evBin .add (rT n f) (rT m g) = .ok (rT (n + m) (Mac.cat n f g), .sh) := by
  have h' : (tabs n f).length + (tabs m g).length ≤ 16777216 := by rw [tabs_len, tabs_len]; exact h
  simp only [rT, evBin, h', if_true, tabs_cat]
theorem noughts_ok {n : Nat} (hn : n ≤ 16777216) : m_noughts [.int n] = .ok (rT n Mac.zero, false) := by
  have e : evE c_noughts_1 [.sh (.int n), .no] = .ok (rL n Mac.zero, .fr) := by
    rw [c_noughts_1, ev_comp (n := n) (rs := [(.int n, .sh)]) (fun j : Nat => MP.D.int j) (fun _ => fr 0) (by simp [evEs, evE]) (by simp [hasBo]) (by simp only [args1, List.map]; exact items_rng n (by omega)) hn (fun s hs => ⟨.sh, by decide, by simp [ce_noughts_1, evE, fr_zero]⟩)]
    rfl
  refine mir_ret ?_
  unfold b_noughts
  show exSs fuel _ [.sh (.int n), .no] = _
  simp [exSs, exS, evE, evEs, e, args1, ev_tupleL]
def sideT (n : Nat) (T U : Nat → Nat → Rat) : Nat → Nat → Rat := fun a => if a < n then Mac.cat n (T a) Mac.zero else Mac.cat n Mac.zero (U (a - n))
theorem side_rows (n m : Nat) (T U : Nat → Nat → Rat) : ((List.range n).map fun a => rT (n + m) (Mac.cat n (T a) Mac.zero)) ++ ((List.range m).map fun a => rT (n + m) (Mac.cat n Mac.zero (U a))) = (List.range (n + m)).map fun a => rT (n + m) (sideT n T U a) := by
  rw [map_cat]
  congr 1
  · exact List.map_congr_left fun i hi => by unfold sideT; rw [if_pos (List.mem_range.mp hi)]
  · exact List.map_congr_left fun i _ => by unfold sideT; rw [if_neg (by omega), Nat.add_sub_cancel_left]
theorem side_ok {n m : Nat} (T U : Nat → Nat → Rat) (hn : n ≤ 1000) (hm : m ≤ 1000) : m_side_by_side [sT n n T, sT m m U] = .ok (sT (n + m) (n + m) (sideT n T U), false) := by
  have nn := noughts_ok (n := n) (by omega)
  have nm := noughts_ok (n := m) (by omega)
  have e1 : evE c_side_by_side_1 [.sh (sT n n T), .sh (sT m m U), .no, .no] = .ok (.lst ((List.range n).map fun a => rT (n + m) (Mac.cat n (T a) Mac.zero)), .fr) := by
    rw [c_side_by_side_1, ev_comp (n := n) (rs := [(sT n n T, .sh)]) (fun a => rT n (T a)) (fun a => rT (n + m) (Mac.cat n (T a) Mac.zero)) (by simp [evEs, evE]) (by simp [hasBo]) (by simp [args1, sT, items]) (by omega) (fun a ha => ⟨.sh, by decide, by
      simp [ce_side_by_side_1, evE, evEs, args1, sT_len, nm, hasBo, ev_addR (n := n) (m := m) (T a) Mac.zero (by omega)]⟩)]
  have e2 : evE c_side_by_side_2 [.sh (sT n n T), .sh (sT m m U), .sh (.lst ((List.range n).map fun a => rT (n + m) (Mac.cat n (T a) Mac.zero))), .no] = .ok (.lst ((List.range m).map fun a => rT (n + m) (Mac.cat n Mac.zero (U a))), .fr) := by
    rw [c_side_by_side_2, ev_comp (n := m) (rs := [(sT m m U, .sh)]) (fun a => rT m (U a)) (fun a => rT (n + m) (Mac.cat n Mac.zero (U a))) (by simp [evEs, evE]) (by simp [hasBo]) (by simp [args1, sT, items]) (by omega) (fun a ha => ⟨.sh, by decide, by
      simp [ce_side_by_side_2, evE, evEs, args1, sT_len, nn, hasBo, ev_addR (n := n) (m := m) Mac.zero (U a) (by omega)]⟩)]
  have hl : n + m ≤ 16777216 := by omega
  refine mir_ret ?_
  unfold b_side_by_side
  show exSs fuel _ [.sh (sT n n T), .sh (sT m m U), .no, .no] = _
  rw [ss_go (S1 := [.sh (sT n n T), .sh (sT m m U), .sh (.lst ((List.range n).map fun a => rT (n + m) (Mac.cat n (T a) Mac.zero))), .no]) (by simp [exS, e1])]
  simp [exSs, exS, evE, evEs, e2, evBin, hl, args1, evBlt, side_rows]
  rfl
theorem added_ok {p q : Mac} (hk : p.k = q.k) (hn : p.n + q.n ≤ 24) (hpk : p.k ≤ 100) : m_added [macD p, macD q] = .ok (macD (p.sum q), false) := by
  have e1 := see_signs_ok hk
  have e2 := see_rooms_ok hn
  rw [Int.natCast_add] at e2
  have e5 : evE c_added_1 [.sh (macD p), .sh (macD q), .no, .no] = .ok (.lst ((List.range p.k).map fun s => sT (p.n + q.n) (p.n + q.n) ((p.sum q).T s)), .fr) := by
    rw [c_added_1, ev_comp (n := p.k) (rs := [(.int p.k, .sh)]) (fun j : Nat => MP.D.int j) (fun s => sT (p.n + q.n) (p.n + q.n) ((p.sum q).T s)) (by simp [evEs, evE, args1, mac_1, steps_len]) (by simp [hasBo]) (by simp only [args1, List.map]; exact items_rng p.k (by omega)) (by omega) (fun s hs => ⟨.sh, by decide, by
      have e := side_ok (n := p.n) (m := q.n) (p.T s) (q.T s) (by omega) (by omega)
      have hs' : s < q.k := by omega
      simp [ce_added_1, evE, evEs, args1, hasBo, mac_1, mac_s hs, mac_s hs', e]
      rfl⟩)]
  refine mir_ret ?_
  unfold b_added
  show exSs fuel _ [.sh (macD p), .sh (macD q), .no, .no] = _
  rw [ss_go (S1 := [.sh (macD p), .sh (macD q), .no, .no]) (by simp [exS, evE, evEs, args1, hasBo, e1]),
    ss_go (S1 := [.sh (macD p), .sh (macD q), .no, .no]) (by simp [exS, evE, evEs, mac_0, args1, rT_len, e2, hasBo]),
    ss_go (S1 := [.sh (macD p), .sh (macD q), .sh (.tup ((List.range p.k).map fun s => sT (p.n + q.n) (p.n + q.n) ((p.sum q).T s))), .no]) (by
      rw [exS, evE, evEs, e5]
      simp [evEs, args1, evBlt])]
  simp [exSs, exS, evE, evEs, args1, hasBo, mac_0, mac_2, ev_addR (n := p.n) (m := q.n) p.F q.F (by omega), ev_addR (n := p.n) (m := q.n) p.L q.L (by omega)]
  rfl
theorem MFit.sum {p q : Mac} {D N E M A B : Nat} (hD : 0 < D) (hE : 0 < E) (hA : 0 < A) (hp : MFit p D N E M A B) (hq : MFit q D N E M A B) (hk : p.k = q.k) : MFit (p.sum q) D N E M A B := by
  have c : ∀ {D N : Nat} {f g : Nat → Rat} {i : Nat}, 0 < D → (i < p.n → Fit D N (f i)) → (∀ j, i = p.n + j → Fit D N (g j)) → Fit D N (Mac.cat p.n f g i) := by
    intro D N f g i h0 h1 h2
    by_cases h : i < p.n
    · rw [Mac.cat_lo h]; exact h1 h
    · obtain ⟨j, rfl⟩ : ∃ j, i = p.n + j := ⟨i - p.n, by omega⟩
      rw [Mac.cat_hi]; exact h2 j rfl
  refine ⟨fun i hi => c hD (fun h => hp.F i h) (fun j e => hq.F j (by have : i < p.n + q.n := hi; omega)), fun s a b hs ha hb => ?_, fun i hi => c hA (fun h => hp.L i h) (fun j e => hq.L j (by have : i < p.n + q.n := hi; omega))⟩
  have ha' : a < p.n + q.n := ha
  have hb' : b < p.n + q.n := hb
  have hs' : s < p.k := hs
  show Fit E M ((if a < p.n then Mac.cat p.n (p.T s a) Mac.zero else Mac.cat p.n Mac.zero (q.T s (a - p.n))) b)
  split
  · rename_i h
    exact c hE (fun h2 => hp.T s a b hs' h h2) (fun j e => Fit.zero hE)
  · rename_i h
    exact c hE (fun h2 => Fit.zero hE) (fun j e => hq.T s _ j (by omega) (by omega) (by omega))
theorem scaled_ok {m : Mac} {c : Rat} {D N E M A B Dc Nc : Nat} (hn : m.n ≤ 1000) (h : MFit m D N E M A B) (hc : Fit Dc Nc c) (h1 : D * Dc < 2 ^ 9000) (h2 : N < 2 ^ 180000) (h3 : Nc < 2 ^ 180000) : m_scaled [macD m, fr c] = .ok (macD (m.scale c), false) := by
  have e : evE c_scaled_1 [.sh (macD m), .sh (fr c), .no] = .ok (rL m.n (m.scale c).F, .fr) := by
    rw [c_scaled_1, ev_comp (n := m.n) (rs := [(rT m.n m.F, .sh)]) (fun i => fr (m.F i)) (fun i => fr ((m.scale c).F i)) (by simp [evEs, evE, mac_0]) (by simp [hasBo]) (by simp [args1, rT, tabs, items]) (by omega) (fun i hi => ⟨.sh, by decide, by
      have e := times_fit (h.F i hi) hc h1 h2 h3
      simp [ce_scaled_1, evE, evEs, args1, hasBo, e]
      rfl⟩)]
    rfl
  refine mir_ret ?_
  unfold b_scaled
  show exSs fuel _ [.sh (macD m), .sh (fr c), .no] = _
  simp [exSs, exS, evE, evEs, args1, hasBo, e, ev_tupleL, mac_1, mac_2]
  rfl
theorem MFit.scale {m : Mac} {c : Rat} {D N E M A B Dc Nc : Nat} (h : MFit m D N E M A B) (hc : Fit Dc Nc c) : MFit (m.scale c) (D * Dc) (N * Nc) E M A B :=
  ⟨fun i hi => (h.F i hi).mul hc, h.T, h.L⟩
theorem turned_ok {m : Mac} (hn : m.n ≤ 1000) (hk : m.k ≤ 1000) : m_turned [macD m] = .ok (macD m.turn, false) := by
  obtain ⟨S', l1, s2, s3, l2⟩ := for_tab (f := exSs fuel wb_turned_1) (tg := fun S d => some (S.set 2 (.sh d))) (fun j S => ∃ s2 s3, S = [.sh (macD m), .ow ((List.range j).map fun s => sT m.n m.n (m.turn.T s)), s2, s3]) (fun s => sT m.n m.n (m.T s)) (n := m.k) (S := [.sh (macD m), .ow [], .no, .no]) ⟨.no, .no, rfl⟩ (by
    rintro j S hj ⟨s2, s3, rfl⟩
    refine ⟨_, [.sh (macD m), .ow ((List.range (j + 1)).map fun s => sT m.n m.n (m.turn.T s)), .sh (sT m.n m.n (m.T j)), s3], rfl, ?_, _, _, rfl⟩
    have e : evE c_turned_1 [.sh (macD m), .ow ((List.range j).map fun s => sT m.n m.n (m.turn.T s)), .sh (sT m.n m.n (m.T j)), s3] = .ok (.lst ((List.range m.n).map fun b => rT m.n (m.turn.T j b)), .fr) := by
      rw [c_turned_1, ev_comp (n := m.n) (rs := [(.int m.n, .sh)]) (fun j : Nat => MP.D.int j) (fun b => rT m.n (m.turn.T j b)) (by simp [evEs, evE, args1, sT_len]) (by simp [hasBo]) (by simp only [args1, List.map]; exact items_rng m.n (by omega)) (by omega) (fun b hb => ⟨.sh, by decide, by
        have e := column_ok (n := m.n) (m := m.n) (T := m.T j) hb (by omega)
        simp [ce_turned_1, evE, evEs, args1, hasBo, e, ev_tupleL]
        rfl⟩)]
    have hlt : j < 16777216 := by omega
    simp [wb_turned_1, exSs, exS, evE, evEs, args1, hasBo, e, evBlt, hlt, List.range_succ]
    rfl)
  subst l2
  refine mir_ret ?_
  unfold b_turned
  show exSs fuel _ [.sh (macD m), .no, .no, .no] = _
  rw [ss_go (S1 := [.sh (macD m), .ow [], .no, .no]) (by simp [exS, evE, evEs, hasBo, args1]), ss_go (S1 := [.sh (macD m), .ow ((List.range m.k).map fun s => sT m.n m.n (m.turn.T s)), s2, s3]) (by
    rw [w_turned_1, exS]
    simp [evI, evEs, evE, args1, hasBo, mac_1, items]
    exact l1)]
  simp [exSs, exS, evE, evEs, args1, hasBo, mac_0, mac_2, evBlt]
  rfl
theorem MFit.turn {m : Mac} {D N E M A B : Nat} (h : MFit m D N E M A B) : MFit m.turn A B E M D N := ⟨h.L, fun s a b hs ha hb => h.T s b a hs hb ha, h.F⟩
/-! chains -/
theorem wt_nil (m : Mac) : m.wt [] = sm m.n fun i => m.F i * m.L i := rfl
def hopT (p : Mac) (s : Nat) (G : Nat → Rat) : Nat → Nat → Rat := fun a => Mac.cat p.n (p.T s a) fun i => p.hop s a * G i
theorem times_row {n : Nat} {c : Rat} {g : Nat → Rat} {S : List SV} {D1 N1 D2 N2 : Nat} (i : Nat) (e : ME) (k : Nat) (hk : k < S.length) (hik : i ≠ k) (hi : i < S.length) (hS : S[k]? = some (.sh (fr c))) (hn : n ≤ 16777216) (he : evE e S = .ok (rT n g, .sh))
    (hc : Fit D1 N1 c) (hg : ∀ j, j < n → Fit D2 N2 (g j)) (h1 : D1 * D2 < 2 ^ 9000) (h2 : N1 < 2 ^ 180000) (h3 : N2 < 2 ^ 180000) :
    evE (.comp (.call "times" m_times [.loc k, .loc i]) i .val [e]) S = .ok (rL n fun j => c * g j, .fr) := by
  rw [ev_comp (n := n) (rs := [(rT n g, .sh)]) (fun j => fr (g j)) (fun j => fr (c * g j)) (by simp [evEs, he]) (by simp [hasBo]) (by simp [args1, rT, tabs, items]) hn (fun j hj => ⟨.sh, by decide, by
    have e1 := times_fit hc (hg j hj) h1 h2 h3
    have e2 : (S.set i (.sh (fr (g j))))[k]? = some (.sh (fr c)) := by rw [List.getElem?_set_ne hik]; exact hS
    have e3 : (S.set i (.sh (fr (g j))))[i]? = some (.sh (fr (g j))) := by rw [List.getElem?_set_self hi]
    simp only [evE, evEs, e2, e3, Res.bind, args1, List.map, e1, hasBo, List.any]
    simp⟩)]
  rfl
/-- sizes at which a chain is built -/
structure ChainFit (p q : Mac) (D N E M A B D' N' : Nat) : Prop where
  c1 : Cap p.n D N A B
  c2 : Cap p.n E M A B
  d1 : (D * A) * D' < 2 ^ 9000
  d2 : (E * A) * D' < 2 ^ 9000
  n1 : p.n * (N * B) < 2 ^ 180000
  n2 : p.n * (M * B) < 2 ^ 180000
  n3 : N' < 2 ^ 180000
theorem hop_fit {p : Mac} {D N E M A B : Nat} (hE : 0 < E) (hA : 0 < A) (h : MFit p D N E M A B) {s a : Nat} (hs : s < p.k) (ha : a < p.n) : Fit (E * A) (p.n * (M * B)) (p.hop s a) := sm_fit (Nat.mul_pos hE hA) fun c hc => (h.T s a c hs ha hc).mul (h.L c hc)
theorem wt0_fit {p : Mac} {D N E M A B : Nat} (hD : 0 < D) (hA : 0 < A) (h : MFit p D N E M A B) : Fit (D * A) (p.n * (N * B)) (p.wt []) := sm_fit (Nat.mul_pos hD hA) fun c hc => (h.F c hc).mul (h.L c hc)
theorem chained_step_ok {p q : Mac} {s : Nat} {D N E M A B D' N' E' M' A' B' : Nat} (hE : 0 < E) (hA : 0 < A) (hs : s < p.k) (hs' : s < q.k) (hpn : p.n ≤ 100) (hqn : q.n ≤ 100) (hp : MFit p D N E M A B) (hq : MFit q D' N' E' M' A' B') (c : ChainFit p q D N E M A B D' N') :
    m_chained_step [sT p.n p.n (p.T s), rT p.n p.L, sT q.n q.n (q.T s), rT q.n q.F] = .ok (sT (p.n + q.n) (p.n + q.n) ((p.chain q).T s), false) := by
  obtain ⟨h, hh⟩ : ∃ h : Nat → MP.D, (fun a => rT (p.n + q.n) ((p.chain q).T s a)) = h := ⟨_, rfl⟩
  have h1 : ∀ a, a < p.n → h a = rT (p.n + q.n) (Mac.cat p.n (p.T s a) fun i => p.hop s a * q.F i) := fun a ha => by
    rw [← hh]
    show rT _ (if a < p.n then _ else _) = _
    rw [if_pos ha]
  have h2 : ∀ a, h (p.n + a) = rT (p.n + q.n) (Mac.cat p.n Mac.zero (q.T s a)) := fun a => by
    rw [← hh]
    show rT _ (if p.n + a < p.n then _ else _) = _
    rw [if_neg (by omega), Nat.add_sub_cancel_left]
  obtain ⟨S', l1, s5, s6, l2⟩ := for_rng (f := exSs fuel wb_chained_step_1) (tg := fun S d => some (S.set 5 (.sh d))) (fun j S => ∃ s5 s6, S = [.sh (sT p.n p.n (p.T s)), .sh (rT p.n p.L), .sh (sT q.n q.n (q.T s)), .sh (rT q.n q.F), .ow ((List.range j).map h), s5, s6, .no, .no]) (n := p.n) (S := [.sh (sT p.n p.n (p.T s)), .sh (rT p.n p.L), .sh (sT q.n q.n (q.T s)), .sh (rT q.n q.F), .ow [], .no, .no, .no, .no]) ⟨.no, .no, rfl⟩ (by
    rintro a S ha ⟨s5, s6, rfl⟩
    refine ⟨_, [.sh (sT p.n p.n (p.T s)), .sh (rT p.n p.L), .sh (sT q.n q.n (q.T s)), .sh (rT q.n q.F), .ow ((List.range (a + 1)).map h), .sh (.int a), .sh (fr (p.hop s a)), .no, .no], rfl, ?_, _, _, rfl⟩
    have e1 : m_dot [rT p.n (p.T s a), rT p.n p.L] = .ok (fr (p.hop s a), false) := dot_ok (xs := []) (rT_sq _ _) (rT_sq _ _) (fun i hi => tabs_get hi) c.c2 (by omega) (fun i hi => hp.T s a i hs ha hi) hp.L
    have e2 := times_row (n := q.n) (c := p.hop s a) (g := q.F) (S := [.sh (sT p.n p.n (p.T s)), .sh (rT p.n p.L), .sh (sT q.n q.n (q.T s)), .sh (rT q.n q.F), .ow ((List.range a).map h), .sh (.int a), .sh (fr (p.hop s a)), .no, .no]) 8 (.loc 3) 6 (by simp) (by decide) (by simp) (by simp) (by omega) (by simp [evE]) (hop_fit hE hA hp hs ha) hq.F c.d2 c.n2 c.n3
    have e2 : evE c_chained_step_1 [.sh (sT p.n p.n (p.T s)), .sh (rT p.n p.L), .sh (sT q.n q.n (q.T s)), .sh (rT q.n q.F), .ow ((List.range a).map h), .sh (.int a), .sh (fr (p.hop s a)), .no, .no] = _ := e2
    have hlt : a < 16777216 := by omega
    rw [List.range_succ, List.map_append, List.map_cons, List.map_nil, h1 a ha]
    simp [wb_chained_step_1, exSs, exS, evE, evEs, args1, hasBo, sT_get ha, e1, e2, ev_tupleL, ev_addR (n := p.n) (m := q.n) _ _ (show p.n + q.n ≤ 16777216 by omega), hlt])
  subst l2
  have nn := noughts_ok (n := p.n) (by omega)
  obtain ⟨S'', i1, s7, i2⟩ := for_tab (f := exSs fuel wb_chained_step_2) (tg := fun S d => some (S.set 7 (.sh d))) (fun j S => ∃ s7, S = [.sh (sT p.n p.n (p.T s)), .sh (rT p.n p.L), .sh (sT q.n q.n (q.T s)), .sh (rT q.n q.F), .ow ((List.range (p.n + j)).map h), s5, s6, s7, .no]) (fun a => rT q.n (q.T s a)) (n := q.n) (S := [.sh (sT p.n p.n (p.T s)), .sh (rT p.n p.L), .sh (sT q.n q.n (q.T s)), .sh (rT q.n q.F), .ow ((List.range p.n).map h), s5, s6, .no, .no]) ⟨.no, rfl⟩ (by
    rintro a S ha ⟨s7, rfl⟩
    refine ⟨_, [.sh (sT p.n p.n (p.T s)), .sh (rT p.n p.L), .sh (sT q.n q.n (q.T s)), .sh (rT q.n q.F), .ow ((List.range (p.n + (a + 1))).map h), s5, s6, .sh (rT q.n (q.T s a)), .no], rfl, ?_, _, rfl⟩
    have hlt : p.n + a < 16777216 := by omega
    rw [← Nat.add_assoc, List.range_succ, List.map_append, List.map_cons, List.map_nil, h2 a]
    simp [wb_chained_step_2, exSs, exS, evE, evEs, args1, hasBo, sT_len, nn, ev_addR (n := p.n) (m := q.n) _ _ (show p.n + q.n ≤ 16777216 by omega), hlt])
  subst i2
  refine mir_ret ?_
  unfold b_chained_step
  show exSs fuel _ [.sh (sT p.n p.n (p.T s)), .sh (rT p.n p.L), .sh (sT q.n q.n (q.T s)), .sh (rT q.n q.F), .no, .no, .no, .no, .no] = _
  have hi := items_rng p.n (by omega)
  rw [ss_go (S1 := [.sh (sT p.n p.n (p.T s)), .sh (rT p.n p.L), .sh (sT q.n q.n (q.T s)), .sh (rT q.n q.F), .ow [], .no, .no, .no, .no]) (by simp [exS, evE, evEs, hasBo, args1]),
    ss_go (S1 := [.sh (sT p.n p.n (p.T s)), .sh (rT p.n p.L), .sh (sT q.n q.n (q.T s)), .sh (rT q.n q.F), .ow ((List.range p.n).map h), s5, s6, .no, .no]) (by
      rw [w_chained_step_1, exS]
      simp [evI, evEs, evE, args1, hasBo, sT_len, hi]
      exact l1),
    ss_go (S1 := [.sh (sT p.n p.n (p.T s)), .sh (rT p.n p.L), .sh (sT q.n q.n (q.T s)), .sh (rT q.n q.F), .ow ((List.range (p.n + q.n)).map h), s5, s6, s7, .no]) (by
      rw [w_chained_step_2, exS]
      simp [evI, evEs, evE, args1, hasBo, sT, items]
      exact i1)]
  simp [exSs, exS, evE, evEs, args1, evBlt, ← hh]
  rfl
theorem chained_ok {p q : Mac} {D N E M A B D' N' E' M' A' B' : Nat} (hD : 0 < D) (hE : 0 < E) (hA : 0 < A) (hk : p.k = q.k) (hn : p.n + q.n ≤ 24) (hpk : p.k ≤ 100) (hp : MFit p D N E M A B) (hq : MFit q D' N' E' M' A' B') (c : ChainFit p q D N E M A B D' N') :
    m_chained [macD p, macD q] = .ok (macD (p.chain q), false) := by
  have e1 := see_signs_ok hk
  have e2 := see_rooms_ok hn
  rw [Int.natCast_add] at e2
  have e3 : m_dot [rT p.n p.F, rT p.n p.L] = .ok (fr (p.wt []), false) := dot_ok (xs := []) (rT_sq _ _) (rT_sq _ _) (fun i hi => tabs_get hi) c.c1 (by omega) hp.F hp.L
  have e4 := times_row (n := q.n) (c := p.wt []) (g := q.F) (S := [.sh (macD p), .sh (macD q), .sh (fr (p.wt [])), .no, .no, .no, .no]) 6 (.sub (.loc 1) (.int 0)) 2 (by simp) (by decide) (by simp) (by simp) (by omega) (by simp [evE, mac_0]) (wt0_fit hD hA hp) hq.F c.d1 c.n1 c.n3
  have e4 : evE c_chained_1 [.sh (macD p), .sh (macD q), .sh (fr (p.wt [])), .no, .no, .no, .no] = _ := e4
  have nn := noughts_ok (n := p.n) (by omega)
  obtain ⟨f, hf⟩ : ∃ f : MP.D, rT (p.n + q.n) (p.chain q).F = f := ⟨_, rfl⟩
  obtain ⟨S', l1, s5, l2⟩ := for_rng (f := exSs fuel wb_chained_1) (tg := fun S d => some (S.set 5 (.sh d))) (fun j S => ∃ s5, S = [.sh (macD p), .sh (macD q), .sh (fr (p.wt [])), .sh f, .ow ((List.range j).map fun s => sT (p.n + q.n) (p.n + q.n) ((p.chain q).T s)), s5, .no]) (n := p.k) (S := [.sh (macD p), .sh (macD q), .sh (fr (p.wt [])), .sh f, .ow [], .no, .no]) ⟨.no, rfl⟩ (by
    rintro s S hs ⟨s5, rfl⟩
    refine ⟨_, [.sh (macD p), .sh (macD q), .sh (fr (p.wt [])), .sh f, .ow ((List.range (s + 1)).map fun s => sT (p.n + q.n) (p.n + q.n) ((p.chain q).T s)), .sh (.int s), .no], rfl, ?_, _, rfl⟩
    have hs' : s < q.k := by omega
    have e := chained_step_ok hE hA hs hs' (by omega) (by omega) hp hq c
    have hlt : s < 16777216 := by omega
    simp [wb_chained_1, exSs, exS, evE, evEs, args1, hasBo, mac_0, mac_1, mac_2, mac_s hs, mac_s hs', e, hlt, List.range_succ])
  subst l2
  refine mir_ret ?_
  unfold b_chained
  show exSs fuel _ [.sh (macD p), .sh (macD q), .no, .no, .no, .no, .no] = _
  have hi := items_rng p.k (by omega)
  have ea : evBin .add (rT p.n p.F) (rT q.n fun j => p.wt [] * q.F j) = .ok (f, .sh) := by rw [ev_addR _ _ (show p.n + q.n ≤ 16777216 by omega), ← hf]; rfl
  rw [ss_go (S1 := [.sh (macD p), .sh (macD q), .no, .no, .no, .no, .no]) (by simp [exS, evE, evEs, args1, hasBo, e1]),
    ss_go (S1 := [.sh (macD p), .sh (macD q), .no, .no, .no, .no, .no]) (by simp [exS, evE, evEs, mac_0, args1, rT_len, e2, hasBo]),
    ss_go (S1 := [.sh (macD p), .sh (macD q), .sh (fr (p.wt [])), .no, .no, .no, .no]) (by simp [exS, evE, evEs, mac_0, mac_2, args1, hasBo, e3]),
    ss_go (S1 := [.sh (macD p), .sh (macD q), .sh (fr (p.wt [])), .sh f, .no, .no, .no]) (by simp [exS, evE, evEs, mac_0, args1, hasBo, e4, ev_tupleL, ea]),
    ss_go (S1 := [.sh (macD p), .sh (macD q), .sh (fr (p.wt [])), .sh f, .ow [], .no, .no]) (by simp [exS, evE, evEs, hasBo, args1]),
    ss_go (S1 := [.sh (macD p), .sh (macD q), .sh (fr (p.wt [])), .sh f, .ow ((List.range p.k).map fun s => sT (p.n + q.n) (p.n + q.n) ((p.chain q).T s)), s5, .no]) (by
      rw [w_chained_1, exS]
      simp [evI, evEs, evE, args1, hasBo, mac_1, steps_len, hi]
      exact l1)]
  simp [exSs, exS, evE, evEs, args1, blt_tl, mac_0, mac_2, rT_len, nn, hasBo, ev_addR (n := p.n) (m := q.n) Mac.zero q.L (by omega), ← hf]
  rfl
theorem Fit.lcm {D N E M : Nat} {q : Rat} (h : Fit D N q) (F : Nat) (hF : 0 < F) (e : D * F = E) (l : N * F ≤ M) : Fit E M q := by
  rw [← e]
  exact (h.scale F hF).mono l
theorem MFit.chain {p q : Mac} {D N E M A B D' N' : Nat} (hD : 0 < D) (hE : 0 < E) (hA : 0 < A) (hk : p.k = q.k) (hp : MFit p D N E M A B) (hq : MFit q D' N' E M A B) (hD' : 0 < D') :
    MFit (p.chain q) (D * A * D') ((N + p.n * (N * B)) * A * D' * (N' + 1)) (E * A * D') ((M + p.n * (M * B)) * A * D' * (N' + 1)) A B := by
  have up : ∀ {E M : Nat} {x : Rat}, Fit E M x → Fit (E * A * D') ((M + p.n * (M * B)) * A * D' * (N' + 1)) x := fun {E M x} h =>
    ((h.scale A hA).scale D' hD').mono (Nat.le_trans (Nat.mul_le_mul_right _ (Nat.mul_le_mul_right _ (Nat.le_add_right _ _))) (Nat.le_mul_of_pos_right _ (Nat.succ_pos _)))
  have mu : ∀ {E M : Nat} {x y : Rat}, Fit (E * A) (p.n * (M * B)) x → Fit D' N' y → Fit (E * A * D') ((M + p.n * (M * B)) * A * D' * (N' + 1)) (x * y) := fun {E M x y} h k => by
    refine (h.mul k).mono ?_
    refine Nat.mul_le_mul ?_ (by omega)
    exact Nat.le_trans (Nat.le_add_left _ _) (Nat.le_trans (Nat.le_mul_of_pos_right _ hA) (Nat.le_mul_of_pos_right _ hD'))
  have c : ∀ {D N : Nat} {f g : Nat → Rat} {i : Nat}, (i < p.n → Fit D N (f i)) → (∀ j, i = p.n + j → Fit D N (g j)) → Fit D N (Mac.cat p.n f g i) := by
    intro D N f g i h1 h2
    by_cases h : i < p.n
    · rw [Mac.cat_lo h]; exact h1 h
    · obtain ⟨j, rfl⟩ : ∃ j, i = p.n + j := ⟨i - p.n, by omega⟩
      rw [Mac.cat_hi]; exact h2 j rfl
  refine ⟨fun i hi => c (fun h => up (hp.F i h)) (fun j e => mu (wt0_fit hD hA hp) (hq.F j (by have : i < p.n + q.n := hi; omega))), fun s a b hs ha hb => ?_, fun i hi => c (fun h => Fit.zero hA) (fun j e => hq.L j (by have : i < p.n + q.n := hi; omega))⟩
  have ha' : a < p.n + q.n := ha
  have hb' : b < p.n + q.n := hb
  have hs' : s < p.k := hs
  show Fit _ _ ((if a < p.n then Mac.cat p.n (p.T s a) (fun i => p.hop s a * q.F i) else Mac.cat p.n Mac.zero (q.T s (a - p.n))) b)
  split
  · rename_i h
    exact c (fun h2 => up (hp.T s a b hs' h h2)) (fun j e => mu (hop_fit hE hA hp hs' h) (hq.F j (by omega)))
  · rename_i h
    exact c (fun h2 => Fit.zero (Nat.mul_pos (Nat.mul_pos hE hA) hD')) (fun j e => up (hq.T s _ j (by omega) (by omega) (by omega)))
end MP
set_option Elab.async false
set_option linter.all false
set_option maxRecDepth 100000
set_option maxHeartbeats 4000000
namespace MP
open PySem PySem.Spec PyProof.Rows L2 WM
/-! texts by their signs -/
def mkS (l : List Nat) : Str := ⟨l.toArray⟩
def cds (x : Str) : List Nat := x.cps.toList
theorem cds_mk (l : List Nat) : cds (mkS l) = l := by simp [cds, mkS]
theorem mk_cds (x : Str) : mkS (cds x) = x := by cases x; simp [cds, mkS]
theorem mk_inj {a b : List Nat} : mkS a = mkS b ↔ a = b := ⟨fun h => by have := congrArg cds h; rwa [cds_mk, cds_mk] at this, fun h => by rw [h]⟩
theorem mk_len (l : List Nat) : (mkS l).length = l.length := by simp [mkS, Str.length]
theorem mk_app (a b : List Nat) : mkS a ++ mkS b = mkS (a ++ b) := by
  rw [← mk_cds (mkS a ++ mkS b)]
  congr 1
  show ((mkS a ++ mkS b).cps).toList = _
  have : (mkS a ++ mkS b).cps = a.toArray ++ b.toArray := rfl
  rw [this]
  simp
/-! splitting at a sign -/
def splitL (c : Nat) : List Nat → List (List Nat)
  | [] => [[]]
  | x :: r => if x = c then [] :: splitL c r else (match splitL c r with
    | p :: ps => (x :: p) :: ps
    | [] => [[x]])
def joinL (c : Nat) : List (List Nat) → List Nat
  | [] => []
  | [p] => p
  | p :: q :: ps => p ++ c :: joinL c (q :: ps)
theorem splitL_ne (c : Nat) : ∀ l, splitL c l ≠ []
  | [] => by unfold splitL; simp
  | x :: r => by
    unfold splitL
    split
    · simp
    · split <;> simp
theorem splitL_free {c : Nat} : ∀ {p : List Nat}, c ∉ p → splitL c p = [p]
  | [], _ => rfl
  | x :: r, h => by
    unfold splitL
    rw [if_neg (fun e => h (by rw [e]; exact List.mem_cons_self)), splitL_free fun z => h (List.mem_cons_of_mem _ z)]
theorem splitL_cons {c : Nat} : ∀ {p r : List Nat}, c ∉ p → splitL c (p ++ c :: r) = p :: splitL c r
  | [], r, _ => by
    show splitL c (c :: r) = _
    conv => lhs; unfold splitL
    rw [if_pos rfl]
  | x :: p, r, h => by
    show splitL c (x :: (p ++ c :: r)) = _
    conv => lhs; unfold splitL
    rw [if_neg (fun e => h (by rw [e]; exact List.mem_cons_self)), splitL_cons fun z => h (List.mem_cons_of_mem _ z)]
theorem split_joinL {c : Nat} : ∀ {ps : List (List Nat)}, ps ≠ [] → (∀ p ∈ ps, c ∉ p) → splitL c (joinL c ps) = ps
  | [], h, _ => absurd rfl h
  | [p], _, h => splitL_free (h p List.mem_cons_self)
  | p :: q :: ps, _, h => by
    show splitL c (p ++ c :: joinL c (q :: ps)) = _
    rw [splitL_cons (h p List.mem_cons_self), split_joinL (by simp) fun r hr => h r (List.mem_cons_of_mem _ hr)]
theorem joinS_cds (c : Nat) : ∀ ps : List (List Nat), Str.join (mkS [c]) (ps.map mkS) = mkS (joinL c ps)
  | [] => rfl
  | [p] => rfl
  | p :: q :: ps => by
    show mkS p ++ mkS [c] ++ Str.join (mkS [c]) ((q :: ps).map mkS) = _
    rw [joinS_cds c (q :: ps), mk_app, mk_app]
    show _ = mkS (p ++ c :: joinL c (q :: ps))
    rw [List.append_assoc]
    rfl
theorem txt_join (c : Nat) (ps : List (List Nat)) : Txt.join (mkS [c]) (ps.map mkS) = mkS (joinL c ps) := by
  have : Txt.join (mkS [c]) (ps.map mkS) = Str.join (mkS [c]) (ps.map mkS) := StrLaws.glued_eq_join _ _
  rw [this, joinS_cds]
theorem txt_cat : ∀ ps : List (List Nat), Txt.join (mkS []) (ps.map mkS) = mkS ps.flatten := fun ps => by
  have : Txt.join (mkS []) (ps.map mkS) = Str.join (mkS []) (ps.map mkS) := StrLaws.glued_eq_join _ _
  rw [this]
  clear this
  induction ps with
  | nil => rfl
  | cons p ps ih =>
    cases ps with
    | nil => show mkS p = mkS ([p].flatten); simp
    | cons q ps =>
      show mkS p ++ mkS [] ++ Str.join (mkS []) ((q :: ps).map mkS) = _
      rw [ih, mk_app, mk_app]
      simp
theorem txt_split (c : Nat) (l : List Nat) : Txt.split (mkS l) (mkS [c]) = (splitL c l).map mkS := by
  have h1 := StrLaws.join_split (mkS l) (mkS [c])
  have h2 := StrLaws.split_free (mkS l) c
  have h3 := PyProof.Rows.split_pos (mkS l) (mkS [c])
  have e : Txt.split (mkS l) (mkS [c]) = ((Txt.split (mkS l) (mkS [c])).map cds).map mkS := by
    rw [List.map_map]
    conv => lhs; rw [← List.map_id (Txt.split (mkS l) (mkS [c]))]
    exact List.map_congr_left fun x _ => (mk_cds x).symm
  have hf : ∀ p ∈ (Txt.split (mkS l) (mkS [c])).map cds, c ∉ p := fun p hp => by
    obtain ⟨x, hx, rfl⟩ := List.mem_map.mp hp
    exact h2 x hx
  have hn : (Txt.split (mkS l) (mkS [c])).map cds ≠ [] := fun z => by
    have := congrArg List.length z
    rw [List.length_map, List.length_nil] at this
    omega
  generalize (Txt.split (mkS l) (mkS [c])).map cds = ps at e hf hn
  rw [e, joinS_cds, mk_inj] at h1
  rw [e, ← h1, split_joinL hn hf]
/-! numbers as texts -/
def natC (n : Nat) : List Nat := (Nat.toDigits 10 n).map Char.toNat
def intC (i : Int) : List Nat := match i with
  | .ofNat n => natC n
  | .negSucc n => 45 :: natC (n + 1)
theorem int_str (i : Int) : ((toString i : String) : Str) = mkS (intC i) := by
  cases i with
  | ofNat n =>
    rw [← mk_cds ((toString (Int.ofNat n) : String) : Str)]
    congr 1
    exact PySem.W.KIN.signs_num n
  | negSucc n =>
    rw [← mk_cds ((toString (Int.negSucc n) : String) : Str)]
    congr 1
    show (Str.ofString (toString (Int.negSucc n))).cps.toList = 45 :: natC (n + 1)
    rw [signs_ofString]
    have e : toString (Int.negSucc n) = "-" ++ Nat.repr (n + 1) := rfl
    rw [e, String.toList_append, List.map_append, Nat.toList_repr]
    rfl
theorem natC_digits (n : Nat) : NumText.AllDigits (natC n) := fun c hc => by
  obtain ⟨ch, hch, e⟩ := List.mem_map.mp hc
  have r := Nat.isDigit_of_mem_toDigits (by decide) (by decide) hch
  rw [← e]
  unfold Char.isDigit at r
  rw [Bool.and_eq_true, decide_eq_true_eq, decide_eq_true_eq] at r
  have h1 : ch.val.toNat = ch.toNat := rfl
  have a : (48 : Nat) ≤ ch.toNat := by
    have := UInt32.le_iff_toNat_le.mp r.1
    simpa using this
  have b : ch.toNat ≤ 57 := by
    have := UInt32.le_iff_toNat_le.mp r.2
    simpa using this
  exact ⟨a, b⟩
theorem natC_val (n : Nat) : NumText.digitsVal (natC n) = n := PySem.W.KIN.val_back n
theorem natC_len {n k : Nat} (hk : 1 ≤ k) (h : n < 10 ^ k) : (natC n).length ≤ k := by
  unfold natC
  rw [List.length_map]
  exact PyProof.Rows.digits10_le hk h
theorem natC_lt {n : Nat} (h : n < 10) : natC n = [48 + n] := by
  unfold natC
  rw [Nat.toDigits_of_lt_base h]
  have : ∀ m : Fin 10, (Nat.digitChar m.val).toNat = 48 + m.val := by decide
  exact congrArg (· :: []) (this ⟨n, h⟩)
theorem natC_step {n : Nat} (h : 10 ≤ n) : natC n = natC (n / 10) ++ natC (n % 10) := by
  have t : Nat.toDigits 10 (n / 10) ++ Nat.toDigits 10 (n % 10) = Nat.toDigits 10 (10 * (n / 10) + n % 10) := Nat.toDigits_append_toDigits (by decide) (by omega) (Nat.mod_lt n (by decide))
  rw [Nat.div_add_mod] at t
  unfold natC
  rw [← t, List.map_append]
theorem natC_head : ∀ (n : Nat), 0 < n → ∃ c r, natC n = c :: r ∧ c ≠ 48 := by
  intro n
  induction n using Nat.strongRecOn with
  | ind n ih =>
    intro h0
    by_cases h : n < 10
    · exact ⟨48 + n, [], natC_lt h, by omega⟩
    · obtain ⟨c, r, e, hc⟩ := ih (n / 10) (by omega) (by omega)
      exact ⟨c, r ++ natC (n % 10), by rw [natC_step (by omega), e]; rfl, hc⟩
theorem natC_zero : natC 0 = [48] := natC_lt (by decide)
theorem natC_ne (n : Nat) : natC n ≠ [] := by
  rcases Nat.eq_zero_or_pos n with h | h
  · rw [h, natC_zero]; simp
  · obtain ⟨c, r, e, _⟩ := natC_head n h
    rw [e]; simp
/-! what the program reads -/
def isDig (c : Nat) : Bool := decide (48 ≤ c ∧ c ≤ 57)
def goodN (l : List Nat) : Bool := !(decide (l = [])) && decide (l.length ≤ 30) && !(decide (l.head? = some 48) && !(decide (l = [48]))) && l.all isDig
def numV (l : List Nat) : Option Int := if goodN l = true then some (NumText.digitsVal l : Nat) else none
def topV : List Nat → Option Int
  | 45 :: r => (match numV r with
    | some v => if v = 0 then none else some (0 - v)
    | none => none)
  | l => numV l
def fracV (l : List Nat) : Option (Int × Int) := match splitL 47 l with
  | [a] => (match topV a with
    | some t => some (t, 1)
    | none => none)
  | [a, b] => (match topV a with
    | some t => (match numV b with
      | some v => if v < 2 ∨ ¬ ((t : Rat) / (v : Rat)).num = t ∨ ¬ (((t : Rat) / (v : Rat)).den : Int) = v then none else some (t, v)
      | none => none)
    | none => none)
  | _ => none
theorem goodN_nat {n : Nat} (h : n < 10 ^ 30) : goodN (natC n) = true := by
  have h1 := natC_ne n
  have h2 := natC_len (k := 30) (by decide) h
  have h3 : (natC n).all isDig = true := List.all_eq_true.mpr fun c hc => decide_eq_true (natC_digits n c hc)
  unfold goodN
  rw [h3, decide_eq_false h1, decide_eq_true h2]
  rcases Nat.eq_zero_or_pos n with e | e
  · subst e; rw [natC_zero]; decide
  · obtain ⟨c, r, e, hc⟩ := natC_head n e
    rw [e]
    have : ¬ (c :: r).head? = some 48 := fun z => hc (Option.some.inj z)
    rw [decide_eq_false this]; rfl
theorem numV_nat {n : Nat} (h : n < 10 ^ 30) : numV (natC n) = some (n : Int) := by
  unfold numV
  rw [if_pos (goodN_nat h), natC_val]
theorem topV_int {i : Int} (h : i.natAbs < 10 ^ 30) : topV (intC i) = some i := by
  cases i with
  | ofNat n =>
    have e : topV (intC (Int.ofNat n)) = numV (natC n) := by
      show topV (natC n) = _
      have := natC_digits n
      cases hn : natC n with
      | nil => rfl
      | cons c r =>
        rw [hn] at this
        have hc := this.head
        unfold topV
        split
        · rename_i r' e
          cases e
          omega
        · rfl
    rw [e, numV_nat (n := n) h]; rfl
  | negSucc n =>
    show (match numV (natC (n + 1)) with | some v => if v = 0 then none else some (0 - v) | none => none) = _
    rw [numV_nat (show n + 1 < 10 ^ 30 from h)]
    show (if ((n + 1 : Nat) : Int) = 0 then none else some (0 - ((n + 1 : Nat) : Int))) = _
    rw [if_neg (by omega)]
    congr 1
def fracC (q : Rat) : List Nat := if q.den = 1 then intC q.num else intC q.num ++ 47 :: natC q.den
theorem int_free {c : Nat} (h : c ≠ 45 ∧ (c < 48 ∨ 57 < c)) (i : Int) : c ∉ intC i := by
  cases i with
  | ofNat n => exact fun z => by have := natC_digits n c z; omega
  | negSucc n =>
    intro z
    rcases List.mem_cons.mp z with e | z
    · exact h.1 e
    · have := natC_digits (n + 1) c z
      omega
theorem fracV_frac {q : Rat} (h1 : q.num.natAbs < 10 ^ 30) (h2 : q.den < 10 ^ 30) : fracV (fracC q) = some (q.num, (q.den : Int)) := by
  have f1 : 47 ∉ intC q.num := int_free (by decide) _
  have f2 : 47 ∉ natC q.den := int_free (by decide) (q.den : Int)
  unfold fracC
  by_cases hd : q.den = 1
  · rw [if_pos hd]
    unfold fracV
    rw [splitL_free f1, hd]
    show (match topV (intC q.num) with | some t => some (t, (1 : Int)) | none => none) = _
    rw [topV_int h1]; rfl
  · rw [if_neg hd]
    unfold fracV
    rw [splitL_cons f1, splitL_free f2]
    show (match topV (intC q.num) with
      | some t => (match numV (natC q.den) with
        | some v => if v < 2 ∨ ¬ ((t : Rat) / (v : Rat)).num = t ∨ ¬ (((t : Rat) / (v : Rat)).den : Int) = v then none else some (t, v)
        | none => none)
      | none => none) = _
    rw [topV_int h1, numV_nat h2]
    show (if (q.den : Int) < 2 ∨ ¬ (((q.num : Rat) / (((q.den : Nat) : Int) : Rat)).num = q.num) ∨ ¬ ((((q.num : Rat) / (((q.den : Nat) : Int) : Rat)).den : Int) = (q.den : Int)) then none else some (q.num, (q.den : Int))) = _
    have e : (q.num : Rat) / (((q.den : Nat) : Int) : Rat) = q := by
      have hq := ratnum q
      have hd : (q.den : Rat) ≠ 0 := fun e => by
        have hp := q.den_pos
        have e : ((q.den : Nat) : Rat) = ((0 : Nat) : Rat) := e
        have e := Rat.natCast_inj.mp e
        omega
      rw [Rat.intCast_natCast, ← hq]
      grind
    rw [e, if_neg]
    have := q.den_pos
    rintro (z | z | z)
    · omega
    · exact z rfl
    · exact z rfl
end MP
set_option Elab.async false
set_option linter.all false
set_option maxRecDepth 100000
set_option maxHeartbeats 4000000
namespace MP
open PySem PySem.Spec PyProof.Rows L2 WM
noncomputable def wb_looked_1 : List MS := [.ife (.cmp .ne (.blt .len [(.loc 4)]) (.loc 1)) [.rais "NoMachine"] []]
noncomputable def w_looked_1 : MS := .forI 4 .val [(.loc 3)] wb_looked_1
noncomputable def wb_looked_2 : List MS := [.ife (.cmp .ne (.blt .len [(.loc 3)]) (.loc 1)) [.rais "NoMachine"] [], w_looked_1]
noncomputable def w_looked_2 : MS := .forI 3 .val [(.sub (.loc 0) (.int 1))] wb_looked_2
noncomputable def b_looked : List MS := [.set 1 (.blt .len [(.sub (.loc 0) (.int 0))]), .set 2 (.blt .len [(.sub (.loc 0) (.int 1))]), .ife (.or (.cmp .gt (.loc 1) (.glo "MOST_ROOMS" (.int 24))) (.or (.cmp .ne (.blt .len [(.sub (.loc 0) (.int 2))]) (.loc 1)) (.or (.cmp .lt (.loc 2) (.int 1)) (.cmp .gt (.loc 2) (.glo "MOST_SIGNS" (.int 4)))))) [.rais "NoMachine"] [], w_looked_2, .ret (.tup [(.loc 1), (.loc 2)])]
noncomputable def m_looked : Fn := mirror 5 fuel b_looked
noncomputable def b_fraction_shown : List MS := [.ife (.cmp .eq (.sub (.loc 0) (.int 1)) (.int 1)) [.ret (.blt .str [(.sub (.loc 0) (.int 0))])] [], .ret (.bin .add (.bin .add (.blt .str [(.sub (.loc 0) (.int 0))]) (.str "/")) (.blt .str [(.sub (.loc 0) (.int 1))]))]
noncomputable def m_fraction_shown : Fn := mirror 1 fuel b_fraction_shown
noncomputable def ce_line_of_1 : ME := (.call "fraction_shown" m_fraction_shown [(.loc 2)])
noncomputable def c_line_of_1 : ME := .comp ce_line_of_1 2 .val [(.loc 1)]
noncomputable def b_line_of : List MS := [.ret (.bin .add (.join " " (.bin .add (.loc 0) c_line_of_1)) (.str "\n"))]
noncomputable def m_line_of : Fn := mirror 3 fuel b_line_of
noncomputable def wb_shown_1 : List MS := [.app 2 (.call "line_of" m_line_of [(.lst [(.str "step"), (.blt .str [(.loc 3)]), (.blt .str [(.loc 4)])]), (.sub (.sub (.sub (.loc 0) (.int 1)) (.loc 3)) (.loc 4))])]
noncomputable def w_shown_1 : MS := .forI 4 .range1 [(.sub (.loc 1) (.int 0))] wb_shown_1
noncomputable def wb_shown_2 : List MS := [w_shown_1]
noncomputable def w_shown_2 : MS := .forI 3 .range1 [(.sub (.loc 1) (.int 1))] wb_shown_2
noncomputable def b_shown : List MS := [.set 1 (.call "looked" m_looked [(.loc 0)]), .own 2 (.lst [(.bin .add (.bin .add (.bin .add (.bin .add (.str "machine ") (.blt .str [(.sub (.loc 1) (.int 0))])) (.str " ")) (.blt .str [(.sub (.loc 1) (.int 1))])) (.str "\n"))]), .app 2 (.call "line_of" m_line_of [(.lst [(.str "first")]), (.sub (.loc 0) (.int 0))]), .app 2 (.call "line_of" m_line_of [(.lst [(.str "last")]), (.sub (.loc 0) (.int 2))]), w_shown_2, .ret (.join "" (.loc 2))]
noncomputable def m_shown : Fn := mirror 5 fuel b_shown
noncomputable def wb_number_of_1 : List MS := [.ife (.cmp .ni (.loc 1) (.glo "FIGURES" (.str "0123456789"))) [.rais "BadNote"] []]
noncomputable def w_number_of_1 : MS := .forI 1 .val [(.loc 0)] wb_number_of_1
noncomputable def b_number_of : List MS := [.ife (.or (.cmp .eq (.loc 0) (.str "")) (.or (.cmp .gt (.blt .len [(.loc 0)]) (.int 30)) (.and (.cmp .eq (.sub (.loc 0) (.int 0)) (.str "0")) (.cmp .ne (.loc 0) (.str "0"))))) [.rais "BadNote"] [], w_number_of_1, .ret (.blt .int [(.loc 0)])]
noncomputable def m_number_of : Fn := mirror 2 fuel b_number_of
noncomputable def b_top_of : List MS := [.ife (.cmp .ne (.slHi (.loc 0) (.int 1)) (.str "-")) [.ret (.call "number_of" m_number_of [(.loc 0)])] [], .set 1 (.call "number_of" m_number_of [(.slLo (.loc 0) (.int 1))]), .ife (.cmp .eq (.loc 1) (.int 0)) [.rais "BadNote"] [], .ret (.bin .sub (.int 0) (.loc 1))]
noncomputable def m_top_of : Fn := mirror 2 fuel b_top_of
noncomputable def b_fraction_of : List MS := [.set 1 (.split (.loc 0) "/"), .ife (.cmp .gt (.blt .len [(.loc 1)]) (.int 2)) [.rais "BadNote"] [], .set 2 (.call "top_of" m_top_of [(.sub (.loc 1) (.int 0))]), .ife (.cmp .eq (.blt .len [(.loc 1)]) (.int 1)) [.ret (.tup [(.loc 2), (.int 1)])] [], .set 3 (.call "number_of" m_number_of [(.sub (.loc 1) (.int 1))]), .ife (.or (.cmp .lt (.loc 3) (.int 2)) (.cmp .ne (.call "lowest" m_lowest [(.loc 2), (.loc 3)]) (.tup [(.loc 2), (.loc 3)]))) [.rais "BadNote"] [], .ret (.tup [(.loc 2), (.loc 3)])]
noncomputable def m_fraction_of : Fn := mirror 4 fuel b_fraction_of
noncomputable def ce_row_of_1 : ME := (.call "fraction_of" m_fraction_of [(.loc 4)])
noncomputable def c_row_of_1 : ME := .tupComp ce_row_of_1 4 .val [(.slLo (.loc 3) (.blt .len [(.loc 1)]))]
noncomputable def b_row_of : List MS := [.set 3 (.split (.loc 0) " "), .ife (.or (.cmp .ne (.slHi (.loc 3) (.blt .len [(.loc 1)])) (.loc 1)) (.cmp .ne (.blt .len [(.loc 3)]) (.bin .add (.blt .len [(.loc 1)]) (.loc 2)))) [.rais "BadNote"] [], .ret c_row_of_1]
noncomputable def m_row_of : Fn := mirror 5 fuel b_row_of
noncomputable def wb_read_1 : List MS := [.app 9 (.call "row_of" m_row_of [(.sub (.loc 1) (.bin .add (.bin .add (.int 3) (.bin .mul (.loc 8) (.loc 3))) (.loc 10))), (.lst [(.str "step"), (.blt .str [(.loc 8)]), (.blt .str [(.loc 10)])]), (.loc 3)])]
noncomputable def w_read_1 : MS := .forI 10 .range1 [(.loc 3)] wb_read_1
noncomputable def wb_read_2 : List MS := [.own 9 (.lst []), w_read_1, .app 7 (.blt .tuple [(.loc 9)])]
noncomputable def w_read_2 : MS := .forI 8 .range1 [(.loc 4)] wb_read_2
noncomputable def b_read : List MS := [.set 1 (.split (.loc 0) "\n"), .set 2 (.split (.sub (.loc 1) (.int 0)) " "), .ife (.or (.cmp .ne (.blt .len [(.loc 2)]) (.int 3)) (.cmp .ne (.sub (.loc 2) (.int 0)) (.str "machine"))) [.rais "BadNote"] [], .set 3 (.call "number_of" m_number_of [(.sub (.loc 2) (.int 1))]), .set 4 (.call "number_of" m_number_of [(.sub (.loc 2) (.int 2))]), .ife (.or (.cmp .gt (.loc 3) (.int 24)) (.or (.cmp .gt (.loc 4) (.int 4)) (.or (.cmp .ne (.blt .len [(.loc 1)]) (.bin .add (.int 4) (.bin .mul (.loc 3) (.loc 4)))) (.cmp .ne (.sub (.loc 1) (.neg (.int 1))) (.str ""))))) [.rais "BadNote"] [], .set 5 (.call "row_of" m_row_of [(.sub (.loc 1) (.int 1)), (.lst [(.str "first")]), (.loc 3)]), .set 6 (.call "row_of" m_row_of [(.sub (.loc 1) (.int 2)), (.lst [(.str "last")]), (.loc 3)]), .own 7 (.lst []), w_read_2, .set 11 (.tup [(.loc 5), (.blt .tuple [(.loc 7)]), (.loc 6)]), .tryR [.exp (.call "looked" m_looked [(.loc 11)])] "NoMachine", .ret (.loc 11)]
noncomputable def m_read : Fn := mirror 12 fuel b_read
/-! texts compared, cut -/
def Lay (l : List Nat) : Prop := ∀ c ∈ l, c < 1114112
theorem okD_str {n : Nat} {l : List Nat} (h : Lay l) : okD n (.str (mkS l)) = true := by
  have e : PyData.canLay0 (.str (mkS l)) = true := by
    show (mkS l).cps.all (· < 0x110000) = true
    rw [← Array.all_toList]
    exact List.all_eq_true.mpr fun c hc => decide_eq_true (h c (by simpa [mkS] using hc))
  unfold okD
  cases n <;> exact e
theorem dstr_inj {a b : List Nat} : (MP.D.str (mkS a) = .str (mkS b)) ↔ a = b := ⟨fun h => mk_inj.mp (MP.D.str.inj h), fun h => by rw [h]⟩
theorem ev_eqS {a b : List Nat} (ha : Lay a) (hb : Lay b) : evCmp .eq (.str (mkS a)) (.str (mkS b)) = .ok (.bl (decide (a = b)), .sh) := ev_eq (n := 0) (okD_str ha) (okD_str hb) (by decide) _ (by rw [dstr_inj, decide_eq_true_eq])
theorem ev_neS {a b : List Nat} (ha : Lay a) (hb : Lay b) : evCmp .ne (.str (mkS a)) (.str (mkS b)) = .ok (.bl (!decide (a = b)), .sh) := ev_ne (n := 0) (okD_str ha) (okD_str hb) (by decide) _ (by rw [dstr_inj, decide_eq_true_eq])
theorem len_S {l : List Nat} (h : l.length ≤ 16777216) : evBlt .len [.str (mkS l)] = .ok (.int l.length, .sh) := by
  show (if (mkS l).length ≤ 16777216 then _ else _) = _
  rw [mk_len, if_pos h]
theorem hi1_S {l : List Nat} (h : l.length ≤ 16777216) : evSl (.str (mkS l)) none (some 1) = .ok (.str (mkS (l.take 1)), .sh) := by
  show (if (mkS l).length ≤ 16777216 then Res.ok (MP.D.str (L2.cutS (mkS l) none (some 1)), Kd.sh) else .stuck) = _
  rw [mk_len, if_pos h]
  congr 3
  rw [← mk_cds (L2.cutS (mkS l) none (some 1))]
  congr 1
  show (((mkS l).cps.toList.drop (HT.sIx (mkS l).length 0 none)).take (HT.sIx (mkS l).length (mkS l).length (some ((1 : Nat) : Int)) - HT.sIx (mkS l).length 0 none)).toArray.toList = _
  rw [HT.sIx_nat, HT.sIx_none, mk_len]
  have : (mkS l).cps.toList = l := cds_mk l
  rw [this]
  simp
theorem lo1_S {l : List Nat} (h : l.length ≤ 16777216) : evSl (.str (mkS l)) (some 1) none = .ok (.str (mkS (l.drop 1)), .sh) := by
  show (if (mkS l).length ≤ 16777216 then Res.ok (MP.D.str (L2.cutS (mkS l) (some 1) none), Kd.sh) else .stuck) = _
  rw [mk_len, if_pos h]
  congr 3
  rw [← mk_cds (L2.cutS (mkS l) (some 1) none)]
  congr 1
  show (((mkS l).cps.toList.drop (HT.sIx (mkS l).length 0 (some ((1 : Nat) : Int)))).take (HT.sIx (mkS l).length (mkS l).length none - HT.sIx (mkS l).length 0 (some ((1 : Nat) : Int)))).toArray.toList = _
  rw [HT.sIx_nat, HT.sIx_none, mk_len]
  have : (mkS l).cps.toList = l := cds_mk l
  rw [this]
  cases l with
  | nil => simp
  | cons c r => simp
theorem sub0_S {c : Nat} {l : List Nat} (h : (c :: l).length ≤ 16777216) : evSub (.str (mkS (c :: l))) (.int 0) = .ok (.str (mkS [c]), .sh) := by
  show (if (mkS (c :: l)).length ≤ 16777216 then (match L2.atI (mkS (c :: l)).cps.toList 0 with | some c => Res.ok (MP.D.str ⟨#[c]⟩, Kd.sh) | none => .stuck) else .stuck) = _
  rw [mk_len, if_pos h]
  have e : (mkS (c :: l)).cps.toList = c :: l := cds_mk _
  have : L2.atI (c :: l) 0 = some c := by
    unfold L2.atI L2.ixN
    simp
  rw [e, this]
  rfl
/-- a for that is left by an exception -/
theorem for_exc {α : Type} {f : List SV → SRes} {tg : List SV → MP.D → Option (List SV)} {x : Str} (g : α → MP.D) (ok : α → Bool) (P : List SV → Prop) : ∀ (L : List α) (S : List SV), P S →
    (∀ a ∈ L, ∀ S, P S → ∃ S1, tg S (g a) = some S1 ∧ (ok a = true → ∃ S2, f S1 = .nx S2 ∧ P S2) ∧ (ok a = false → ∃ S2, f S1 = .exc x S2)) →
    (L.all ok = true → ∃ S', forL f tg (L.map g) S = .nx S' ∧ P S') ∧ (L.all ok = false → ∃ S', forL f tg (L.map g) S = .exc x S')
  | [], S, p, _ => ⟨fun _ => ⟨S, rfl, p⟩, fun h => by cases h⟩
  | a :: L, S, p, st => by
    obtain ⟨S1, t1, t2, t3⟩ := st a List.mem_cons_self S p
    have e : ∀ R, (match f S1 with | .nx S2 => forL f tg (L.map g) S2 | r => r) = R → forL f tg ((a :: L).map g) S = R := fun R h => by
      rw [List.map_cons, forL, t1]; exact h
    cases h : ok a with
    | true =>
      obtain ⟨S2, f2, p2⟩ := t2 h
      obtain ⟨h1, h2⟩ := for_exc g ok P L S2 p2 fun b hb => st b (List.mem_cons_of_mem _ hb)
      rw [List.all_cons, h, Bool.true_and]
      refine ⟨fun z => ?_, fun z => ?_⟩
      · obtain ⟨S', h3, h4⟩ := h1 z
        exact ⟨S', e _ (by rw [f2]; exact h3), h4⟩
      · obtain ⟨S', h3⟩ := h2 z
        exact ⟨S', e _ (by rw [f2]; exact h3)⟩
    | false =>
      obtain ⟨S2, f2⟩ := t3 h
      have hall : (a :: L).all ok = false := by rw [List.all_cons, h, Bool.false_and]
      exact ⟨fun z => (by rw [hall] at z; cases z), fun _ => ⟨S2, e _ (by rw [f2])⟩⟩
def bad (r : Option MP.D) : Res (MP.D × Bool) := match r with
  | some d => .ok (d, false)
  | none => .exc "BadNote"
theorem s0 : (("" : String) : Str) = mkS [] := by decide +kernel
theorem s1 : (("0" : String) : Str) = mkS [48] := by decide +kernel
theorem s2 : (("-" : String) : Str) = mkS [45] := by decide +kernel
theorem s3 : (("0123456789" : String) : Str) = mkS [48, 49, 50, 51, 52, 53, 54, 55, 56, 57] := by decide +kernel
theorem s4 : (("/" : String) : Str) = mkS [47] := by decide +kernel
theorem s5 : ((" " : String) : Str) = mkS [32] := by decide +kernel
theorem s6 : (("\n" : String) : Str) = mkS [10] := by decide +kernel
theorem lay_lit (l : List Nat) (h : l.all (· < 1114112) = true) : Lay l := fun c hc => of_decide_eq_true (List.all_eq_true.mp h c hc)
theorem ni_S (c : Nat) : evCmp .ni (.str (mkS [c])) (.str (mkS [48, 49, 50, 51, 52, 53, 54, 55, 56, 57])) = .ok (.bl (!isDig c), .sh) := by
  show Res.ok (MP.D.bl (!decide (c ∈ (mkS [48, 49, 50, 51, 52, 53, 54, 55, 56, 57]).cps.toList)), Kd.sh) = _
  congr 3
  congr 1
  have e : (mkS [48, 49, 50, 51, 52, 53, 54, 55, 56, 57]).cps.toList = [48, 49, 50, 51, 52, 53, 54, 55, 56, 57] := cds_mk _
  rw [e]
  unfold isDig
  exact decide_eq_decide.mpr (by simp; omega)
theorem number_of_ok {l : List Nat} (hl : l.length ≤ 16777216) (hy : Lay l) : m_number_of [.str (mkS l)] = bad ((numV l).map .int) := by
  have e0 := ev_eqS hy (lay_lit [] rfl)
  have e1 := ev_neS hy (lay_lit [48] rfl)
  have el := len_S hl
  by_cases hg : goodN l = true
  · have hv : numV l = some (NumText.digitsVal l : Nat) := if_pos hg
    rw [hv]
    unfold goodN at hg
    simp only [Bool.and_eq_true, Bool.not_eq_true', decide_eq_false_iff_not, decide_eq_true_eq] at hg
    obtain ⟨⟨⟨g1, g2⟩, g3⟩, g4⟩ := hg
    have hd : NumText.AllDigits l := fun c hc => of_decide_eq_true (List.all_eq_true.mp g4 c hc)
    cases l with
    | nil => exact absurd rfl g1
    | cons c r =>
      have es := sub0_S hl
      have ec := ev_eqS (a := [c]) (b := [48]) (fun x hx => hy x (by rw [List.mem_singleton.mp hx]; exact List.mem_cons_self)) (lay_lit [48] rfl)
      obtain ⟨l1, _⟩ := for_exc (f := exSs fuel wb_number_of_1) (tg := fun S d => some (S.set 1 (.sh d))) (x := "BadNote") (fun x : Nat => MP.D.str (mkS [x])) isDig (fun S => ∃ s, S = [.sh (.str (mkS (c :: r))), s]) (c :: r) [.sh (.str (mkS (c :: r))), .no] ⟨.no, rfl⟩ (by
        rintro x hx S ⟨s, rfl⟩
        have en := ni_S x
        refine ⟨_, rfl, fun z => ⟨[.sh (.str (mkS (c :: r))), .sh (.str (mkS [x]))], ?_, _, rfl⟩, fun z => ⟨[.sh (.str (mkS (c :: r))), .sh (.str (mkS [x]))], ?_⟩⟩
        · rw [z] at en
          simp [wb_number_of_1, exSs, exS, evE, s3, en]
        · rw [z] at en
          simp [wb_number_of_1, exSs, exS, evE, s3, en])
      obtain ⟨S', l2, s', rfl⟩ := l1 g4
      have ei : evBlt .int [.str (mkS (c :: r))] = .ok (.int (NumText.digitsVal (c :: r) : Nat), .sh) := by
        show (if (mkS (c :: r)).length ≤ 640 then (match PySem.intText? (mkS (c :: r)) with | some n => Res.ok (MP.D.int n, Kd.sh) | none => .stuck) else .stuck) = _
        have hc : (mkS (c :: r)).cps.toList = c :: r := cds_mk _
        have hi := intText_digits (x := mkS (c :: r)) (by rw [hc]; exact hd) (by rw [hc]; simp) (by rw [mk_len]; omega)
        rw [mk_len, if_pos (by omega), hi, hc]
      have g30 : ¬ (30 : Int) < ((c :: r).length : Int) := by omega
      refine mir_ret ?_
      unfold b_number_of
      show exSs fuel _ [.sh (.str (mkS (c :: r))), .no] = _
      rw [ss_go (S1 := [.sh (.str (mkS (c :: r))), .no]) (by
        have c0 : evE (.cmp .eq (.loc 0) (.str "")) [.sh (.str (mkS (c :: r))), .no] = .ok (.bl false, .sh) := by
          rw [decide_eq_false g1] at e0
          simp [evE, s0, e0]
        have c1 : evE (.cmp .gt (.blt .len [(.loc 0)]) (.int 30)) [.sh (.str (mkS (c :: r))), .no] = .ok (.bl false, .sh) := by
          simp only [evE, evEs, List.getElem?_cons_zero, Res.bind, args1, List.map, el, evCmp, decide_eq_false g30]
        have c2 : evE (.and (.cmp .eq (.sub (.loc 0) (.int 0)) (.str "0")) (.cmp .ne (.loc 0) (.str "0"))) [.sh (.str (mkS (c :: r))), .no] = .ok (.bl false, .sh) := by
          simp only [evE, List.getElem?_cons_zero, Res.bind, es, s1, ec, e1]
          by_cases hz : c = 48
          · subst hz
            rw [decide_eq_true rfl]
            have : (48 :: r) = [48] := Classical.byContradiction fun z => by
              simp [z] at g3
            rw [this]; rfl
          · rw [decide_eq_false (fun z => hz (List.cons.inj z).1)]
        rw [exS, evE, c0]
        simp only [Res.bind]
        rw [evE, c1]
        simp only [Res.bind]
        rw [c2]
        simp [isBl, exSs]),
        ss_go (S1 := [.sh (.str (mkS (c :: r))), s']) (by
          rw [w_number_of_1, exS]
          have : evI .val [(.loc 0)] [.sh (.str (mkS (c :: r))), .no] = .ok ((c :: r).map fun x => MP.D.str (mkS [x])) := by
            have hc : (mkS (c :: r)).cps.toList = c :: r := cds_mk _
            simp only [evI, evEs, evE, List.getElem?_cons_zero, Res.bind, args1, List.map, hasBo, List.any, Bool.or_false, decide_false, Bool.false_eq_true, if_false, items, hc]
            rfl
          rw [this, bindS_ok]
          exact l2)]
      refine ss_ret ?_
      rw [exS]
      simp only [evE, evEs, List.getElem?_cons_zero, Res.bind, args1, List.map, ei, bindS_ok]
      rfl
  · have hv : numV l = none := if_neg hg
    rw [hv]
    show _ = Res.exc "BadNote"
    have stop : ∀ S : List SV, S = [.sh (.str (mkS l)), .no] → evE (.or (.cmp .eq (.loc 0) (.str "")) (.or (.cmp .gt (.blt .len [(.loc 0)]) (.int 30)) (.and (.cmp .eq (.sub (.loc 0) (.int 0)) (.str "0")) (.cmp .ne (.loc 0) (.str "0"))))) S = .ok (.bl true, .sh) → m_number_of [.str (mkS l)] = .exc "BadNote" := fun S hS h => by
      subst hS
      refine mir_exc (S1 := [.sh (.str (mkS l)), .no]) ?_
      unfold b_number_of
      show exSs fuel _ [.sh (.str (mkS l)), .no] = _
      refine ss_exc ?_
      rw [exS, h, bindS_ok]
      simp [exSs, exS]
    cases l with
    | nil =>
      refine stop _ rfl ?_
      simp [evE, s0, e0]
    | cons c r =>
      have es := sub0_S hl
      have ec := ev_eqS (a := [c]) (b := [48]) (fun x hx => hy x (by rw [List.mem_singleton.mp hx]; exact List.mem_cons_self)) (lay_lit [48] rfl)
      have c0 : evE (.cmp .eq (.loc 0) (.str "")) [.sh (.str (mkS (c :: r))), .no] = .ok (.bl false, .sh) := by
        rw [decide_eq_false (by simp)] at e0
        simp [evE, s0, e0]
      by_cases h30 : (c :: r).length ≤ 30
      · have g30 : ¬ (30 : Int) < ((c :: r).length : Int) := by omega
        have c1 : evE (.cmp .gt (.blt .len [(.loc 0)]) (.int 30)) [.sh (.str (mkS (c :: r))), .no] = .ok (.bl false, .sh) := by
          simp only [evE, evEs, List.getElem?_cons_zero, Res.bind, args1, List.map, el, evCmp, decide_eq_false g30]
        by_cases hz : c = 48 ∧ ¬ (c :: r) = [48]
        · have c2 : evE (.and (.cmp .eq (.sub (.loc 0) (.int 0)) (.str "0")) (.cmp .ne (.loc 0) (.str "0"))) [.sh (.str (mkS (c :: r))), .no] = .ok (.bl true, .sh) := by
            simp only [evE, List.getElem?_cons_zero, Res.bind, es, s1, ec, e1]
            rw [decide_eq_true (by rw [hz.1]), decide_eq_false hz.2]
            rfl
          refine stop _ rfl ?_
          rw [evE, c0]
          simp only [Res.bind]
          rw [evE, c1]
          simp only [Res.bind]
          rw [c2]
          simp [isBl]
        · have c2 : evE (.and (.cmp .eq (.sub (.loc 0) (.int 0)) (.str "0")) (.cmp .ne (.loc 0) (.str "0"))) [.sh (.str (mkS (c :: r))), .no] = .ok (.bl false, .sh) := by
            simp only [evE, List.getElem?_cons_zero, Res.bind, es, s1, ec, e1]
            by_cases hq : c = 48
            · rw [decide_eq_true (by rw [hq]), decide_eq_true (Classical.byContradiction fun z => hz ⟨hq, z⟩)]
              rfl
            · rw [decide_eq_false (fun z => hq (List.cons.inj z).1)]
          have hd : (c :: r).all isDig = false := by
            cases hx : (c :: r).all isDig with
            | false => rfl
            | true =>
              exfalso
              apply hg
              unfold goodN
              rw [hx, decide_eq_false (show ¬ (c :: r) = [] by simp), decide_eq_true h30]
              by_cases hq : c = 48
              · have : (c :: r) = [48] := Classical.byContradiction fun z => hz ⟨hq, z⟩
                rw [this]; decide
              · have : ¬ (c :: r).head? = some 48 := fun z => hq (Option.some.inj z)
                rw [decide_eq_false this]; rfl
          obtain ⟨_, l1⟩ := for_exc (f := exSs fuel wb_number_of_1) (tg := fun S d => some (S.set 1 (.sh d))) (x := "BadNote") (fun x : Nat => MP.D.str (mkS [x])) isDig (fun S => ∃ s, S = [.sh (.str (mkS (c :: r))), s]) (c :: r) [.sh (.str (mkS (c :: r))), .no] ⟨.no, rfl⟩ (by
            rintro x hx S ⟨s, rfl⟩
            have en := ni_S x
            refine ⟨_, rfl, fun z => ⟨[.sh (.str (mkS (c :: r))), .sh (.str (mkS [x]))], ?_, _, rfl⟩, fun z => ⟨[.sh (.str (mkS (c :: r))), .sh (.str (mkS [x]))], ?_⟩⟩
            · rw [z] at en
              simp [wb_number_of_1, exSs, exS, evE, s3, en]
            · rw [z] at en
              simp [wb_number_of_1, exSs, exS, evE, s3, en])
          obtain ⟨S', l2⟩ := l1 hd
          refine mir_exc (S1 := S') ?_
          unfold b_number_of
          show exSs fuel _ [.sh (.str (mkS (c :: r))), .no] = _
          rw [ss_go (S1 := [.sh (.str (mkS (c :: r))), .no]) (by
            rw [exS, evE, c0]
            simp only [Res.bind]
            rw [evE, c1]
            simp only [Res.bind]
            rw [c2]
            simp [isBl, exSs])]
          refine ss_exc ?_
          rw [w_number_of_1, exS]
          have : evI .val [(.loc 0)] [.sh (.str (mkS (c :: r))), .no] = .ok ((c :: r).map fun x => MP.D.str (mkS [x])) := by
            have hc : (mkS (c :: r)).cps.toList = c :: r := cds_mk _
            simp only [evI, evEs, evE, List.getElem?_cons_zero, Res.bind, args1, List.map, hasBo, List.any, Bool.or_false, decide_false, Bool.false_eq_true, if_false, items, hc]
            rfl
          rw [this, bindS_ok]
          exact l2
      · have g30 : (30 : Int) < ((c :: r).length : Int) := by omega
        have c1 : evE (.cmp .gt (.blt .len [(.loc 0)]) (.int 30)) [.sh (.str (mkS (c :: r))), .no] = .ok (.bl true, .sh) := by
          simp only [evE, evEs, List.getElem?_cons_zero, Res.bind, args1, List.map, el, evCmp, decide_eq_true g30]
        refine stop _ rfl ?_
        rw [evE, c0]
        simp only [Res.bind]
        rw [evE, c1]
        simp [isBl]
theorem top_of_ok {l : List Nat} (hl : l.length ≤ 16777216) (hy : Lay l) : m_top_of [.str (mkS l)] = bad ((topV l).map .int) := by
  have eh := hi1_S hl
  have eo := lo1_S hl
  have en := ev_neS (a := l.take 1) (b := [45]) (fun c hc => hy c (List.mem_of_mem_take hc)) (lay_lit [45] rfl)
  by_cases h : l.take 1 = [45]
  · obtain ⟨r, rfl⟩ : ∃ r, l = 45 :: r := by
      cases l with
      | nil => cases h
      | cons c r =>
        have : [c] = [45] := h
        cases this
        exact ⟨r, rfl⟩
    rw [decide_eq_true h] at en
    have hr : r.length ≤ 16777216 := by rw [List.length_cons] at hl; omega
    have e2 := number_of_ok hr (fun c hc => hy c (List.mem_cons_of_mem _ hc))
    have eo : evSl (.str (mkS (45 :: r))) (some 1) none = .ok (.str (mkS r), .sh) := eo
    have g1 : exS fuel (.ife (.cmp .ne (.slHi (.loc 0) (.int 1)) (.str "-")) [.ret (.call "number_of" m_number_of [(.loc 0)])] []) [.sh (.str (mkS (45 :: r))), .no] = .nx [.sh (.str (mkS (45 :: r))), .no] := by
      simp only [exS, evE, List.getElem?_cons_zero, Res.bind, eh, s2, en, bindS_ok, exSs]
      rfl
    have ev : topV (45 :: r) = (match numV r with | some v => if v = 0 then none else some (0 - v) | none => none) := rfl
    rw [ev]
    cases hv : numV r with
    | none =>
      rw [hv] at e2
      have e2 : m_number_of [.str (mkS r)] = .exc "BadNote" := e2
      show _ = Res.exc "BadNote"
      refine mir_exc (S1 := [.sh (.str (mkS (45 :: r))), .no]) ?_
      unfold b_top_of
      show exSs fuel _ [.sh (.str (mkS (45 :: r))), .no] = _
      rw [ss_go g1]
      refine ss_exc ?_
      simp [exS, evE, evEs, eo, args1, e2, bindS]
    | some v =>
      rw [hv] at e2
      have e2 : m_number_of [.str (mkS r)] = .ok (.int v, false) := e2
      dsimp only
      by_cases h0 : v = 0
      · rw [if_pos h0]
        show _ = Res.exc "BadNote"
        refine mir_exc (S1 := [.sh (.str (mkS (45 :: r))), .sh (.int v)]) ?_
        unfold b_top_of
        show exSs fuel _ [.sh (.str (mkS (45 :: r))), .no] = _
        rw [ss_go g1, ss_go (S1 := [.sh (.str (mkS (45 :: r))), .sh (.int v)]) (by simp [exS, evE, evEs, eo, args1, e2, hasBo])]
        refine ss_exc ?_
        simp [exSs, exS, evE, h0]
      · rw [if_neg h0]
        show _ = Res.ok (MP.D.int (0 - v), false)
        refine mir_ret ?_
        unfold b_top_of
        show exSs fuel _ [.sh (.str (mkS (45 :: r))), .no] = _
        rw [ss_go g1, ss_go (S1 := [.sh (.str (mkS (45 :: r))), .sh (.int v)]) (by simp [exS, evE, evEs, eo, args1, e2, hasBo]),
          ss_go (S1 := [.sh (.str (mkS (45 :: r))), .sh (.int v)]) (by simp [exSs, exS, evE, h0])]
        simp [exSs, exS, evE, evBin]
  · have e2 := number_of_ok hl hy
    have ev : topV l = numV l := by
      unfold topV
      split
      · rename_i r
        exact absurd rfl h
      · rfl
    rw [ev]
    rw [decide_eq_false h] at en
    have ct : evE (.cmp .ne (.slHi (.loc 0) (.int 1)) (.str "-")) [.sh (.str (mkS l)), .no] = .ok (.bl true, .sh) := by
      simp only [evE, List.getElem?_cons_zero, Res.bind, eh, s2, en]
      rfl
    cases hv : numV l with
    | none =>
      rw [hv] at e2
      have e2 : m_number_of [.str (mkS l)] = .exc "BadNote" := e2
      show _ = Res.exc "BadNote"
      refine mir_exc (S1 := [.sh (.str (mkS l)), .no]) ?_
      unfold b_top_of
      show exSs fuel _ [.sh (.str (mkS l)), .no] = _
      refine ss_exc ?_
      rw [exS, ct, bindS_ok]
      dsimp only
      exact ss_exc (by simp [exS, evE, evEs, args1, e2, bindS])
    | some v =>
      rw [hv] at e2
      have e2 : m_number_of [.str (mkS l)] = .ok (.int v, false) := e2
      show _ = Res.ok (MP.D.int v, false)
      refine mir_ret ?_
      unfold b_top_of
      show exSs fuel _ [.sh (.str (mkS l)), .no] = _
      refine ss_ret ?_
      rw [exS, ct, bindS_ok]
      dsimp only
      exact ss_ret (by simp [exS, evE, evEs, args1, e2, hasBo])
theorem digitsVal_lt : ∀ l : List Nat, NumText.AllDigits l → NumText.digitsVal l < 10 ^ l.length := fun l => by
  suffices ∀ (l : List Nat) (a : Nat), NumText.AllDigits l → l.foldl (fun acc c => acc * 10 + (c - 48)) a < (a + 1) * 10 ^ l.length by
    intro h
    have := this l 0 h
    rwa [Nat.zero_add, Nat.one_mul] at this
  intro l
  induction l with
  | nil => intro a _; show a < (a + 1) * 1; omega
  | cons c r ih =>
    intro a h
    have hc := h.head
    have := ih (a * 10 + (c - 48)) h.tail
    show List.foldl _ (a * 10 + (c - 48)) r < _
    refine Nat.lt_of_lt_of_le this ?_
    rw [List.length_cons, Nat.pow_succ, Nat.mul_comm (10 ^ r.length), ← Nat.mul_assoc]
    exact Nat.mul_le_mul_right _ (by omega)
theorem numV_lt {l : List Nat} {v : Int} (h : numV l = some v) : 0 ≤ v ∧ v.natAbs < 10 ^ 30 := by
  unfold numV at h
  split at h
  · rename_i hg
    cases h
    unfold goodN at hg
    simp only [Bool.and_eq_true, Bool.not_eq_true', decide_eq_false_iff_not, decide_eq_true_eq] at hg
    obtain ⟨⟨⟨g1, g2⟩, g3⟩, g4⟩ := hg
    have := digitsVal_lt l fun c hc => of_decide_eq_true (List.all_eq_true.mp g4 c hc)
    exact ⟨by omega, by rw [Int.natAbs_natCast]; exact Nat.lt_of_lt_of_le this (Nat.pow_le_pow_right (by decide) g2)⟩
  · cases h
theorem split_S2 (c : Nat) {l : List Nat} (hl : l.length + 2 ≤ 16777216) : splitD (mkS [c]) (.str (mkS l)) = .ok (.lst ((splitL c l).map fun p => .str (mkS p)), .fr) := by
  show (if ((mkS [c]).length == 0) = false ∧ (mkS l).length + 2 ≤ 16777216 then Res.ok (MP.D.lst ((Txt.split (mkS l) (mkS [c])).map MP.D.str), Kd.fr) else .stuck) = _
  rw [if_pos ⟨by rw [mk_len]; rfl, by rw [mk_len]; exact hl⟩, txt_split, List.map_map]
  rfl
theorem split_mem {c : Nat} : ∀ {l p : List Nat}, p ∈ splitL c l → (∀ x ∈ p, x ∈ l) ∧ p.length ≤ l.length
  | [], p, h => by
    have : p = [] := List.mem_singleton.mp h
    subst this
    exact ⟨fun x hx => absurd hx List.not_mem_nil, Nat.le_refl _⟩
  | y :: r, p, h => by
    unfold splitL at h
    split at h
    · rcases List.mem_cons.mp h with e | h
      · subst e; exact ⟨fun x hx => absurd hx List.not_mem_nil, Nat.zero_le _⟩
      · obtain ⟨a, b⟩ := split_mem h
        exact ⟨fun x hx => List.mem_cons_of_mem _ (a x hx), Nat.le_succ_of_le b⟩
    · split at h
      · rename_i q qs e
        rcases List.mem_cons.mp h with e2 | h
        · subst e2
          obtain ⟨a, b⟩ := split_mem (c := c) (l := r) (p := q) (by rw [e]; exact List.mem_cons_self)
          exact ⟨fun x hx => (List.mem_cons.mp hx).elim (fun e => by rw [e]; exact List.mem_cons_self) fun hx => List.mem_cons_of_mem _ (a x hx), Nat.succ_le_succ b⟩
        · obtain ⟨a, b⟩ := split_mem (c := c) (l := r) (p := p) (by rw [e]; exact List.mem_cons_of_mem _ h)
          exact ⟨fun x hx => List.mem_cons_of_mem _ (a x hx), Nat.le_succ_of_le b⟩
      · exact absurd ‹splitL c r = []› (splitL_ne c r)
end MP
set_option Elab.async false
set_option linter.all false
set_option maxRecDepth 100000
set_option maxHeartbeats 4000000
namespace MP
open PySem PySem.Spec PyProof.Rows L2 WM
theorem blt_len_l2 (xs : List MP.D) : evBlt .len [.lst xs] = .ok (.int xs.length, .sh) := rfl
theorem ev_compM2 {elt : ME} {i : Nat} {k : IK} {es : List ME} {S : List SV} {rs : List (D × Kd)} {xs ds : List D} (h1 : evEs es S = .ok rs) (h2 : hasBo rs = false) (h3 : items k (args1 rs) = .ok xs) (h4 : xs.length ≤ 16777216) (h5 : compL i (evE elt) S xs = .ok ds) : evE (.comp elt i k es) S = .ok (.lst ds, .fr) := by
  rw [evE, h1]
  simp only [Res.bind, h2, h3, h4, h5]
  rfl
def strL (ps : List (List Nat)) : List MP.D := ps.map fun p => .str (mkS p)
theorem strL_len (ps : List (List Nat)) : (strL ps).length = ps.length := List.length_map _
theorem strL_get {ps : List (List Nat)} {j : Nat} {p : List Nat} (h : ps[j]? = some p) : evSub (.lst (strL ps)) (.int (j : Nat)) = .ok (.str (mkS p), .sh) := Sq.sub (xs := strL ps) (.inr rfl) (by rw [strL, List.getElem?_map, h]; rfl)
theorem strL_inj {a b : List (List Nat)} : strL a = strL b ↔ a = b := ⟨fun h => (List.map_inj_right fun x y e => dstr_inj.mp e).mp h, fun h => by rw [h]⟩
theorem okD_strL {ps : List (List Nat)} (h : ∀ p ∈ ps, Lay p) : okD 1 (.lst (strL ps)) = true := by
  show okDs 0 (strL ps) = true
  induction ps with
  | nil => unfold strL okDs; rfl
  | cons p ps ih =>
    show okDs 0 (.str (mkS p) :: strL ps) = true
    rw [okDs, okD_str (h p List.mem_cons_self), ih fun q hq => h q (List.mem_cons_of_mem _ hq)]; rfl
theorem ev_neSL {a b : List (List Nat)} (ha : ∀ p ∈ a, Lay p) (hb : ∀ p ∈ b, Lay p) : evCmp .ne (.lst (strL a)) (.lst (strL b)) = .ok (.bl (!decide (a = b)), .sh) := ev_ne (n := 1) (okD_strL ha) (okD_strL hb) (by decide) _ (by
  rw [decide_eq_true_eq]
  exact ⟨fun h => strL_inj.mp (MP.D.lst.inj h), fun h => by rw [h]⟩)
theorem hi_L (ps : List (List Nat)) (k : Nat) : evSl (.lst (strL ps)) none (some (k : Int)) = .ok (.lst (strL (ps.take k)), .fr) := by
  show Res.ok (MP.D.lst (cutD _ _ _), Kd.fr) = _
  unfold cutD
  rw [HT.sIx_nat, HT.sIx_none, strL_len, Nat.sub_zero, List.drop_zero]
  congr 3
  rw [strL, strL, ← List.map_take]
  congr 1
  by_cases h : k ≤ ps.length
  · rw [Nat.min_eq_left h]
  · rw [Nat.min_eq_right (by omega), List.take_length, List.take_of_length_le (by omega)]
theorem lo_L (ps : List (List Nat)) (k : Nat) : evSl (.lst (strL ps)) (some (k : Int)) none = .ok (.lst (strL (ps.drop k)), .fr) := by
  show Res.ok (MP.D.lst (cutD _ _ _), Kd.fr) = _
  unfold cutD
  rw [HT.sIx_nat, HT.sIx_none, strL_len]
  congr 3
  rw [strL, strL, ← List.map_drop, List.take_of_length_le (by simp)]
  by_cases h : k ≤ ps.length
  · rw [Nat.min_eq_left h]
  · have h2 : ps.length ≤ k := by omega
    rw [Nat.min_eq_right h2, List.drop_eq_nil_of_le h2, List.drop_eq_nil_of_le (Nat.le_refl ps.length)]
theorem ev_nePr (a b c d : Int) : evCmp .ne (.tup [.int a, .int b]) (.tup [.int c, .int d]) = .ok (.bl (!decide (a = c ∧ b = d)), .sh) := ev_ne (n := 1) (by simp [okD, okDs]) (by simp [okD, okDs]) (by decide) _ (by simp)
def prD (p : Int × Int) : MP.D := .tup [.int p.1, .int p.2]
theorem fraction_of_ok {l : List Nat} (hl : l.length + 2 ≤ 16777216) (hy : Lay l) : m_fraction_of [.str (mkS l)] = bad ((fracV l).map prD) := by
  have es : splitD "/" (.str (mkS l)) = .ok (.lst (strL (splitL 47 l)), .fr) := by rw [s4]; exact split_S2 47 hl
  have hm : ∀ p ∈ splitL 47 l, Lay p ∧ p.length ≤ 16777216 := fun p hp => by
    obtain ⟨a, b⟩ := split_mem hp
    exact ⟨fun c hc => hy c (a c hc), by omega⟩
  have g0 : exS fuel (.set 1 (.split (.loc 0) "/")) [.sh (.str (mkS l)), .no, .no, .no] = .nx [.sh (.str (mkS l)), .sh (.lst (strL (splitL 47 l))), .no, .no] := by
    simp only [exS, evE, List.getElem?_cons_zero, Res.bind, es, bindS_ok]
    rfl
  have hne := splitL_ne 47 l
  have ln : evBlt .len [.lst (strL (splitL 47 l))] = .ok (.int (splitL 47 l).length, .sh) := by rw [blt_len_l2, strL_len]
  unfold fracV
  cases hs : splitL 47 l with
  | nil => exact absurd hs hne
  | cons a r =>
    rw [hs] at g0 ln hm
    have ta := top_of_ok (hm a List.mem_cons_self).2 (hm a List.mem_cons_self).1
    have g00 : evSub (.lst (strL (a :: r))) (.int 0) = .ok (.str (mkS a), .sh) := strL_get (ps := a :: r) (j := 0) rfl
    cases r with
    | nil =>
      have g1 : exS fuel (.ife (.cmp .gt (.blt .len [(.loc 1)]) (.int 2)) [.rais "BadNote"] []) [.sh (.str (mkS l)), .sh (.lst (strL [a])), .no, .no] = .nx [.sh (.str (mkS l)), .sh (.lst (strL [a])), .no, .no] := by
        simp [exSs, exS, evE, evEs, args1, ln, evCmp]
      dsimp only
      cases ht : topV a with
      | none =>
        rw [ht] at ta
        have ta : m_top_of [.str (mkS a)] = .exc "BadNote" := ta
        show _ = Res.exc "BadNote"
        refine mir_exc (S1 := [.sh (.str (mkS l)), .sh (.lst (strL [a])), .no, .no]) ?_
        unfold b_fraction_of
        show exSs fuel _ [.sh (.str (mkS l)), .no, .no, .no] = _
        rw [ss_go g0, ss_go g1]
        exact ss_exc (by simp [exS, evE, evEs, args1, g00, ta, bindS])
      | some t =>
        rw [ht] at ta
        have ta : m_top_of [.str (mkS a)] = .ok (.int t, false) := ta
        show _ = Res.ok (MP.D.tup [.int t, .int 1], false)
        refine mir_ret ?_
        unfold b_fraction_of
        show exSs fuel _ [.sh (.str (mkS l)), .no, .no, .no] = _
        rw [ss_go g0, ss_go g1, ss_go (S1 := [.sh (.str (mkS l)), .sh (.lst (strL [a])), .sh (.int t), .no]) (by simp [exS, evE, evEs, args1, hasBo, g00, ta])]
        refine ss_ret ?_
        simp [exSs, exS, evE, evEs, args1, hasBo, ln]
    | cons b r =>
      cases r with
      | nil =>
        have tb := number_of_ok (hm b (by simp)).2 (hm b (by simp)).1
        have g01 : evSub (.lst (strL [a, b])) (.int 1) = .ok (.str (mkS b), .sh) := strL_get (ps := [a, b]) (j := 1) rfl
        have g1 : exS fuel (.ife (.cmp .gt (.blt .len [(.loc 1)]) (.int 2)) [.rais "BadNote"] []) [.sh (.str (mkS l)), .sh (.lst (strL [a, b])), .no, .no] = .nx [.sh (.str (mkS l)), .sh (.lst (strL [a, b])), .no, .no] := by
          simp [exSs, exS, evE, evEs, args1, ln, evCmp]
        dsimp only
        cases ht : topV a with
        | none =>
          rw [ht] at ta
          have ta : m_top_of [.str (mkS a)] = .exc "BadNote" := ta
          show _ = Res.exc "BadNote"
          refine mir_exc (S1 := [.sh (.str (mkS l)), .sh (.lst (strL [a, b])), .no, .no]) ?_
          unfold b_fraction_of
          show exSs fuel _ [.sh (.str (mkS l)), .no, .no, .no] = _
          rw [ss_go g0, ss_go g1]
          exact ss_exc (by simp [exS, evE, evEs, args1, g00, ta, bindS])
        | some t =>
          rw [ht] at ta
          have ta : m_top_of [.str (mkS a)] = .ok (.int t, false) := ta
          have g2 : exS fuel (.set 2 (.call "top_of" m_top_of [(.sub (.loc 1) (.int 0))])) [.sh (.str (mkS l)), .sh (.lst (strL [a, b])), .no, .no] = .nx [.sh (.str (mkS l)), .sh (.lst (strL [a, b])), .sh (.int t), .no] := by simp [exS, evE, evEs, args1, hasBo, g00, ta]
          have g3 : exS fuel (.ife (.cmp .eq (.blt .len [(.loc 1)]) (.int 1)) [.ret (.tup [(.loc 2), (.int 1)])] []) [.sh (.str (mkS l)), .sh (.lst (strL [a, b])), .sh (.int t), .no] = .nx [.sh (.str (mkS l)), .sh (.lst (strL [a, b])), .sh (.int t), .no] := by simp [exSs, exS, evE, evEs, args1, ln]
          dsimp only
          cases hv : numV b with
          | none =>
            rw [hv] at tb
            have tb : m_number_of [.str (mkS b)] = .exc "BadNote" := tb
            show _ = Res.exc "BadNote"
            refine mir_exc (S1 := [.sh (.str (mkS l)), .sh (.lst (strL [a, b])), .sh (.int t), .no]) ?_
            unfold b_fraction_of
            show exSs fuel _ [.sh (.str (mkS l)), .no, .no, .no] = _
            rw [ss_go g0, ss_go g1, ss_go g2, ss_go g3]
            exact ss_exc (by simp [exS, evE, evEs, args1, g01, tb, bindS])
          | some v =>
            rw [hv] at tb
            have tb : m_number_of [.str (mkS b)] = .ok (.int v, false) := tb
            obtain ⟨v0, v1⟩ := numV_lt hv
            have g4 : exS fuel (.set 3 (.call "number_of" m_number_of [(.sub (.loc 1) (.int 1))])) [.sh (.str (mkS l)), .sh (.lst (strL [a, b])), .sh (.int t), .no] = .nx [.sh (.str (mkS l)), .sh (.lst (strL [a, b])), .sh (.int t), .sh (.int v)] := by simp [exS, evE, evEs, args1, hasBo, g01, tb]
            dsimp only
            have ct : v < 2 ∨ ¬ ((t : Rat) / (v : Rat)).num = t ∨ ¬ (((t : Rat) / (v : Rat)).den : Int) = v → evE (.or (.cmp .lt (.loc 3) (.int 2)) (.cmp .ne (.call "lowest" m_lowest [(.loc 2), (.loc 3)]) (.tup [(.loc 2), (.loc 3)]))) [.sh (.str (mkS l)), .sh (.lst (strL [a, b])), .sh (.int t), .sh (.int v)] = .ok (.bl true, .sh) := fun h => by
              by_cases h2 : v < 2
              · simp [evE, evCmp, h2]
              · have lw := lowest_ok t v (by omega) (Nat.lt_trans v1 (by decide +kernel))
                have e := ev_nePr ((t : Rat) / (v : Rat)).num (((t : Rat) / (v : Rat)).den : Int) t v
                rw [decide_eq_false (fun z => by
                  rcases h with h | h | h
                  · exact h2 h
                  · exact h z.1
                  · exact h z.2)] at e
                have a1 : evE (.call "lowest" m_lowest [(.loc 2), (.loc 3)]) [.sh (.str (mkS l)), .sh (.lst (strL [a, b])), .sh (.int t), .sh (.int v)] = .ok (fr ((t : Rat) / (v : Rat)), .sh) := by simp [evE, evEs, args1, hasBo, lw]
                have a2 : evE (.tup [(.loc 2), (.loc 3)]) [.sh (.str (mkS l)), .sh (.lst (strL [a, b])), .sh (.int t), .sh (.int v)] = .ok (.tup [.int t, .int v], .sh) := by simp [evE, evEs, args1, hasBo]
                have a3 : evE (.cmp .lt (.loc 3) (.int 2)) [.sh (.str (mkS l)), .sh (.lst (strL [a, b])), .sh (.int t), .sh (.int v)] = .ok (.bl false, .sh) := by simp [evE, evCmp, h2]
                have a4 : evE (.cmp .ne (.call "lowest" m_lowest [(.loc 2), (.loc 3)]) (.tup [(.loc 2), (.loc 3)])) [.sh (.str (mkS l)), .sh (.lst (strL [a, b])), .sh (.int t), .sh (.int v)] = evCmp .ne (fr ((t : Rat) / (v : Rat))) (.tup [.int t, .int v]) := by
                  rw [evE, a1]
                  simp only [Res.bind]
                  rw [a2]
                rw [evE, a3]
                simp only [Res.bind]
                rw [a4]
                have e : evCmp .ne (fr ((t : Rat) / (v : Rat))) (.tup [.int t, .int v]) = _ := e
                rw [e]
                rfl
            have cf : ¬ (v < 2 ∨ ¬ ((t : Rat) / (v : Rat)).num = t ∨ ¬ (((t : Rat) / (v : Rat)).den : Int) = v) → evE (.or (.cmp .lt (.loc 3) (.int 2)) (.cmp .ne (.call "lowest" m_lowest [(.loc 2), (.loc 3)]) (.tup [(.loc 2), (.loc 3)]))) [.sh (.str (mkS l)), .sh (.lst (strL [a, b])), .sh (.int t), .sh (.int v)] = .ok (.bl false, .sh) := fun h => by
              have h2 : ¬ v < 2 := fun z => h (.inl z)
              have lw := lowest_ok t v (by omega) (Nat.lt_trans v1 (by decide +kernel))
              have e := ev_nePr ((t : Rat) / (v : Rat)).num (((t : Rat) / (v : Rat)).den : Int) t v
              rw [decide_eq_true (show ((t : Rat) / (v : Rat)).num = t ∧ (((t : Rat) / (v : Rat)).den : Int) = v from ⟨Classical.byContradiction fun z => h (.inr (.inl z)), Classical.byContradiction fun z => h (.inr (.inr z))⟩)] at e
              have a1 : evE (.call "lowest" m_lowest [(.loc 2), (.loc 3)]) [.sh (.str (mkS l)), .sh (.lst (strL [a, b])), .sh (.int t), .sh (.int v)] = .ok (fr ((t : Rat) / (v : Rat)), .sh) := by simp [evE, evEs, args1, hasBo, lw]
              have a2 : evE (.tup [(.loc 2), (.loc 3)]) [.sh (.str (mkS l)), .sh (.lst (strL [a, b])), .sh (.int t), .sh (.int v)] = .ok (.tup [.int t, .int v], .sh) := by simp [evE, evEs, args1, hasBo]
              have a3 : evE (.cmp .lt (.loc 3) (.int 2)) [.sh (.str (mkS l)), .sh (.lst (strL [a, b])), .sh (.int t), .sh (.int v)] = .ok (.bl false, .sh) := by simp [evE, evCmp, h2]
              have a4 : evE (.cmp .ne (.call "lowest" m_lowest [(.loc 2), (.loc 3)]) (.tup [(.loc 2), (.loc 3)])) [.sh (.str (mkS l)), .sh (.lst (strL [a, b])), .sh (.int t), .sh (.int v)] = evCmp .ne (fr ((t : Rat) / (v : Rat))) (.tup [.int t, .int v]) := by
                rw [evE, a1]
                simp only [Res.bind]
                rw [a2]
              rw [evE, a3]
              simp only [Res.bind]
              rw [a4]
              have e : evCmp .ne (fr ((t : Rat) / (v : Rat))) (.tup [.int t, .int v]) = _ := e
              rw [e]
              rfl
            by_cases h : v < 2 ∨ ¬ ((t : Rat) / (v : Rat)).num = t ∨ ¬ (((t : Rat) / (v : Rat)).den : Int) = v
            · rw [if_pos h]
              show _ = Res.exc "BadNote"
              refine mir_exc (S1 := [.sh (.str (mkS l)), .sh (.lst (strL [a, b])), .sh (.int t), .sh (.int v)]) ?_
              unfold b_fraction_of
              show exSs fuel _ [.sh (.str (mkS l)), .no, .no, .no] = _
              rw [ss_go g0, ss_go g1, ss_go g2, ss_go g3, ss_go g4]
              refine ss_exc ?_
              rw [exS, ct h, bindS_ok]
              simp [exSs, exS]
            · rw [if_neg h]
              show _ = Res.ok (MP.D.tup [.int t, .int v], false)
              refine mir_ret ?_
              unfold b_fraction_of
              show exSs fuel _ [.sh (.str (mkS l)), .no, .no, .no] = _
              rw [ss_go g0, ss_go g1, ss_go g2, ss_go g3, ss_go g4, ss_go (S1 := [.sh (.str (mkS l)), .sh (.lst (strL [a, b])), .sh (.int t), .sh (.int v)]) (by rw [exS, cf h, bindS_ok]; rfl)]
              simp [exSs, exS, evE, evEs, args1, hasBo]
      | cons b2 r =>
        show _ = Res.exc "BadNote"
        refine mir_exc (S1 := [.sh (.str (mkS l)), .sh (.lst (strL (a :: b :: b2 :: r))), .no, .no]) ?_
        unfold b_fraction_of
        show exSs fuel _ [.sh (.str (mkS l)), .no, .no, .no] = _
        rw [ss_go g0]
        refine ss_exc ?_
        have h3 : (2 : Int) < ((a :: b :: b2 :: r).length : Int) := by simp only [List.length_cons]; omega
        simp only [exS, evE, evEs, List.getElem?_cons_succ, List.getElem?_cons_zero, Res.bind, args1, List.map, ln, evCmp, decide_eq_true h3, bindS_ok]
        rfl
/-! lines -/
def mapV : List (List Nat) → Option (List (Int × Int))
  | [] => some []
  | p :: ps => (match fracV p with
    | some v => (match mapV ps with
      | some vs => some (v :: vs)
      | none => none)
    | none => none)
theorem mapV_some {fs : List (List Nat)} {ps : List (Int × Int)} (h : fs.map fracV = ps.map some) : mapV fs = some ps := by
  induction fs generalizing ps with
  | nil =>
    cases ps with
    | nil => rfl
    | cons => cases h
  | cons f fs ih =>
    cases ps with
    | nil => cases h
    | cons p ps =>
      have h1 : fracV f = some p := (List.cons.inj h).1
      unfold mapV
      rw [h1, ih (List.cons.inj h).2]
theorem mapV_none {fs : List (List Nat)} {f : List Nat} (h : f ∈ fs) (hf : fracV f = none) : mapV fs = none := by
  induction fs with
  | nil => cases h
  | cons g fs ih =>
    unfold mapV
    rcases List.mem_cons.mp h with e | h
    · rw [← e, hf]
    · rw [ih h]
      cases fracV g <;> rfl
theorem compX_ok {i : Nat} {f : List SV → Res (D × Kd)} {S : List SV} : ∀ L : List (List Nat), (∀ p ∈ L, f (S.set i (.sh (.str (mkS p)))) = (match fracV p with
    | some v => .ok (prD v, .sh)
    | none => .exc "BadNote")) → compX i f S (strL L) = (match mapV L with
    | some vs => .ok (vs.map prD)
    | none => .exc "BadNote")
  | [], _ => rfl
  | p :: L, h => by
    have h1 := h p List.mem_cons_self
    have h2 := compX_ok L fun q hq => h q (List.mem_cons_of_mem _ hq)
    show compX i f S (.str (mkS p) :: strL L) = _
    rw [compX, h1, mapV]
    cases fracV p with
    | none => rfl
    | some v =>
      show (if Kd.sh = Kd.bo then Res.stuck else (compX i f S (strL L)).bind fun ds => Res.ok (prD v :: ds)) = _
      rw [if_neg (by decide), h2]
      cases mapV L <;> rfl
/-- what a line gives -/
def rowV (line : List Nat) (ws : List (List Nat)) (n : Nat) : Option (List (Int × Int)) :=
  if (splitL 32 line).take ws.length = ws ∧ (splitL 32 line).length = ws.length + n then mapV ((splitL 32 line).drop ws.length) else none
theorem split_len (c : Nat) : ∀ l : List Nat, (splitL c l).length ≤ l.length + 1
  | [] => Nat.le_refl _
  | x :: r => by
    have ih := split_len c r
    unfold splitL
    split
    · rw [List.length_cons, List.length_cons]; omega
    · split
      · rename_i q qs e
        rw [e] at ih
        rw [List.length_cons] at ih ⊢
        rw [List.length_cons]; omega
      · simp
theorem row_of_all {ws : List (List Nat)} {line : List Nat} {n : Nat} (hl : line.length + 2 ≤ 16777216) (hy : Lay line) (hw : ∀ p ∈ ws, Lay p) :
    m_row_of [.str (mkS line), .lst (strL ws), .int n] = bad ((rowV line ws n).map fun ps => .tup (ps.map prD)) := by
  have es : splitD " " (.str (mkS line)) = .ok (.lst (strL (splitL 32 line)), .fr) := by rw [s5, split_S2 32 hl]; rfl
  have hm : ∀ p ∈ splitL 32 line, Lay p ∧ p.length + 2 ≤ 16777216 := fun p hp => by
    obtain ⟨a, b⟩ := split_mem hp
    exact ⟨fun c hc => hy c (a c hc), by omega⟩
  have hsl := split_len 32 line
  unfold rowV
  generalize splitL 32 line = ps at *
  have lw : evBlt .len [.lst (strL ws)] = .ok (.int ws.length, .sh) := by rw [blt_len_l2, strL_len]
  have lp : evBlt .len [.lst (strL ps)] = .ok (.int (ps.length : Nat), .sh) := by rw [blt_len_l2, strL_len]
  have hh := hi_L ps ws.length
  have ho := lo_L ps ws.length
  have en := ev_neSL (a := ps.take ws.length) (b := ws) (fun p hp => (hm p (List.mem_of_mem_take hp)).1) hw
  have g0 : exS fuel (.set 3 (.split (.loc 0) " ")) [.sh (.str (mkS line)), .sh (.lst (strL ws)), .sh (.int n), .no, .no] = .nx [.sh (.str (mkS line)), .sh (.lst (strL ws)), .sh (.int n), .sh (.lst (strL ps)), .no] := by
    simp only [exS, evE, List.getElem?_cons_zero, Res.bind, es, bindS_ok]
    rfl
  have c1 : evE (.cmp .ne (.slHi (.loc 3) (.blt .len [(.loc 1)])) (.loc 1)) [.sh (.str (mkS line)), .sh (.lst (strL ws)), .sh (.int n), .sh (.lst (strL ps)), .no] = .ok (.bl (!decide (ps.take ws.length = ws)), .sh) := by
    simp only [evE, evEs, List.getElem?_cons_succ, List.getElem?_cons_zero, Res.bind, args1, List.map, lw, hh, en]
  have c2 : evE (.cmp .ne (.blt .len [(.loc 3)]) (.bin .add (.blt .len [(.loc 1)]) (.loc 2))) [.sh (.str (mkS line)), .sh (.lst (strL ws)), .sh (.int n), .sh (.lst (strL ps)), .no] = .ok (.bl (!decide (ps.length = ws.length + n)), .sh) := by
    simp only [evE, evEs, List.getElem?_cons_succ, List.getElem?_cons_zero, Res.bind, args1, List.map, lw, lp, evBin, ev_neI]
    congr 4
    exact decide_eq_decide.mpr (by omega)
  have cc : evE (.or (.cmp .ne (.slHi (.loc 3) (.blt .len [(.loc 1)])) (.loc 1)) (.cmp .ne (.blt .len [(.loc 3)]) (.bin .add (.blt .len [(.loc 1)]) (.loc 2)))) [.sh (.str (mkS line)), .sh (.lst (strL ws)), .sh (.int n), .sh (.lst (strL ps)), .no] = .ok (.bl (!decide (ps.take ws.length = ws ∧ ps.length = ws.length + n)), .sh) := by
    rw [evE, c1]
    simp only [Res.bind]
    rw [c2]
    by_cases h1 : ps.take ws.length = ws <;> by_cases h2 : ps.length = ws.length + n <;> simp [h1, h2, isBl]
  by_cases hc : ps.take ws.length = ws ∧ ps.length = ws.length + n
  · rw [if_pos hc]
    rw [decide_eq_true hc] at cc
    have g1 : exS fuel (.ife (.or (.cmp .ne (.slHi (.loc 3) (.blt .len [(.loc 1)])) (.loc 1)) (.cmp .ne (.blt .len [(.loc 3)]) (.bin .add (.blt .len [(.loc 1)]) (.loc 2)))) [.rais "BadNote"] []) [.sh (.str (mkS line)), .sh (.lst (strL ws)), .sh (.int n), .sh (.lst (strL ps)), .no] = .nx [.sh (.str (mkS line)), .sh (.lst (strL ws)), .sh (.int n), .sh (.lst (strL ps)), .no] := by
      rw [exS, cc, bindS_ok]
      rfl
    have hx := compX_ok (i := 4) (f := evE ce_row_of_1) (S := [.sh (.str (mkS line)), .sh (.lst (strL ws)), .sh (.int n), .sh (.lst (strL ps)), .no]) (ps.drop ws.length) fun p hp => by
      obtain ⟨h1, h2⟩ := hm p (List.mem_of_mem_drop hp)
      have e := fraction_of_ok h2 h1
      cases hv : fracV p with
      | none =>
        rw [hv] at e
        have e : m_fraction_of [.str (mkS p)] = .exc "BadNote" := e
        simp [ce_row_of_1, evE, evEs, args1, e]
      | some v =>
        rw [hv] at e
        have e : m_fraction_of [.str (mkS p)] = .ok (prD v, false) := e
        simp [ce_row_of_1, evE, evEs, args1, hasBo, e]
    have hdl : (strL (ps.drop ws.length)).length ≤ 16777216 := by
      rw [strL_len, List.length_drop]
      omega
    have ec : evE c_row_of_1 [.sh (.str (mkS line)), .sh (.lst (strL ws)), .sh (.int n), .sh (.lst (strL ps)), .no] = (compX 4 (evE ce_row_of_1) [.sh (.str (mkS line)), .sh (.lst (strL ws)), .sh (.int n), .sh (.lst (strL ps)), .no] (strL (ps.drop ws.length))).bind fun ds => .ok (.tup ds, .sh) := by
      have e1 : evEs [(.slLo (.loc 3) (.blt .len [(.loc 1)]))] [.sh (.str (mkS line)), .sh (.lst (strL ws)), .sh (.int n), .sh (.lst (strL ps)), .no] = .ok [(.lst (strL (ps.drop ws.length)), .fr)] := by
        simp only [evEs, evE, List.getElem?_cons_succ, List.getElem?_cons_zero, Res.bind, args1, List.map, lw, ho]
      rw [c_row_of_1, evE, e1]
      show (if hasBo [(MP.D.lst (strL (ps.drop ws.length)), Kd.fr)] = true then Res.stuck else if (strL (ps.drop ws.length)).length ≤ 16777216 then _ else _) = _
      rw [if_neg (by simp [hasBo]), if_pos hdl]
    rw [hx] at ec
    cases hv : mapV (ps.drop ws.length) with
    | none =>
      rw [hv] at ec
      show _ = Res.exc "BadNote"
      refine mir_exc (S1 := [.sh (.str (mkS line)), .sh (.lst (strL ws)), .sh (.int n), .sh (.lst (strL ps)), .no]) ?_
      unfold b_row_of
      show exSs fuel _ [.sh (.str (mkS line)), .sh (.lst (strL ws)), .sh (.int n), .no, .no] = _
      rw [ss_go g0, ss_go g1]
      exact ss_exc (by rw [exS, ec]; rfl)
    | some vs =>
      rw [hv] at ec
      show _ = Res.ok (MP.D.tup (vs.map prD), false)
      refine mir_ret ?_
      unfold b_row_of
      show exSs fuel _ [.sh (.str (mkS line)), .sh (.lst (strL ws)), .sh (.int n), .no, .no] = _
      rw [ss_go g0, ss_go g1]
      exact ss_ret (by rw [exS, ec]; rfl)
  · rw [if_neg hc]
    rw [decide_eq_false hc] at cc
    show _ = Res.exc "BadNote"
    refine mir_exc (S1 := [.sh (.str (mkS line)), .sh (.lst (strL ws)), .sh (.int n), .sh (.lst (strL ps)), .no]) ?_
    unfold b_row_of
    show exSs fuel _ [.sh (.str (mkS line)), .sh (.lst (strL ws)), .sh (.int n), .no, .no] = _
    rw [ss_go g0]
    refine ss_exc ?_
    rw [exS, cc, bindS_ok]
    simp [exSs, exS]
theorem row_of_ok {ws fs : List (List Nat)} {line : List Nat} {ps : List (Int × Int)} (he : splitL 32 line = ws ++ fs) (hl : line.length + 2 ≤ 16777216) (hy : Lay line) (hp : fs.map fracV = ps.map some) :
    m_row_of [.str (mkS line), .lst (strL ws), .int fs.length] = .ok (.tup (ps.map prD), false) := by
  rw [row_of_all hl hy fun p hp c hc => by
    obtain ⟨a, _⟩ := split_mem (show p ∈ splitL 32 line by rw [he]; exact List.mem_append_left _ hp)
    exact hy c (a c hc)]
  have e : rowV line ws fs.length = some ps := by
    unfold rowV
    rw [he, List.take_left' rfl, List.drop_left' rfl, if_pos ⟨rfl, List.length_append⟩]
    exact mapV_some hp
  rw [e]
  rfl
end MP
set_option Elab.async false
set_option linter.all false
set_option maxRecDepth 100000
set_option maxHeartbeats 4000000
namespace MP
open PySem PySem.Spec PyProof.Rows L2 WM
noncomputable def b_law_shown_part : List MS := [.ife (.cmp .eq (.sub (.loc 0) (.int 1)) (.int 1)) [.ret (.blt .str [(.sub (.loc 0) (.int 0))])] [], .ret (.bin .add (.bin .add (.blt .str [(.sub (.loc 0) (.int 0))]) (.str "/")) (.blt .str [(.sub (.loc 0) (.int 1))]))]
noncomputable def m_law_shown_part : Fn := mirror 1 fuel b_law_shown_part
noncomputable def ce_law_line_1 : ME := (.call "_law_shown_part" m_law_shown_part [(.loc 2)])
noncomputable def c_law_line_1 : ME := .comp ce_law_line_1 2 .val [(.loc 1)]
noncomputable def b_law_line : List MS := [.ret (.bin .add (.join " " (.bin .add (.loc 0) c_law_line_1)) (.str "\n"))]
noncomputable def m_law_line : Fn := mirror 3 fuel b_law_line
theorem fr_num2 (q : Rat) : evSub (fr q) (.int 0) = .ok (.int q.num, .sh) := by simp [fr, evSub]
theorem fr_den2 (q : Rat) : evSub (fr q) (.int 1) = .ok (.int (q.den : Int), .sh) := by simp [fr, evSub]
/-! a machine as lines -/
def machC : List Nat := [109, 97, 99, 104, 105, 110, 101]
def firstC : List Nat := [102, 105, 114, 115, 116]
def lastC : List Nat := [108, 97, 115, 116]
def stepC : List Nat := [115, 116, 101, 112]
theorem t1 : (("machine" : String) : Str) = mkS machC := by decide +kernel
theorem t2 : (("machine " : String) : Str) = mkS (machC ++ [32]) := by decide +kernel
theorem t3 : (("first" : String) : Str) = mkS firstC := by decide +kernel
theorem t4 : (("last" : String) : Str) = mkS lastC := by decide +kernel
theorem t5 : (("step" : String) : Str) = mkS stepC := by decide +kernel
def headC (n k : Nat) : List Nat := joinL 32 [machC, natC n, natC k]
def lineC (ws : List (List Nat)) (n : Nat) (f : Nat → Rat) : List Nat := joinL 32 (ws ++ (List.range n).map fun i => fracC (f i))
def stW (s a : Nat) : List (List Nat) := [stepC, natC s, natC a]
def stepL {α : Type} (k n : Nat) (ln : Nat → Nat → α) : List α := ((List.range k).map fun s => (List.range n).map fun a => ln s a).flatten
theorem stepL_succ {α : Type} (k n : Nat) (ln : Nat → Nat → α) : stepL (k + 1) n ln = stepL k n ln ++ (List.range n).map fun a => ln k a := by
  unfold stepL
  rw [List.range_succ, List.map_append, List.flatten_append]
  simp
theorem stepL_len {α : Type} (k n : Nat) (ln : Nat → Nat → α) : (stepL k n ln).length = k * n := by
  induction k with
  | zero => rw [Nat.zero_mul]; rfl
  | succ k ih => rw [stepL_succ, List.length_append, ih, List.length_map, List.length_range, Nat.succ_mul]
theorem stepL_get {α : Type} {n : Nat} (ln : Nat → Nat → α) : ∀ {k s a : Nat}, s < k → a < n → (stepL k n ln)[s * n + a]? = some (ln s a) := by
  intro k
  induction k with
  | zero => intro s a h _; omega
  | succ k ih =>
    intro s a hs ha
    rw [stepL_succ]
    by_cases e : s = k
    · subst e
      rw [List.getElem?_append_right (by rw [stepL_len]; omega), stepL_len, Nat.add_sub_cancel_left, List.getElem?_map, List.getElem?_range ha]; rfl
    · have h1 : s < k := by omega
      have h2 : (s + 1) * n ≤ k * n := Nat.mul_le_mul_right _ h1
      rw [Nat.succ_mul] at h2
      rw [List.getElem?_append_left (by rw [stepL_len]; omega)]
      exact ih h1 ha
theorem stepL_map {α β : Type} (g : α → β) (k n : Nat) (ln : Nat → Nat → α) : (stepL k n ln).map g = stepL k n fun s a => g (ln s a) := by
  induction k with
  | zero => rfl
  | succ k ih => rw [stepL_succ, stepL_succ, List.map_append, ih, List.map_map]; rfl
def linesM (m : Mac) : List (List Nat) := [headC m.n m.k, lineC [firstC] m.n m.F, lineC [lastC] m.n m.L] ++ stepL m.k m.n fun s a => lineC (stW s a) m.n (m.T s a)
def textC (m : Mac) : List Nat := ((linesM m).map (· ++ [10])).flatten
theorem joinL_end (ls : List (List Nat)) : joinL 10 (ls ++ [[]]) = (ls.map (· ++ [10])).flatten := by
  induction ls with
  | nil => rfl
  | cons l ls ih =>
    rw [List.map_cons, List.flatten_cons, ← ih]
    cases ls with
    | nil => show l ++ 10 :: joinL 10 [[]] = l ++ [10] ++ joinL 10 [[]]; simp
    | cons q qs => show l ++ 10 :: joinL 10 ((q :: qs) ++ [[]]) = _; simp
theorem joinL_mem {d c : Nat} : ∀ {ps : List (List Nat)}, c ∈ joinL d ps → c = d ∨ ∃ p ∈ ps, c ∈ p
  | [], h => absurd h List.not_mem_nil
  | [p], h => .inr ⟨p, List.mem_cons_self, h⟩
  | p :: q :: ps, h => by
    have h : c ∈ p ++ d :: joinL d (q :: ps) := h
    rcases List.mem_append.mp h with h | h
    · exact .inr ⟨p, List.mem_cons_self, h⟩
    · rcases List.mem_cons.mp h with h | h
      · exact .inl h
      · rcases joinL_mem h with h | ⟨r, hr, h⟩
        · exact .inl h
        · exact .inr ⟨r, List.mem_cons_of_mem _ hr, h⟩
theorem joinL_len {d : Nat} : ∀ ps : List (List Nat), (joinL d ps).length ≤ (ps.map List.length).sum + ps.length
  | [] => Nat.zero_le _
  | [p] => by show p.length ≤ p.length + 0 + 1; omega
  | p :: q :: ps => by
    have := joinL_len (d := d) (q :: ps)
    show (p ++ d :: joinL d (q :: ps)).length ≤ p.length + ((q :: ps).map List.length).sum + ((q :: ps).length + 1)
    rw [List.length_append, List.length_cons]
    omega
/-- signs of numbers and words -/
def Asc (l : List Nat) : Prop := ∀ c ∈ l, 45 ≤ c ∧ c ≤ 122
theorem Asc.lay {l : List Nat} (h : Asc l) : Lay l := fun c hc => by have := h c hc; omega
theorem natC_asc (n : Nat) : Asc (natC n) := fun c hc => by have := natC_digits n c hc; omega
theorem intC_asc (i : Int) : Asc (intC i) := by
  cases i with
  | ofNat n => exact natC_asc n
  | negSucc n =>
    intro c hc
    rcases List.mem_cons.mp hc with e | hc
    · rw [e]; decide
    · exact natC_asc _ c hc
theorem fracC_asc (q : Rat) : Asc (fracC q) := by
  unfold fracC
  split
  · exact intC_asc _
  · intro c hc
    rcases List.mem_append.mp hc with h | h
    · exact intC_asc _ c h
    · rcases List.mem_cons.mp h with e | h
      · rw [e]; decide
      · exact natC_asc _ c h
def Few31 (q : Rat) : Prop := q.num.natAbs < 10 ^ 31 ∧ q.den < 10 ^ 31
theorem intC_len {i : Int} (h : i.natAbs < 10 ^ 31) : (intC i).length ≤ 32 := by
  cases i with
  | ofNat n => exact Nat.le_succ_of_le (natC_len (k := 31) (by decide) h)
  | negSucc n => exact Nat.succ_le_succ (natC_len (k := 31) (by decide) h)
theorem fracC_len {q : Rat} (h : Few31 q) : (fracC q).length ≤ 64 := by
  unfold fracC
  have a := intC_len h.1
  have b := natC_len (k := 31) (by decide) h.2
  split
  · omega
  · rw [List.length_append, List.length_cons]; omega
theorem str_I {i : Int} (h : i.natAbs < 10 ^ 31) : evBlt .str [.int i] = .ok (.str (mkS (intC i)), .sh) := by
  show (if i.natAbs.log2 < 1920 then Res.ok (MP.D.str (toString i : String), Kd.sh) else .stuck) = _
  have : i.natAbs.log2 < 1920 := by
    by_cases e : i.natAbs = 0
    · rw [e]; decide
    · exact (Nat.log2_lt e).mpr (Nat.lt_trans h (by decide +kernel))
  rw [if_pos this, int_str]
theorem add_S {a b : List Nat} (h : a.length + b.length ≤ 16777216) : evBin .add (.str (mkS a)) (.str (mkS b)) = .ok (.str (mkS (a ++ b)), .sh) := by
  show (if (mkS a).length + (mkS b).length ≤ 16777216 then Res.ok (MP.D.str (mkS a ++ mkS b), Kd.sh) else .stuck) = _
  rw [mk_len, mk_len, if_pos h, mk_app]
theorem strs_L : ∀ ps : List (List Nat), strsOf (strL ps) = some (ps.map mkS)
  | [] => rfl
  | p :: ps => by
    show (match strsOf (strL ps) with | some ss => some (mkS p :: ss) | none => none) = _
    rw [strs_L ps]; rfl
theorem sum_mk (ps : List (List Nat)) : ((ps.map mkS).map (·.length)).sum = (ps.map List.length).sum := by
  rw [List.map_map]
  exact congrArg List.sum (List.map_congr_left fun p _ => mk_len p)
theorem join_S {c : Nat} {ps : List (List Nat)} (h : (ps.map List.length).sum + ps.length ≤ 16777216) : joinD (mkS [c]) (.lst (strL ps)) = .ok (.str (mkS (joinL c ps)), .sh) := by
  unfold joinD
  simp only [strs_L]
  rw [sum_mk, List.length_map, mk_len, if_pos (by simpa using h), txt_join]
theorem join_S0 {ps : List (List Nat)} (h : (ps.map List.length).sum ≤ 16777216) : joinD (mkS []) (.lst (strL ps)) = .ok (.str (mkS ps.flatten), .sh) := by
  unfold joinD
  simp only [strs_L]
  rw [sum_mk, List.length_map, mk_len, if_pos (by simpa using h), txt_cat]
theorem sum_le {ps : List (List Nat)} {b : Nat} (h : ∀ p ∈ ps, p.length ≤ b) : (ps.map List.length).sum ≤ ps.length * b := by
  induction ps with
  | nil => exact Nat.zero_le _
  | cons p ps ih =>
    have a := h p List.mem_cons_self
    have := ih fun q hq => h q (List.mem_cons_of_mem _ hq)
    rw [List.map_cons, List.sum_cons, List.length_cons, Nat.succ_mul]
    omega
theorem fraction_shown_ok {q : Rat} (h : Few31 q) : m_fraction_shown [fr q] = .ok (.str (mkS (fracC q)), false) := by
  have n0 := fr_num2 q
  have d0 := fr_den2 q
  have i1 := str_I h.1
  have i2 : evBlt .str [.int (q.den : Nat)] = .ok (.str (mkS (natC q.den)), .sh) := str_I (i := (q.den : Nat)) (by rw [Int.natAbs_natCast]; exact h.2)
  have a := intC_len h.1
  have b := natC_len (k := 31) (by decide) h.2
  refine mir_ret ?_
  unfold b_fraction_shown
  show exSs fuel _ [.sh (fr q)] = _
  by_cases hd : q.den = 1
  · have hf : fracC q = intC q.num := if_pos hd
    rw [hf]
    refine ss_ret ?_
    simp [exSs, exS, evE, evEs, args1, hasBo, d0, hd, n0, i1]
  · have hf : fracC q = intC q.num ++ 47 :: natC q.den := if_neg hd
    rw [hf]
    have hd' : ¬ (q.den : Int) = 1 := by omega
    rw [ss_go (S1 := [.sh (fr q)]) (by
      have : evE (.cmp .eq (.sub (.loc 0) (.int 1)) (.int 1)) [.sh (fr q)] = .ok (.bl false, .sh) := by
        simp only [evE, List.getElem?_cons_zero, Res.bind, d0, ev_eqI, decide_eq_false hd']
      rw [exS, this, bindS_ok]
      rfl)]
    have e1 := add_S (a := intC q.num) (b := [47]) (by simp; omega)
    have e2 := add_S (a := intC q.num ++ [47]) (b := natC q.den) (by simp; omega)
    refine ss_ret ?_
    simp only [exS, evE, evEs, List.getElem?_cons_zero, Res.bind, args1, List.map, n0, d0, i1, i2, s4, e1, e2, bindS_ok]
    rw [List.append_assoc]
    rfl
theorem line_of_ok {ws : List (List Nat)} {n : Nat} {f : Nat → Rat} (hn : n ≤ 24) (hw : ws.length ≤ 10) (hws : ∀ p ∈ ws, p.length ≤ 100) (h : ∀ i, i < n → Few31 (f i)) : m_line_of [.lst (strL ws), rT n f] = .ok (.str (mkS (lineC ws n f ++ [10])), false) := by
  have ec : evE c_line_of_1 [.sh (.lst (strL ws)), .sh (rT n f), .no] = .ok (.lst (strL ((List.range n).map fun i => fracC (f i))), .fr) := by
    rw [c_line_of_1, ev_comp (n := n) (rs := [(rT n f, .sh)]) (fun i => fr (f i)) (fun i => MP.D.str (mkS (fracC (f i)))) (by simp [evEs, evE]) (by simp [hasBo]) rfl (by omega) (fun i hi => ⟨.sh, by decide, by
      have e := fraction_shown_ok (h i hi)
      simp [ce_line_of_1, evE, evEs, args1, hasBo, e]⟩)]
    rw [strL, List.map_map]
    rfl
  have hl : ∀ p ∈ ws ++ (List.range n).map fun i => fracC (f i), p.length ≤ 100 := fun p hp => by
    rcases List.mem_append.mp hp with h1 | h1
    · exact hws p h1
    · obtain ⟨i, hi, rfl⟩ := List.mem_map.mp h1
      have := fracC_len (h i (List.mem_range.mp hi))
      omega
  have hs := sum_le hl
  have hlen : (ws ++ (List.range n).map fun i => fracC (f i)).length ≤ 34 := by rw [List.length_append, List.length_map, List.length_range]; omega
  have hb : ((ws ++ (List.range n).map fun i => fracC (f i)).map List.length).sum ≤ 3400 := Nat.le_trans hs (Nat.mul_le_mul_right 100 hlen)
  have ej := join_S (c := 32) (ps := ws ++ (List.range n).map fun i => fracC (f i)) (by omega)
  have jl := joinL_len (d := 32) (ws ++ (List.range n).map fun i => fracC (f i))
  have ea := add_S (a := lineC ws n f) (b := [10]) (by
    show (joinL 32 _).length + 1 ≤ _
    omega)
  have ab : evBin .add (.lst (strL ws)) (.lst (strL ((List.range n).map fun i => fracC (f i)))) = .ok (.lst (strL (ws ++ (List.range n).map fun i => fracC (f i))), .fr) := by
    show (if (strL ws).length + (strL ((List.range n).map fun i => fracC (f i))).length ≤ 16777216 then Res.ok (MP.D.lst (strL ws ++ strL ((List.range n).map fun i => fracC (f i))), Kd.fr) else .stuck) = _
    rw [if_pos (by rw [strL_len, strL_len]; rw [List.length_append] at hlen; omega)]
    congr 3
    rw [strL, strL, strL, List.map_append]
  refine mir_ret ?_
  unfold b_line_of
  show exSs fuel _ [.sh (.lst (strL ws)), .sh (rT n f), .no] = _
  refine ss_ret ?_
  have e1 : evE (.bin .add (.loc 0) c_line_of_1) [.sh (.lst (strL ws)), .sh (rT n f), .no] = .ok (.lst (strL (ws ++ (List.range n).map fun i => fracC (f i))), .fr) := by
    rw [evE, ec]
    simp only [evE, List.getElem?_cons_zero, Res.bind, ab]
  have e2 : evE (.join " " (.bin .add (.loc 0) c_line_of_1)) [.sh (.lst (strL ws)), .sh (rT n f), .no] = .ok (.str (mkS (lineC ws n f)), .sh) := by
    rw [evE, e1]
    simp only [Res.bind, s5, ej]
    rfl
  rw [exS, evE, e2]
  simp only [evE, Res.bind, s6, ea, bindS_ok]
  rfl
theorem law_shown_part_ok {q : Rat} (h : Few31 q) : m_law_shown_part [fr q] = .ok (.str (mkS (fracC q)), false) := by
  have n0 := fr_num2 q
  have d0 := fr_den2 q
  have i1 := str_I h.1
  have i2 : evBlt .str [.int (q.den : Nat)] = .ok (.str (mkS (natC q.den)), .sh) := str_I (i := (q.den : Nat)) (by rw [Int.natAbs_natCast]; exact h.2)
  have a := intC_len h.1
  have b := natC_len (k := 31) (by decide) h.2
  refine mir_ret ?_
  unfold b_law_shown_part
  show exSs fuel _ [.sh (fr q)] = _
  by_cases hd : q.den = 1
  · have hf : fracC q = intC q.num := if_pos hd
    rw [hf]
    refine ss_ret ?_
    simp [exSs, exS, evE, evEs, args1, hasBo, d0, hd, n0, i1]
  · have hf : fracC q = intC q.num ++ 47 :: natC q.den := if_neg hd
    rw [hf]
    have hd' : ¬ (q.den : Int) = 1 := by omega
    rw [ss_go (S1 := [.sh (fr q)]) (by
      have : evE (.cmp .eq (.sub (.loc 0) (.int 1)) (.int 1)) [.sh (fr q)] = .ok (.bl false, .sh) := by
        simp only [evE, List.getElem?_cons_zero, Res.bind, d0, ev_eqI, decide_eq_false hd']
      rw [exS, this, bindS_ok]
      rfl)]
    have e1 := add_S (a := intC q.num) (b := [47]) (by simp; omega)
    have e2 := add_S (a := intC q.num ++ [47]) (b := natC q.den) (by simp; omega)
    refine ss_ret ?_
    simp only [exS, evE, evEs, List.getElem?_cons_zero, Res.bind, args1, List.map, n0, d0, i1, i2, s4, e1, e2, bindS_ok]
    rw [List.append_assoc]
    rfl
theorem law_line_ok {ws : List (List Nat)} {n : Nat} {f : Nat → Rat} (hn : n ≤ 24) (hw : ws.length ≤ 10) (hws : ∀ p ∈ ws, p.length ≤ 100) (h : ∀ i, i < n → Few31 (f i)) : m_law_line [.lst (strL ws), rT n f] = .ok (.str (mkS (lineC ws n f ++ [10])), false) := by
  have ec : evE c_law_line_1 [.sh (.lst (strL ws)), .sh (rT n f), .no] = .ok (.lst (strL ((List.range n).map fun i => fracC (f i))), .fr) := by
    rw [c_law_line_1, ev_comp (n := n) (rs := [(rT n f, .sh)]) (fun i => fr (f i)) (fun i => MP.D.str (mkS (fracC (f i)))) (by simp [evEs, evE]) (by simp [hasBo]) rfl (by omega) (fun i hi => ⟨.sh, by decide, by
      have e := law_shown_part_ok (h i hi)
      simp [ce_law_line_1, evE, evEs, args1, hasBo, e]⟩)]
    rw [strL, List.map_map]
    rfl
  have hl : ∀ p ∈ ws ++ (List.range n).map fun i => fracC (f i), p.length ≤ 100 := fun p hp => by
    rcases List.mem_append.mp hp with h1 | h1
    · exact hws p h1
    · obtain ⟨i, hi, rfl⟩ := List.mem_map.mp h1
      have := fracC_len (h i (List.mem_range.mp hi))
      omega
  have hs := sum_le hl
  have hlen : (ws ++ (List.range n).map fun i => fracC (f i)).length ≤ 34 := by rw [List.length_append, List.length_map, List.length_range]; omega
  have hb : ((ws ++ (List.range n).map fun i => fracC (f i)).map List.length).sum ≤ 3400 := Nat.le_trans hs (Nat.mul_le_mul_right 100 hlen)
  have ej := join_S (c := 32) (ps := ws ++ (List.range n).map fun i => fracC (f i)) (by omega)
  have jl := joinL_len (d := 32) (ws ++ (List.range n).map fun i => fracC (f i))
  have ea := add_S (a := lineC ws n f) (b := [10]) (by
    show (joinL 32 _).length + 1 ≤ _
    omega)
  have ab : evBin .add (.lst (strL ws)) (.lst (strL ((List.range n).map fun i => fracC (f i)))) = .ok (.lst (strL (ws ++ (List.range n).map fun i => fracC (f i))), .fr) := by
    show (if (strL ws).length + (strL ((List.range n).map fun i => fracC (f i))).length ≤ 16777216 then Res.ok (MP.D.lst (strL ws ++ strL ((List.range n).map fun i => fracC (f i))), Kd.fr) else .stuck) = _
    rw [if_pos (by rw [strL_len, strL_len]; rw [List.length_append] at hlen; omega)]
    congr 3
    rw [strL, strL, strL, List.map_append]
  refine mir_ret ?_
  unfold b_law_line
  show exSs fuel _ [.sh (.lst (strL ws)), .sh (rT n f), .no] = _
  refine ss_ret ?_
  have e1 : evE (.bin .add (.loc 0) c_law_line_1) [.sh (.lst (strL ws)), .sh (rT n f), .no] = .ok (.lst (strL (ws ++ (List.range n).map fun i => fracC (f i))), .fr) := by
    rw [evE, ec]
    simp only [evE, List.getElem?_cons_zero, Res.bind, ab]
  have e2 : evE (.join " " (.bin .add (.loc 0) c_law_line_1)) [.sh (.lst (strL ws)), .sh (rT n f), .no] = .ok (.str (mkS (lineC ws n f)), .sh) := by
    rw [evE, e1]
    simp only [Res.bind, s5, ej]
    rfl
  rw [exS, evE, e2]
  simp only [evE, Res.bind, s6, ea, bindS_ok]
  rfl
theorem looked_mac {m : Mac} (hn : m.n ≤ 24) (k0 : 1 ≤ m.k) (hk : m.k ≤ 4) : m_looked [macD m] = .ok (.tup [.int m.n, .int m.k], false) := by
  have x0 := mac_0 m
  have x1 := mac_1 m
  have x2 := mac_2 m
  obtain ⟨S', l1, s3, s4, l2⟩ := for_tab (f := exSs fuel wb_looked_2) (tg := fun S d => some (S.set 3 (.sh d))) (fun j S => ∃ s3 s4, S = [.sh (macD m), .sh (.int m.n), .sh (.int m.k), s3, s4]) (fun s => sT m.n m.n (m.T s)) (n := m.k) (S := [.sh (macD m), .sh (.int m.n), .sh (.int m.k), .no, .no]) ⟨.no, .no, rfl⟩ (by
    rintro s S hs ⟨s3, s4, rfl⟩
    obtain ⟨S'', i1, s4', i2⟩ := for_tab (f := exSs fuel wb_looked_1) (tg := fun S d => some (S.set 4 (.sh d))) (fun b S => ∃ s4, S = [.sh (macD m), .sh (.int m.n), .sh (.int m.k), .sh (sT m.n m.n (m.T s)), s4]) (fun a => rT m.n (m.T s a)) (n := m.n) (S := [.sh (macD m), .sh (.int m.n), .sh (.int m.k), .sh (sT m.n m.n (m.T s)), s4]) ⟨s4, rfl⟩ (by
      rintro a S ha ⟨s4, rfl⟩
      refine ⟨_, [.sh (macD m), .sh (.int m.n), .sh (.int m.k), .sh (sT m.n m.n (m.T s)), .sh (rT m.n (m.T s a))], rfl, ?_, _, rfl⟩
      simp [wb_looked_1, exSs, exS, evE, evEs, args1, rT_len])
    subst i2
    refine ⟨_, [.sh (macD m), .sh (.int m.n), .sh (.int m.k), .sh (sT m.n m.n (m.T s)), s4'], rfl, ?_, _, _, rfl⟩
    rw [wb_looked_2, ss_go (S1 := [.sh (macD m), .sh (.int m.n), .sh (.int m.k), .sh (sT m.n m.n (m.T s)), s4]) (by simp [exSs, exS, evE, evEs, args1, sT_len]), ss_go (S1 := [.sh (macD m), .sh (.int m.n), .sh (.int m.k), .sh (sT m.n m.n (m.T s)), s4']) (by
      rw [w_looked_1, exS]
      simp [evI, evEs, evE, args1, hasBo, sT, items]
      exact i1)]
    rw [exSs])
  subst l2
  have h1 : ¬ (24 : Int) < (m.n : Int) := by omega
  have h2 : ¬ (m.k : Int) < 1 := by omega
  have h3 : ¬ (4 : Int) < (m.k : Int) := by omega
  refine mir_ret ?_
  unfold b_looked
  show exSs fuel _ [.sh (macD m), .no, .no, .no, .no] = _
  rw [ss_go (S1 := [.sh (macD m), .sh (.int m.n), .no, .no, .no]) (by simp [exS, evE, evEs, args1, x0, rT_len]),
    ss_go (S1 := [.sh (macD m), .sh (.int m.n), .sh (.int m.k), .no, .no]) (by simp [exS, evE, evEs, args1, x1, steps_len]),
    ss_go (S1 := [.sh (macD m), .sh (.int m.n), .sh (.int m.k), .no, .no]) (by
      have c1 : evE (.cmp .gt (.loc 1) (.glo "MOST_ROOMS" (.int 24))) [.sh (macD m), .sh (.int m.n), .sh (.int m.k), .no, .no] = .ok (.bl false, .sh) := by
        simp only [evE, List.getElem?_cons_succ, List.getElem?_cons_zero, Res.bind, evCmp, decide_eq_false h1]
      have c2 : evE (.cmp .ne (.blt .len [(.sub (.loc 0) (.int 2))]) (.loc 1)) [.sh (macD m), .sh (.int m.n), .sh (.int m.k), .no, .no] = .ok (.bl false, .sh) := by
        simp [evE, evEs, args1, x2, rT_len]
      have c3 : evE (.cmp .lt (.loc 2) (.int 1)) [.sh (macD m), .sh (.int m.n), .sh (.int m.k), .no, .no] = .ok (.bl false, .sh) := by
        simp only [evE, List.getElem?_cons_succ, List.getElem?_cons_zero, Res.bind, evCmp, decide_eq_false h2]
      have c4 : evE (.cmp .gt (.loc 2) (.glo "MOST_SIGNS" (.int 4))) [.sh (macD m), .sh (.int m.n), .sh (.int m.k), .no, .no] = .ok (.bl false, .sh) := by
        simp only [evE, List.getElem?_cons_succ, List.getElem?_cons_zero, Res.bind, evCmp, decide_eq_false h3]
      rw [exS, evE, c1]
      simp only [Res.bind]
      rw [evE, c2]
      simp only [Res.bind]
      rw [evE, c3]
      simp only [Res.bind]
      rw [c4]
      simp [isBl, exSs]),
    ss_go (S1 := [.sh (macD m), .sh (.int m.n), .sh (.int m.k), s3, s4]) (by
      rw [w_looked_2, exS]
      simp [evI, evEs, evE, args1, hasBo, x1, items]
      exact l1)]
  simp [exSs, exS, evE, evEs, args1, hasBo]
end MP
set_option Elab.async false
set_option linter.all false
set_option maxRecDepth 100000
set_option maxHeartbeats 4000000
namespace MP
open PySem PySem.Spec PyProof.Rows L2 WM
/-- all numbers of a few figures -/
structure Few (m : Mac) : Prop where
  F : ∀ i, i < m.n → Few31 (m.F i)
  T : ∀ s a b, s < m.k → a < m.n → b < m.n → Few31 (m.T s a b)
  L : ∀ i, i < m.n → Few31 (m.L i)
  n : m.n ≤ 24
  k1 : 1 ≤ m.k
  k4 : m.k ≤ 4
theorem lineC_len {ws : List (List Nat)} {n : Nat} {f : Nat → Rat} (hn : n ≤ 24) (hw : ws.length ≤ 10) (hws : ∀ p ∈ ws, p.length ≤ 100) (h : ∀ i, i < n → Few31 (f i)) : (lineC ws n f).length ≤ 3500 := by
  have hl : ∀ p ∈ ws ++ (List.range n).map fun i => fracC (f i), p.length ≤ 100 := fun p hp => by
    rcases List.mem_append.mp hp with h1 | h1
    · exact hws p h1
    · obtain ⟨i, hi, rfl⟩ := List.mem_map.mp h1
      have := fracC_len (h i (List.mem_range.mp hi))
      omega
  have hs := sum_le hl
  have hlen : (ws ++ (List.range n).map fun i => fracC (f i)).length ≤ 34 := by rw [List.length_append, List.length_map, List.length_range]; omega
  have hb : ((ws ++ (List.range n).map fun i => fracC (f i)).map List.length).sum ≤ 3400 := Nat.le_trans hs (Nat.mul_le_mul_right 100 hlen)
  have jl := joinL_len (d := 32) (ws ++ (List.range n).map fun i => fracC (f i))
  show (joinL 32 _).length ≤ _
  omega
theorem few_nat {n : Nat} (h : n ≤ 1000) : ((n : Nat) : Int).natAbs < 10 ^ 31 := by
  rw [Int.natAbs_natCast]
  exact Nat.lt_of_le_of_lt h (by decide +kernel)
theorem natC_small {n : Nat} (h : n ≤ 1000) : (natC n).length ≤ 31 := natC_len (by decide) (Nat.lt_of_le_of_lt h (by decide +kernel))
theorem stW_len {s a : Nat} (hs : s ≤ 1000) (ha : a ≤ 1000) : ∀ p ∈ stW s a, p.length ≤ 100 := fun p hp => by
  have h1 := natC_small hs
  have h2 := natC_small ha
  have hp : p = stepC ∨ p = natC s ∨ p = natC a := by simpa [stW] using hp
  rcases hp with rfl | rfl | rfl
  · decide
  · omega
  · omega
theorem headC_len {n k : Nat} (hn : n ≤ 1000) (hk : k ≤ 1000) : (headC n k).length ≤ 100 := by
  have h1 := natC_small hn
  have h2 := natC_small hk
  show (machC ++ 32 :: (natC n ++ 32 :: natC k)).length ≤ 100
  simp [machC]
  omega
theorem linesM_len {m : Mac} (h : Few m) : ∀ p ∈ linesM m, p.length ≤ 3500 := fun p hp => by
  have hn := h.n
  have hk := h.k4
  rcases List.mem_append.mp hp with hp | hp
  · have hp : p = headC m.n m.k ∨ p = lineC [firstC] m.n m.F ∨ p = lineC [lastC] m.n m.L := by simpa using hp
    rcases hp with rfl | rfl | rfl
    · have := headC_len (n := m.n) (k := m.k) (by omega) (by omega); omega
    · exact lineC_len hn (by decide) (fun p hp => by rw [List.mem_singleton.mp hp]; decide) h.F
    · exact lineC_len hn (by decide) (fun p hp => by rw [List.mem_singleton.mp hp]; decide) h.L
  · obtain ⟨l, hl, hpl⟩ := List.mem_flatten.mp hp
    obtain ⟨s, hs, rfl⟩ := List.mem_map.mp hl
    obtain ⟨a, ha, rfl⟩ := List.mem_map.mp hpl
    have hs := List.mem_range.mp hs
    have ha := List.mem_range.mp ha
    exact lineC_len hn (by show 3 ≤ 10; decide) (stW_len (by omega) (by omega)) fun b hb => h.T s a b hs ha hb
theorem linesM_count (m : Mac) : (linesM m).length = 3 + m.k * m.n := by
  unfold linesM
  rw [List.length_append, stepL_len]; rfl
theorem count_le {m : Mac} (h : Few m) : m.k * m.n ≤ 96 := Nat.le_trans (Nat.mul_le_mul h.k4 h.n) (by decide)
theorem text_sum {m : Mac} (h : Few m) : (((linesM m).map (· ++ [10])).map List.length).sum ≤ 400000 := by
  have h1 : ∀ p ∈ (linesM m).map (· ++ [10]), p.length ≤ 3501 := fun p hp => by
    obtain ⟨q, hq, rfl⟩ := List.mem_map.mp hp
    have := linesM_len h q hq
    rw [List.length_append, List.length_singleton]; omega
  have h2 := sum_le h1
  rw [List.length_map, linesM_count] at h2
  have h3 := count_le h
  have h4 : (3 + m.k * m.n) * 3501 ≤ 99 * 3501 := Nat.mul_le_mul_right _ (by omega)
  omega
/-- the lines written so far -/
def ln10 (m : Mac) (s a : Nat) : List Nat := lineC (stW s a) m.n (m.T s a) ++ [10]
def base10 (m : Mac) : List (List Nat) := [headC m.n m.k ++ [10], lineC [firstC] m.n m.F ++ [10], lineC [lastC] m.n m.L ++ [10]]
theorem all10 (m : Mac) : base10 m ++ stepL m.k m.n (ln10 m) = (linesM m).map (· ++ [10]) := by
  unfold linesM
  rw [List.map_append, stepL_map]; rfl
theorem strL_app (a b : List (List Nat)) : strL (a ++ b) = strL a ++ strL b := List.map_append
theorem ev_call2f {x : Str} {f : Fn} {a b : ME} {S : List SV} {d1 d2 r : D} (h1 : evE a S = .ok (d1, .fr)) (h2 : evE b S = .ok (d2, .sh)) (h3 : f [d1, d2] = .ok (r, false)) : evE (.call x f [a, b]) S = .ok (r, .sh) := by
  simp [evE, evEs, args1, hasBo, h1, h2, h3]
theorem ev_lst3 {a b c : ME} {S : List SV} {d1 d2 d3 : D} (h1 : evE a S = .ok (d1, .sh)) (h2 : evE b S = .ok (d2, .sh)) (h3 : evE c S = .ok (d3, .sh)) : evE (.lst [a, b, c]) S = .ok (.lst [d1, d2, d3], .fr) := by
  simp [evE, evEs, args1, hasBo, h1, h2, h3]
theorem ev_blt1 {a : ME} {b : Blt} {S : List SV} {d r : D} (h1 : evE a S = .ok (d, .sh)) (h2 : evBlt b [d] = .ok (r, .sh)) : evE (.blt b [a]) S = .ok (r, .sh) := by
  simp [evE, evEs, args1, h1, h2]
theorem step_get {m : Mac} {s a : Nat} (hs : s < m.k) (ha : a < m.n) : ∀ S : List SV, S[0]? = some (.sh (macD m)) → ∀ i j, S[i]? = some (.sh (.int s)) → S[j]? = some (.sh (.int a)) → evE (.sub (.sub (.sub (.loc 0) (.int 1)) (.loc i)) (.loc j)) S = .ok (rT m.n (m.T s a), .sh) := fun S h0 i j hi hj => by
  have x1 := mac_1 m
  have x2 := mac_s hs
  have x3 := sT_get (n := m.n) (m := m.n) (T := m.T s) ha
  simp only [evE, h0, hi, hj, Res.bind, x1, x2, x3]
theorem head_str {m : Mac} (h : Few m) : evBin .add (.str (mkS (machC ++ [32]))) (.str (mkS (natC m.n))) = .ok (.str (mkS (machC ++ [32] ++ natC m.n)), .sh) ∧ evBin .add (.str (mkS (machC ++ [32] ++ natC m.n))) (.str (mkS [32])) = .ok (.str (mkS (machC ++ [32] ++ natC m.n ++ [32])), .sh) ∧
    evBin .add (.str (mkS (machC ++ [32] ++ natC m.n ++ [32]))) (.str (mkS (natC m.k))) = .ok (.str (mkS (machC ++ [32] ++ natC m.n ++ [32] ++ natC m.k)), .sh) ∧ evBin .add (.str (mkS (machC ++ [32] ++ natC m.n ++ [32] ++ natC m.k))) (.str (mkS [10])) = .ok (.str (mkS (headC m.n m.k ++ [10])), .sh) := by
  have h1 := natC_small (n := m.n) (by have := h.n; omega)
  have h2 := natC_small (n := m.k) (by have := h.k4; omega)
  refine ⟨add_S (by simp [machC]; omega), add_S (by simp [machC]; omega), add_S (by simp [machC]; omega), ?_⟩
  rw [add_S (by simp [machC]; omega)]
  have e : machC ++ [32] ++ natC m.n ++ [32] ++ natC m.k ++ [10] = headC m.n m.k ++ [10] := by
    show _ = (machC ++ 32 :: (natC m.n ++ 32 :: natC m.k)) ++ [10]
    simp
  rw [e]
theorem shown_ok {m : Mac} (h : Few m) : m_shown [macD m] = .ok (.str (mkS (textC m)), false) := by
  have hn := h.n
  have hk := h.k4
  have lk := looked_mac h.n h.k1 h.k4
  have x0 := mac_0 m
  have x2 := mac_2 m
  have sn : evBlt .str [.int (m.n : Nat)] = .ok (.str (mkS (natC m.n)), .sh) := str_I (i := (m.n : Nat)) (few_nat (by omega))
  have sk : evBlt .str [.int (m.k : Nat)] = .ok (.str (mkS (natC m.k)), .sh) := str_I (i := (m.k : Nat)) (few_nat (by omega))
  obtain ⟨p0, p1, p2, p3, e0, a1, a2, a3, a4⟩ : ∃ p0 p1 p2 p3 : Str, (("machine " : String) : Str) = p0 ∧ evBin .add (.str p0) (.str (mkS (natC m.n))) = .ok (.str p1, .sh) ∧ evBin .add (.str p1) (.str (mkS [32])) = .ok (.str p2, .sh) ∧
      evBin .add (.str p2) (.str (mkS (natC m.k))) = .ok (.str p3, .sh) ∧ evBin .add (.str p3) (.str (mkS [10])) = .ok (.str (mkS (headC m.n m.k ++ [10])), .sh) := ⟨_, _, _, _, t2, head_str h⟩
  have g0 : evSub (.tup [.int (m.n : Nat), .int (m.k : Nat)]) (.int 0) = .ok (.int (m.n : Nat), .sh) := by simp [evSub]
  have g1 : evSub (.tup [.int (m.n : Nat), .int (m.k : Nat)]) (.int 1) = .ok (.int (m.k : Nat), .sh) := by simp [evSub]
  have lf := line_of_ok (ws := [firstC]) hn (by decide) (fun p hp => by rw [List.mem_singleton.mp hp]; decide) h.F
  have ll := line_of_ok (ws := [lastC]) hn (by decide) (fun p hp => by rw [List.mem_singleton.mp hp]; decide) h.L
  have cl := count_le h
  obtain ⟨S', l1, s3, s4, l2⟩ := for_rng (f := exSs fuel wb_shown_2) (tg := fun S d => some (S.set 3 (.sh d))) (fun j S => ∃ s3 s4, S = [.sh (macD m), .sh (.tup [.int (m.n : Nat), .int (m.k : Nat)]), .ow (strL (base10 m ++ stepL j m.n (ln10 m))), s3, s4]) (n := m.k)
    (S := [.sh (macD m), .sh (.tup [.int (m.n : Nat), .int (m.k : Nat)]), .ow (strL (base10 m)), .no, .no]) ⟨.no, .no, by show _ = [_, _, SV.ow (strL (base10 m ++ [])), _, _]; rw [List.append_nil]⟩ (by
    rintro s S hs ⟨s3, s4, rfl⟩
    obtain ⟨S'', i1, s4', i2⟩ := for_rng (f := exSs fuel wb_shown_1) (tg := fun S d => some (S.set 4 (.sh d))) (fun a S => ∃ s4, S = [.sh (macD m), .sh (.tup [.int (m.n : Nat), .int (m.k : Nat)]), .ow (strL (base10 m ++ stepL s m.n (ln10 m) ++ (List.range a).map fun a => ln10 m s a)), .sh (.int s), s4]) (n := m.n)
      (S := [.sh (macD m), .sh (.tup [.int (m.n : Nat), .int (m.k : Nat)]), .ow (strL (base10 m ++ stepL s m.n (ln10 m))), .sh (.int s), s4]) ⟨s4, by simp⟩ (by
      rintro a S ha ⟨s4, rfl⟩
      have ss : evBlt .str [.int (s : Nat)] = .ok (.str (mkS (natC s)), .sh) := str_I (i := (s : Nat)) (few_nat (by omega))
      have sa : evBlt .str [.int (a : Nat)] = .ok (.str (mkS (natC a)), .sh) := str_I (i := (a : Nat)) (few_nat (by omega))
      have e := line_of_ok (ws := stW s a) (n := m.n) (f := m.T s a) hn (by show 3 ≤ 10; decide) (stW_len (by omega) (by omega)) fun b hb => h.T s a b hs ha hb
      have eg := step_get hs ha [.sh (macD m), .sh (.tup [.int (m.n : Nat), .int (m.k : Nat)]), .ow (strL (base10 m ++ stepL s m.n (ln10 m) ++ (List.range a).map fun a => ln10 m s a)), .sh (.int s), .sh (.int a)] rfl 3 4 rfl rfl
      have hlt : (strL (base10 m ++ stepL s m.n (ln10 m) ++ (List.range a).map fun a => ln10 m s a)).length < 16777216 := by
        rw [strL_len, List.length_append, List.length_append, stepL_len, List.length_map, List.length_range]
        have h1 : s * m.n ≤ 4 * 24 := Nat.mul_le_mul (by omega) hn
        show 3 + s * m.n + a < _
        omega
      have ec : evE (.call "line_of" m_line_of [(.lst [(.str "step"), (.blt .str [(.loc 3)]), (.blt .str [(.loc 4)])]), (.sub (.sub (.sub (.loc 0) (.int 1)) (.loc 3)) (.loc 4))]) [.sh (macD m), .sh (.tup [.int (m.n : Nat), .int (m.k : Nat)]), .ow (strL (base10 m ++ stepL s m.n (ln10 m) ++ (List.range a).map fun a => ln10 m s a)), .sh (.int s), .sh (.int a)] = .ok (.str (mkS (ln10 m s a)), .sh) := by
        have el : evE (.lst [(.str "step"), (.blt .str [(.loc 3)]), (.blt .str [(.loc 4)])]) [.sh (macD m), .sh (.tup [.int (m.n : Nat), .int (m.k : Nat)]), .ow (strL (base10 m ++ stepL s m.n (ln10 m) ++ (List.range a).map fun a => ln10 m s a)), .sh (.int s), .sh (.int a)] = .ok (.lst (strL (stW s a)), .fr) := by
          exact ev_lst3 (d1 := .str (mkS stepC)) (by rw [evE, t5]) (ev_blt1 rfl ss) (ev_blt1 rfl sa)
        exact ev_call2f el eg e
      refine ⟨_, [.sh (macD m), .sh (.tup [.int (m.n : Nat), .int (m.k : Nat)]), .ow (strL (base10 m ++ stepL s m.n (ln10 m) ++ (List.range (a + 1)).map fun a => ln10 m s a)), .sh (.int s), .sh (.int a)], rfl, ?_, _, rfl⟩
      have er : strL (base10 m ++ stepL s m.n (ln10 m) ++ (List.range (a + 1)).map fun a => ln10 m s a) = strL (base10 m ++ stepL s m.n (ln10 m) ++ (List.range a).map fun a => ln10 m s a) ++ [.str (mkS (ln10 m s a))] := by
        rw [List.range_succ, List.map_append, ← List.append_assoc, strL_app _ (List.map _ [a])]; rfl
      rw [er, wb_shown_1, exSs, exS]
      show (match (match (bindS _ (evE _ [.sh (macD m), .sh (.tup [.int (m.n : Nat), .int (m.k : Nat)]), .ow (strL (base10 m ++ stepL s m.n (ln10 m) ++ (List.range a).map fun a => ln10 m s a)), .sh (.int s), .sh (.int a)]) _) with | r => r) with | .nx S1 => exSs fuel [] S1 | r => r) = _
      rw [ec, bindS_ok]
      simp only [if_pos hlt]
      rfl)
    subst i2
    refine ⟨_, [.sh (macD m), .sh (.tup [.int (m.n : Nat), .int (m.k : Nat)]), .ow (strL (base10 m ++ stepL (s + 1) m.n (ln10 m))), .sh (.int s), s4'], rfl, ?_, _, _, rfl⟩
    have it : evI .range1 [(.sub (.loc 1) (.int 0))] [.sh (macD m), .sh (.tup [.int (m.n : Nat), .int (m.k : Nat)]), .ow (strL (base10 m ++ stepL s m.n (ln10 m))), .sh (.int s), s4] = .ok ((List.range m.n).map fun i : Nat => MP.D.int i) := by
      rw [← items_rng m.n (by omega)]; simp [evI, evEs, evE, args1, hasBo, g0]
    rw [wb_shown_2, ss_go (S1 := [.sh (macD m), .sh (.tup [.int (m.n : Nat), .int (m.k : Nat)]), .ow (strL (base10 m ++ stepL (s + 1) m.n (ln10 m))), .sh (.int s), s4']) (by
      rw [w_shown_1, exS]
      show bindS _ (evI .range1 [(.sub (.loc 1) (.int 0))] [.sh (macD m), .sh (.tup [.int (m.n : Nat), .int (m.k : Nat)]), .ow (strL (base10 m ++ stepL s m.n (ln10 m))), .sh (.int s), s4]) _ = _
      rw [it, bindS_ok, stepL_succ, ← List.append_assoc]
      exact i1), exSs])
  subst l2
  have it : evI .range1 [(.sub (.loc 1) (.int 1))] [.sh (macD m), .sh (.tup [.int (m.n : Nat), .int (m.k : Nat)]), .ow (strL (base10 m)), .no, .no] = .ok ((List.range m.k).map fun i : Nat => MP.D.int i) := by
    rw [← items_rng m.k (by omega)]; simp [evI, evEs, evE, args1, hasBo, g1]
  have jn := join_S0 (ps := (linesM m).map (· ++ [10])) (by have := text_sum h; omega)
  refine mir_ret ?_
  unfold b_shown
  show exSs fuel _ [.sh (macD m), .no, .no, .no, .no] = _
  have t3' : MP.D.str (("first" : String) : Str) = .str (mkS firstC) := by rw [t3]
  have t4' : MP.D.str (("last" : String) : Str) = .str (mkS lastC) := by rw [t4]
  have lf' : m_line_of [.lst [.str (mkS firstC)], rT m.n m.F] = .ok (.str (mkS (lineC [firstC] m.n m.F ++ [10])), false) := lf
  have ll' : m_line_of [.lst [.str (mkS lastC)], rT m.n m.L] = .ok (.str (mkS (lineC [lastC] m.n m.L ++ [10])), false) := ll
  rw [ss_go (S1 := [.sh (macD m), .sh (.tup [.int (m.n : Nat), .int (m.k : Nat)]), .no, .no, .no]) (by simp [exS, evE, evEs, args1, hasBo, lk]),
    ss_go (S1 := [.sh (macD m), .sh (.tup [.int (m.n : Nat), .int (m.k : Nat)]), .ow [.str (mkS (headC m.n m.k ++ [10]))], .no, .no]) (by
      simp [exS, evE, evEs, args1, hasBo, g0, g1, sn, sk, e0, s5, s6, a1, a2, a3, a4]),
    ss_go (S1 := [.sh (macD m), .sh (.tup [.int (m.n : Nat), .int (m.k : Nat)]), .ow [.str (mkS (headC m.n m.k ++ [10])), .str (mkS (lineC [firstC] m.n m.F ++ [10]))], .no, .no]) (by simp [exS, evE, evEs, args1, hasBo, x0, t3', lf']),
    ss_go (S1 := [.sh (macD m), .sh (.tup [.int (m.n : Nat), .int (m.k : Nat)]), .ow (strL (base10 m)), .no, .no]) (by simp [exS, evE, evEs, args1, hasBo, x2, t4', ll']; rfl),
    ss_go (S1 := [.sh (macD m), .sh (.tup [.int (m.n : Nat), .int (m.k : Nat)]), .ow (strL (base10 m ++ stepL m.k m.n (ln10 m))), s3, s4]) (by
      rw [w_shown_2, exS, it, bindS_ok]
      exact l1)]
  rw [all10]
  refine ss_ret ?_
  simp only [exS, evE, List.getElem?_cons_succ, List.getElem?_cons_zero, Res.bind, s0, jn, bindS_ok]
  rfl
end MP
set_option Elab.async false
set_option linter.all false
set_option maxRecDepth 100000
set_option maxHeartbeats 4000000
namespace MP
open PySem PySem.Spec PyProof.Rows L2 WM
/-- numbers that the reader takes -/
def Few30 (q : Rat) : Prop := q.num.natAbs < 10 ^ 30 ∧ q.den < 10 ^ 30
theorem Few30.few {q : Rat} (h : Few30 q) : Few31 q := ⟨Nat.lt_trans h.1 (by decide +kernel), Nat.lt_trans h.2 (by decide +kernel)⟩
structure Rd (m : Mac) : Prop where
  F : ∀ i, i < m.n → Few30 (m.F i)
  T : ∀ s a b, s < m.k → a < m.n → b < m.n → Few30 (m.T s a b)
  L : ∀ i, i < m.n → Few30 (m.L i)
  n : m.n ≤ 24
  k1 : 1 ≤ m.k
  k4 : m.k ≤ 4
theorem Rd.few {m : Mac} (h : Rd m) : Few m := ⟨fun i hi => (h.F i hi).few, fun s a b hs ha hb => (h.T s a b hs ha hb).few, fun i hi => (h.L i hi).few, h.n, h.k1, h.k4⟩
theorem Asc.free {l : List Nat} (h : Asc l) {c : Nat} (hc : c < 45) : c ∉ l := fun hm => by have := h c hm; omega
theorem lineC_ch {ws : List (List Nat)} {n : Nat} {f : Nat → Rat} (hw : ∀ p ∈ ws, Asc p) : ∀ c ∈ lineC ws n f, c = 32 ∨ (45 ≤ c ∧ c ≤ 122) := fun c hc => by
  rcases joinL_mem hc with h | ⟨p, hp, h⟩
  · exact .inl h
  · refine .inr ?_
    rcases List.mem_append.mp hp with hp | hp
    · exact hw p hp c h
    · obtain ⟨i, _, rfl⟩ := List.mem_map.mp hp
      exact fracC_asc (f i) c h
theorem firstA : ∀ p ∈ [firstC], Asc p := fun p hp => by rw [List.mem_singleton.mp hp]; intro c hc; exact (by decide : ∀ c ∈ firstC, 45 ≤ c ∧ c ≤ 122) c hc
theorem lastA : ∀ p ∈ [lastC], Asc p := fun p hp => by rw [List.mem_singleton.mp hp]; intro c hc; exact (by decide : ∀ c ∈ lastC, 45 ≤ c ∧ c ≤ 122) c hc
theorem stA (s a : Nat) : ∀ p ∈ stW s a, Asc p := fun p hp => by
  have hp : p = stepC ∨ p = natC s ∨ p = natC a := by simpa [stW] using hp
  rcases hp with rfl | rfl | rfl
  · intro c hc; exact (by decide : ∀ c ∈ stepC, 45 ≤ c ∧ c ≤ 122) c hc
  · exact natC_asc s
  · exact natC_asc a
theorem headA (n k : Nat) : ∀ p ∈ [machC, natC n, natC k], Asc p := fun p hp => by
  have hp : p = machC ∨ p = natC n ∨ p = natC k := by simpa using hp
  rcases hp with rfl | rfl | rfl
  · intro c hc; exact (by decide : ∀ c ∈ machC, 45 ≤ c ∧ c ≤ 122) c hc
  · exact natC_asc n
  · exact natC_asc k
theorem lines_ch (m : Mac) : ∀ p ∈ linesM m, ∀ c ∈ p, c = 32 ∨ (45 ≤ c ∧ c ≤ 122) := fun p hp c hc => by
  rcases List.mem_append.mp hp with hp | hp
  · have hp : p = headC m.n m.k ∨ p = lineC [firstC] m.n m.F ∨ p = lineC [lastC] m.n m.L := by simpa using hp
    rcases hp with rfl | rfl | rfl
    · rcases joinL_mem hc with h | ⟨p, hp, h⟩
      · exact .inl h
      · exact .inr (headA _ _ p hp c h)
    · exact lineC_ch firstA c hc
    · exact lineC_ch lastA c hc
  · obtain ⟨l, hl, hpl⟩ := List.mem_flatten.mp hp
    obtain ⟨s, hs, rfl⟩ := List.mem_map.mp hl
    obtain ⟨a, ha, rfl⟩ := List.mem_map.mp hpl
    exact lineC_ch (stA s a) c hc
theorem textC_lay (m : Mac) : Lay (textC m) := fun c hc => by
  obtain ⟨l, hl, h⟩ := List.mem_flatten.mp hc
  obtain ⟨p, hp, rfl⟩ := List.mem_map.mp hl
  rcases List.mem_append.mp h with h | h
  · have := lines_ch m p hp c h; omega
  · rw [List.mem_singleton.mp h]; omega
theorem text_split (m : Mac) : splitL 10 (textC m) = linesM m ++ [[]] := by
  unfold textC
  rw [← joinL_end]
  refine split_joinL (by simp) fun p hp hm => ?_
  rcases List.mem_append.mp hp with hp | hp
  · have := lines_ch m p hp 10 hm; omega
  · rw [List.mem_singleton.mp hp] at hm; cases hm
theorem text_len {m : Mac} (h : Few m) : (textC m).length ≤ 400000 := by
  unfold textC
  rw [List.length_flatten]
  exact text_sum h
theorem row_line {ws : List (List Nat)} {n : Nat} {f : Nat → Rat} (hn : n ≤ 24) (h0 : ws ≠ []) (hw : ws.length ≤ 10) (hl : ∀ p ∈ ws, p.length ≤ 100) (ha : ∀ p ∈ ws, Asc p) (h : ∀ i, i < n → Few30 (f i)) : m_row_of [.str (mkS (lineC ws n f)), .lst (strL ws), .int (n : Nat)] = .ok (rT n f, false) := by
  have e : splitL 32 (lineC ws n f) = ws ++ (List.range n).map fun i => fracC (f i) := split_joinL (by cases ws with
    | nil => exact absurd rfl h0
    | cons => simp) fun p hp hm => by
    rcases List.mem_append.mp hp with hp | hp
    · exact (ha p hp).free (by decide) hm
    · obtain ⟨i, _, rfl⟩ := List.mem_map.mp hp
      exact (fracC_asc (f i)).free (by decide) hm
  have hlen := lineC_len hn hw hl fun i hi => (h i hi).few
  have r := row_of_ok (ps := (List.range n).map fun i => ((f i).num, ((f i).den : Int))) e (by omega) (fun c hc => by have := lineC_ch ha c hc; omega) (by
    rw [List.map_map, List.map_map]
    refine List.map_congr_left fun i hi => ?_
    have := h i (List.mem_range.mp hi)
    exact fracV_frac this.1 this.2)
  rw [List.length_map, List.length_range, List.map_map] at r
  exact r
theorem linesS_get {m : Mac} {s a : Nat} (hs : s < m.k) (ha : a < m.n) : (linesM m ++ [[]])[3 + (s * m.n + a)]? = some (lineC (stW s a) m.n (m.T s a)) := by
  have h := stepL_get (n := m.n) (fun s a => lineC (stW s a) m.n (m.T s a)) hs ha
  have hlt : s * m.n + a < (stepL m.k m.n fun s a => lineC (stW s a) m.n (m.T s a)).length := by
    have := List.getElem?_eq_some_iff.mp h
    exact this.1
  unfold linesM
  rw [List.append_assoc, List.getElem?_append_right (by simp), List.getElem?_append_left (by simpa using hlt)]
  simpa using h
theorem num_nat {n : Nat} (h : n ≤ 1000) : m_number_of [.str (mkS (natC n))] = .ok (.int (n : Nat), false) := by
  rw [number_of_ok (by have := natC_small h; omega) (natC_asc n).lay, numV_nat (Nat.lt_of_le_of_lt h (by decide +kernel))]
  rfl
theorem ev_orF {a b : ME} {S : List SV} (h1 : evE a S = .ok (.bl false, .sh)) (h2 : evE b S = .ok (.bl false, .sh)) : evE (.or a b) S = .ok (.bl false, .sh) := by
  rw [evE, h1]
  simp only [Res.bind]
  rw [h2]
  simp [isBl]
/-- what the reader has behind it after the head -/
theorem read_ok {m : Mac} (h : Rd m) : m_read [.str (mkS (textC m))] = .ok (macD m, false) := by
  have hn := h.n
  have hk := h.k4
  have lk := looked_mac h.n h.k1 h.k4
  have hlen := text_len h.few
  have cl := count_le h.few
  have LL : (linesM m ++ [[]]).length = 4 + m.n * m.k := by rw [List.length_append, linesM_count, Nat.mul_comm m.n]; simp; omega
  have es : splitD "\n" (.str (mkS (textC m))) = .ok (.lst (strL (linesM m ++ [[]])), .fr) := by rw [s6, split_S2 10 (by omega), text_split]; rfl
  have g0 : evSub (.lst (strL (linesM m ++ [[]]))) (.int 0) = .ok (.str (mkS (headC m.n m.k)), .sh) := strL_get (j := 0) rfl
  have g1 : evSub (.lst (strL (linesM m ++ [[]]))) (.int 1) = .ok (.str (mkS (lineC [firstC] m.n m.F)), .sh) := strL_get (j := 1) rfl
  have g2 : evSub (.lst (strL (linesM m ++ [[]]))) (.int 2) = .ok (.str (mkS (lineC [lastC] m.n m.L)), .sh) := strL_get (j := 2) rfl
  have gl : evSub (.lst (strL (linesM m ++ [[]]))) (.int (-1)) = .ok (.str (mkS []), .sh) := by
    have e : strL (linesM m ++ [[]]) = strL (linesM m) ++ [.str (mkS [])] := by rw [strL_app]; rfl
    rw [e]
    show (match atI (strL (linesM m) ++ [.str (mkS [])]) (-1) with | some d => Res.ok (d, Kd.sh) | none => .stuck) = _
    rw [atI_last]
  have lb : evBlt .len [.lst (strL (linesM m ++ [[]]))] = .ok (.int ((4 + m.n * m.k : Nat) : Int), .sh) := by rw [blt_len_l2, strL_len, LL]
  have hs : splitL 32 (headC m.n m.k) = [machC, natC m.n, natC m.k] := split_joinL (by simp) fun p hp hm => (headA m.n m.k p hp).free (by decide) hm
  have hh := headC_len (n := m.n) (k := m.k) (by omega) (by omega)
  have eh : splitD " " (.str (mkS (headC m.n m.k))) = .ok (.lst (strL [machC, natC m.n, natC m.k]), .fr) := by rw [s5, split_S2 32 (by omega), hs]; rfl
  have nn := num_nat (n := m.n) (by omega)
  have nk := num_nat (n := m.k) (by omega)
  have h0 : evSub (.lst (strL [machC, natC m.n, natC m.k])) (.int 0) = .ok (.str (mkS machC), .sh) := strL_get (j := 0) rfl
  have h1 : evSub (.lst (strL [machC, natC m.n, natC m.k])) (.int 1) = .ok (.str (mkS (natC m.n)), .sh) := strL_get (j := 1) rfl
  have h2 : evSub (.lst (strL [machC, natC m.n, natC m.k])) (.int 2) = .ok (.str (mkS (natC m.k)), .sh) := strL_get (j := 2) rfl
  have l3 : evBlt .len [.lst (strL [machC, natC m.n, natC m.k])] = .ok (.int 3, .sh) := rfl
  have ne0 := ev_neS (a := machC) (b := machC) (lay_lit machC (by decide)) (lay_lit machC (by decide))
  rw [decide_eq_true rfl] at ne0
  have ne1 := ev_neS (a := []) (b := []) (lay_lit [] (by decide)) (lay_lit [] (by decide))
  rw [decide_eq_true rfl] at ne1
  have rf := row_line (ws := [firstC]) hn (by simp) (by decide) (fun p hp => by rw [List.mem_singleton.mp hp]; decide) firstA h.F
  have rl := row_line (ws := [lastC]) hn (by simp) (by decide) (fun p hp => by rw [List.mem_singleton.mp hp]; decide) lastA h.L
  have rf' : m_row_of [.str (mkS (lineC [firstC] m.n m.F)), .lst [.str (mkS firstC)], .int (m.n : Nat)] = .ok (rT m.n m.F, false) := rf
  have rl' : m_row_of [.str (mkS (lineC [lastC] m.n m.L)), .lst [.str (mkS lastC)], .int (m.n : Nat)] = .ok (rT m.n m.L, false) := rl
  generalize eT : textC m = tx at es
  generalize eL : strL (linesM m ++ [[]]) = LS at es g0 g1 g2 gl lb
  generalize eH : strL [machC, natC m.n, natC m.k] = HD at eh h0 h1 h2 l3
  obtain ⟨S', l1, s8, s9, s10, l2⟩ := for_rng (f := exSs fuel wb_read_2) (tg := fun S d => some (S.set 8 (.sh d))) (fun s S => ∃ s8 s9 s10, S = [.sh (.str (mkS tx)), .sh (.lst LS), .sh (.lst HD), .sh (.int (m.n : Nat)), .sh (.int (m.k : Nat)), .sh (rT m.n m.F), .sh (rT m.n m.L), .ow ((List.range s).map fun s => sT m.n m.n (m.T s)), s8, s9, s10, .no]) (n := m.k)
    (S := [.sh (.str (mkS tx)), .sh (.lst LS), .sh (.lst HD), .sh (.int (m.n : Nat)), .sh (.int (m.k : Nat)), .sh (rT m.n m.F), .sh (rT m.n m.L), .ow [], .no, .no, .no, .no]) ⟨.no, .no, .no, rfl⟩ (by
    rintro s S hs ⟨s8, s9, s10, rfl⟩
    obtain ⟨S'', i1, s10', i2⟩ := for_rng (f := exSs fuel wb_read_1) (tg := fun S d => some (S.set 10 (.sh d))) (fun a S => ∃ s10, S = [.sh (.str (mkS tx)), .sh (.lst LS), .sh (.lst HD), .sh (.int (m.n : Nat)), .sh (.int (m.k : Nat)), .sh (rT m.n m.F), .sh (rT m.n m.L), .ow ((List.range s).map fun s => sT m.n m.n (m.T s)), .sh (.int s), .ow ((List.range a).map fun a => rT m.n (m.T s a)), s10, .no]) (n := m.n)
      (S := [.sh (.str (mkS tx)), .sh (.lst LS), .sh (.lst HD), .sh (.int (m.n : Nat)), .sh (.int (m.k : Nat)), .sh (rT m.n m.F), .sh (rT m.n m.L), .ow ((List.range s).map fun s => sT m.n m.n (m.T s)), .sh (.int s), .ow [], s10, .no]) ⟨s10, rfl⟩ (by
      rintro a S ha ⟨s10, rfl⟩
      have ss : evBlt .str [.int (s : Nat)] = .ok (.str (mkS (natC s)), .sh) := str_I (i := (s : Nat)) (few_nat (by omega))
      have sa : evBlt .str [.int (a : Nat)] = .ok (.str (mkS (natC a)), .sh) := str_I (i := (a : Nat)) (few_nat (by omega))
      have r := row_line (ws := stW s a) hn (by simp [stW]) (by show 3 ≤ 10; decide) (stW_len (by omega) (by omega)) (stA s a) (h.T s a · hs ha)
      have r' : m_row_of [.str (mkS (lineC (stW s a) m.n (m.T s a))), .lst [.str (mkS stepC), .str (mkS (natC s)), .str (mkS (natC a))], .int (m.n : Nat)] = .ok (rT m.n (m.T s a), false) := r
      have gs : evSub (.lst LS) (.int (3 + (s : Int) * m.n + a)) = .ok (.str (mkS (lineC (stW s a) m.n (m.T s a))), .sh) := by
        rw [← eL, show 3 + (s : Int) * m.n + a = ((3 + (s * m.n + a) : Nat) : Int) by push_cast; omega]
        exact strL_get (linesS_get hs ha)
      refine ⟨_, [.sh (.str (mkS tx)), .sh (.lst LS), .sh (.lst HD), .sh (.int (m.n : Nat)), .sh (.int (m.k : Nat)), .sh (rT m.n m.F), .sh (rT m.n m.L), .ow ((List.range s).map fun s => sT m.n m.n (m.T s)), .sh (.int s), .ow ((List.range (a + 1)).map fun a => rT m.n (m.T s a)), .sh (.int a), .no], rfl, ?_, _, rfl⟩
      rw [List.range_succ, List.map_append]
      simp [wb_read_1, exSs, exS, evE, evEs, args1, hasBo, evBin, ss, sa, t5, gs, r', show a < 16777216 by omega, show m.n < 18446744073709551616 by omega])
    subst i2
    refine ⟨_, [.sh (.str (mkS tx)), .sh (.lst LS), .sh (.lst HD), .sh (.int (m.n : Nat)), .sh (.int (m.k : Nat)), .sh (rT m.n m.F), .sh (rT m.n m.L), .ow ((List.range (s + 1)).map fun s => sT m.n m.n (m.T s)), .sh (.int s), .ow ((List.range m.n).map fun a => rT m.n (m.T s a)), s10', .no], rfl, ?_, _, _, _, rfl⟩
    have it : evI .range1 [.loc 3] [.sh (.str (mkS tx)), .sh (.lst LS), .sh (.lst HD), .sh (.int (m.n : Nat)), .sh (.int (m.k : Nat)), .sh (rT m.n m.F), .sh (rT m.n m.L), .ow ((List.range s).map fun s => sT m.n m.n (m.T s)), .sh (.int s), .ow [], s10, .no] = .ok ((List.range m.n).map fun i : Nat => MP.D.int i) := by
      rw [← items_rng m.n (by omega)]; simp [evI, evEs, evE, args1, hasBo]
    have et : evBlt .tuple [.lst ((List.range m.n).map fun a => rT m.n (m.T s a))] = .ok (sT m.n m.n (m.T s), .sh) := rfl
    rw [wb_read_2, ss_go (S1 := [.sh (.str (mkS tx)), .sh (.lst LS), .sh (.lst HD), .sh (.int (m.n : Nat)), .sh (.int (m.k : Nat)), .sh (rT m.n m.F), .sh (rT m.n m.L), .ow ((List.range s).map fun s => sT m.n m.n (m.T s)), .sh (.int s), .ow [], s10, .no]) (by simp [exS, evE, evEs, args1, hasBo]),
      ss_go (S1 := [.sh (.str (mkS tx)), .sh (.lst LS), .sh (.lst HD), .sh (.int (m.n : Nat)), .sh (.int (m.k : Nat)), .sh (rT m.n m.F), .sh (rT m.n m.L), .ow ((List.range s).map fun s => sT m.n m.n (m.T s)), .sh (.int s), .ow ((List.range m.n).map fun a => rT m.n (m.T s a)), s10', .no]) (by
        rw [w_read_1, exS, it, bindS_ok]
        exact i1)]
    rw [List.range_succ, List.map_append]
    simp [exSs, exS, evE, evEs, args1, et, show s < 16777216 by omega])
  subst l2
  have it : evI .range1 [.loc 4] [.sh (.str (mkS tx)), .sh (.lst LS), .sh (.lst HD), .sh (.int (m.n : Nat)), .sh (.int (m.k : Nat)), .sh (rT m.n m.F), .sh (rT m.n m.L), .ow [], .no, .no, .no, .no] = .ok ((List.range m.k).map fun i : Nat => MP.D.int i) := by
    rw [← items_rng m.k (by omega)]; simp [evI, evEs, evE, args1, hasBo]
  have n24 : ¬ (24 : Int) < (m.n : Nat) := by omega
  have n4 : ¬ (4 : Int) < (m.k : Nat) := by omega
  have nl : ((4 + m.n * m.k : Nat) : Int) = 4 + (m.n : Int) * m.k := by push_cast; rfl
  have t3' : MP.D.str (("first" : String) : Str) = .str (mkS firstC) := by rw [t3]
  have t4' : MP.D.str (("last" : String) : Str) = .str (mkS lastC) := by rw [t4]
  refine mir_ret ?_
  unfold b_read
  show exSs fuel _ [.sh (.str (mkS tx)), .no, .no, .no, .no, .no, .no, .no, .no, .no, .no, .no] = _
  rw [ss_go (S1 := [.sh (.str (mkS tx)), .sh (.lst LS), .no, .no, .no, .no, .no, .no, .no, .no, .no, .no]) (by simp [exS, evE, es]),
    ss_go (S1 := [.sh (.str (mkS tx)), .sh (.lst LS), .sh (.lst HD), .no, .no, .no, .no, .no, .no, .no, .no, .no]) (by simp [exS, evE, g0, eh]),
    ss_go (S1 := [.sh (.str (mkS tx)), .sh (.lst LS), .sh (.lst HD), .no, .no, .no, .no, .no, .no, .no, .no, .no]) (by simp [exS, evE, evEs, args1, l3, ev_neI, h0, t1, ne0, isBl, exSs]),
    ss_go (S1 := [.sh (.str (mkS tx)), .sh (.lst LS), .sh (.lst HD), .sh (.int (m.n : Nat)), .no, .no, .no, .no, .no, .no, .no, .no]) (by simp [exS, evE, evEs, args1, hasBo, h1, nn]),
    ss_go (S1 := [.sh (.str (mkS tx)), .sh (.lst LS), .sh (.lst HD), .sh (.int (m.n : Nat)), .sh (.int (m.k : Nat)), .no, .no, .no, .no, .no, .no, .no]) (by simp [exS, evE, evEs, args1, hasBo, h2, nk]),
    ss_go (S1 := [.sh (.str (mkS tx)), .sh (.lst LS), .sh (.lst HD), .sh (.int (m.n : Nat)), .sh (.int (m.k : Nat)), .no, .no, .no, .no, .no, .no, .no]) (by
      have c1 : evE (.cmp .gt (.loc 3) (.int 24)) [.sh (.str (mkS tx)), .sh (.lst LS), .sh (.lst HD), .sh (.int (m.n : Nat)), .sh (.int (m.k : Nat)), .no, .no, .no, .no, .no, .no, .no] = .ok (.bl false, .sh) := by simp [evE, evCmp, n24]
      have c2 : evE (.cmp .gt (.loc 4) (.int 4)) [.sh (.str (mkS tx)), .sh (.lst LS), .sh (.lst HD), .sh (.int (m.n : Nat)), .sh (.int (m.k : Nat)), .no, .no, .no, .no, .no, .no, .no] = .ok (.bl false, .sh) := by simp [evE, evCmp, n4]
      have c3 : evE (.cmp .ne (.blt .len [(.loc 1)]) (.bin .add (.int 4) (.bin .mul (.loc 3) (.loc 4)))) [.sh (.str (mkS tx)), .sh (.lst LS), .sh (.lst HD), .sh (.int (m.n : Nat)), .sh (.int (m.k : Nat)), .no, .no, .no, .no, .no, .no, .no] = .ok (.bl false, .sh) := by
        have em : evBin .mul (.int (m.n : Nat)) (.int (m.k : Nat)) = .ok (.int ((m.n : Int) * m.k), .sh) := by simp [evBin, show m.k < 18446744073709551616 by omega]
        have ea : evBin .add (.int 4) (.int ((m.n : Int) * m.k)) = .ok (.int (4 + (m.n : Int) * m.k), .sh) := rfl
        simp only [evE, evEs, List.getElem?_cons_succ, List.getElem?_cons_zero, Res.bind, args1, List.map, lb, em, ea, ev_neI, nl, decide_eq_true rfl]
        rfl
      have c4 : evE (.cmp .ne (.sub (.loc 1) (.neg (.int 1))) (.str "")) [.sh (.str (mkS tx)), .sh (.lst LS), .sh (.lst HD), .sh (.int (m.n : Nat)), .sh (.int (m.k : Nat)), .no, .no, .no, .no, .no, .no, .no] = .ok (.bl false, .sh) := by
        simp [evE, gl, s0, ne1]
      rw [exS, ev_orF c1 (ev_orF c2 (ev_orF c3 c4)), bindS_ok]
      rfl),
    ss_go (S1 := [.sh (.str (mkS tx)), .sh (.lst LS), .sh (.lst HD), .sh (.int (m.n : Nat)), .sh (.int (m.k : Nat)), .sh (rT m.n m.F), .no, .no, .no, .no, .no, .no]) (by simp [exS, evE, evEs, args1, hasBo, g1, t3', rf']),
    ss_go (S1 := [.sh (.str (mkS tx)), .sh (.lst LS), .sh (.lst HD), .sh (.int (m.n : Nat)), .sh (.int (m.k : Nat)), .sh (rT m.n m.F), .sh (rT m.n m.L), .no, .no, .no, .no, .no]) (by simp [exS, evE, evEs, args1, hasBo, g2, t4', rl']),
    ss_go (S1 := [.sh (.str (mkS tx)), .sh (.lst LS), .sh (.lst HD), .sh (.int (m.n : Nat)), .sh (.int (m.k : Nat)), .sh (rT m.n m.F), .sh (rT m.n m.L), .ow [], .no, .no, .no, .no]) (by simp [exS, evE, evEs, args1, hasBo]),
    ss_go (S1 := [.sh (.str (mkS tx)), .sh (.lst LS), .sh (.lst HD), .sh (.int (m.n : Nat)), .sh (.int (m.k : Nat)), .sh (rT m.n m.F), .sh (rT m.n m.L), .ow ((List.range m.k).map fun s => sT m.n m.n (m.T s)), s8, s9, s10, .no]) (by
      rw [w_read_2, exS, it, bindS_ok]
      exact l1),
    ss_go (S1 := [.sh (.str (mkS tx)), .sh (.lst LS), .sh (.lst HD), .sh (.int (m.n : Nat)), .sh (.int (m.k : Nat)), .sh (rT m.n m.F), .sh (rT m.n m.L), .ow ((List.range m.k).map fun s => sT m.n m.n (m.T s)), s8, s9, s10, .sh (macD m)]) (by
      have et : evBlt .tuple [.lst ((List.range m.k).map fun s => sT m.n m.n (m.T s))] = .ok (.tup ((List.range m.k).map fun s => sT m.n m.n (m.T s)), .sh) := rfl
      simp [exS, evE, evEs, args1, hasBo, et]
      rfl),
    ss_go (S1 := [.sh (.str (mkS tx)), .sh (.lst LS), .sh (.lst HD), .sh (.int (m.n : Nat)), .sh (.int (m.k : Nat)), .sh (rT m.n m.F), .sh (rT m.n m.L), .ow ((List.range m.k).map fun s => sT m.n m.n (m.T s)), s8, s9, s10, .sh (macD m)]) (by
      simp [exS, exSs, evE, evEs, args1, hasBo, lk])]
  refine ss_ret ?_
  simp [exS, evE]
end MP
set_option Elab.async false
set_option linter.all false
set_option maxRecDepth 100000
set_option maxHeartbeats 4000000
namespace MP
open PySem PySem.Spec PyProof.Rows L2 WM
/-! what a text must be to be read -/
def headV (l : List Nat) : Option (Int × Int) := match splitL 32 l with
  | [a, b, c] => if a = machC then (match numV b with
    | some n => (match numV c with
      | some k => some (n, k)
      | none => none)
    | none => none) else none
  | _ => none
def Reads (ls : List (List Nat)) : Prop := ∃ (l0 : List Nat) (n k : Nat), ls[0]? = some l0 ∧ headV l0 = some ((n : Int), (k : Int)) ∧ n ≤ 24 ∧ k ≤ 4 ∧ ls.length = 4 + n * k ∧
  (∀ l, ls[1]? = some l → rowV l [firstC] n ≠ none) ∧ (∀ l, ls[2]? = some l → rowV l [lastC] n ≠ none) ∧ ∀ s a, s < k → a < n → ∀ l, ls[3 + (s * n + a)]? = some l → rowV l (stW s a) n ≠ none
/-- a for over a range that may be left by an exception -/
theorem for_excI {f : List SV → SRes} {tg : List SV → MP.D → Option (List SV)} {x : Str} (ok : Nat → Bool) (P : Nat → List SV → Prop) {n : Nat} (st : ∀ j S, j < n → P j S → ∃ S1, tg S (.int (j : Nat)) = some S1 ∧ ((ok j = true ∧ ∃ S2, f S1 = .nx S2 ∧ P (j + 1) S2) ∨ (ok j = false ∧ ∃ S2, f S1 = .exc x S2))) :
    ∀ (m i : Nat) (S : List SV), i + m = n → P i S → ((∀ j, i ≤ j → j < n → ok j = true) ∧ ∃ S', forL f tg ((List.range' i m).map fun j : Nat => MP.D.int j) S = .nx S' ∧ P n S') ∨ ((∃ j, i ≤ j ∧ j < n ∧ ok j = false) ∧ ∃ S', forL f tg ((List.range' i m).map fun j : Nat => MP.D.int j) S = .exc x S')
  | 0, i, S, e, p => .inl ⟨fun j h1 h2 => by omega, S, rfl, by rw [← e]; exact p⟩
  | m + 1, i, S, e, p => by
    obtain ⟨S1, t1, h⟩ := st i S (by omega) p
    rw [List.range'_succ, List.map_cons, forL, t1]
    rcases h with ⟨o, S2, f2, p2⟩ | ⟨o, S2, f2⟩
    · simp only [f2]
      rcases for_excI ok P st m (i + 1) S2 (by omega) p2 with ⟨h1, h2⟩ | ⟨⟨j, j1, j2, j3⟩, h2⟩
      · refine .inl ⟨fun j j1 j2 => ?_, h2⟩
        by_cases ej : j = i
        · rw [ej]; exact o
        · exact h1 j (by omega) j2
      · exact .inr ⟨⟨j, by omega, j2, j3⟩, h2⟩
    · simp only [f2]
      exact .inr ⟨⟨i, Nat.le_refl _, by omega, o⟩, S2, rfl⟩
theorem for_exc0 {f : List SV → SRes} {tg : List SV → MP.D → Option (List SV)} {x : Str} (ok : Nat → Bool) (P : Nat → List SV → Prop) {n : Nat} {S : List SV} (p : P 0 S) (st : ∀ j S, j < n → P j S → ∃ S1, tg S (.int (j : Nat)) = some S1 ∧ ((ok j = true ∧ ∃ S2, f S1 = .nx S2 ∧ P (j + 1) S2) ∨ (ok j = false ∧ ∃ S2, f S1 = .exc x S2))) :
    ((∀ j, j < n → ok j = true) ∧ ∃ S', forL f tg ((List.range n).map fun j : Nat => MP.D.int j) S = .nx S' ∧ P n S') ∨ ((∃ j, j < n ∧ ok j = false) ∧ ∃ S', forL f tg ((List.range n).map fun j : Nat => MP.D.int j) S = .exc x S') := by
  have h := for_excI ok P st n 0 S (Nat.zero_add n) p
  rw [← List.range_eq_range'] at h
  rcases h with ⟨h1, h2⟩ | ⟨⟨j, _, j2, j3⟩, h2⟩
  · exact .inl ⟨fun j hj => h1 j (Nat.zero_le _) hj, h2⟩
  · exact .inr ⟨⟨j, j2, j3⟩, h2⟩
theorem ev_orT {a b : ME} {S : List SV} (h1 : evE a S = .ok (.bl true, .sh)) : evE (.or a b) S = .ok (.bl true, .sh) := by
  rw [evE, h1]
  simp only [Res.bind]
theorem ev_orN {a b : ME} {S : List SV} {v : Bool} (h1 : evE a S = .ok (.bl false, .sh)) (h2 : evE b S = .ok (.bl v, .sh)) : evE (.or a b) S = .ok (.bl v, .sh) := by
  rw [evE, h1]
  simp only [Res.bind]
  rw [h2]
  simp [isBl]
theorem ife_rais {n : Nat} {c : ME} {S : List SV} {x : Str} (h : evE c S = .ok (.bl true, .sh)) : exS n (.ife c [.rais x] []) S = .exc x S := by
  rw [exS, h, bindS_ok]
  simp [exSs, exS]
theorem ife_pass {n : Nat} {c : ME} {S : List SV} {b : List MS} (h : evE c S = .ok (.bl false, .sh)) : exS n (.ife c b []) S = .nx S := by
  rw [exS, h, bindS_ok]
  simp [exSs]
theorem bad_none {r : Res (MP.D × Bool)} {α : Type} {o : Option α} {g : α → MP.D} (h : r = bad (o.map g)) (e : o = none) : r = .exc "BadNote" := by rw [h, e]; rfl
theorem bad_some {r : Res (MP.D × Bool)} {α : Type} {o : Option α} {g : α → MP.D} {v : α} (h : r = bad (o.map g)) (e : o = some v) : r = .ok (g v, false) := by rw [h, e]; rfl
theorem lit_lay {ws : List (List Nat)} (h : ∀ p ∈ ws, Asc p) : ∀ p ∈ ws, Lay p := fun p hp => (h p hp).lay
def rd0 : ME := .or (.cmp .gt (.loc 3) (.int 24)) (.or (.cmp .gt (.loc 4) (.int 4)) (.or (.cmp .ne (.blt .len [(.loc 1)]) (.bin .add (.int 4) (.bin .mul (.loc 3) (.loc 4)))) (.cmp .ne (.sub (.loc 1) (.neg (.int 1))) (.str ""))))
/-- what is no machine's text is refused -/
theorem read_bad {t : List Nat} (hl : t.length ≤ 1000000) (hy : Lay t) (hr : ¬ Reads (splitL 10 t)) : m_read [.str (mkS t)] = .exc "BadNote" := by
  have es : splitD "\n" (.str (mkS t)) = .ok (.lst (strL (splitL 10 t)), .fr) := by rw [s6, split_S2 10 (by omega)]; rfl
  have hm : ∀ p ∈ splitL 10 t, Lay p ∧ p.length ≤ 1000000 := fun p hp => by
    obtain ⟨a, b⟩ := split_mem hp
    exact ⟨fun c hc => hy c (a c hc), by omega⟩
  have hne := splitL_ne 10 t
  generalize splitL 10 t = ls at *
  generalize t = tx at es
  obtain ⟨l0, hl0⟩ : ∃ l0, ls[0]? = some l0 := by
    cases ls with
    | nil => exact absurd rfl hne
    | cons a r => exact ⟨a, rfl⟩
  have hm0 := hm l0 (List.mem_of_getElem? hl0)
  have g0 : evSub (.lst (strL ls)) (.int 0) = .ok (.str (mkS l0), .sh) := strL_get (j := 0) hl0
  have eh : splitD " " (.str (mkS l0)) = .ok (.lst (strL (splitL 32 l0)), .fr) := by rw [s5, split_S2 32 (by omega)]; rfl
  have hp : ∀ p ∈ splitL 32 l0, Lay p ∧ p.length ≤ 16777216 := fun p hp => by
    obtain ⟨a, b⟩ := split_mem hp
    exact ⟨fun c hc => hm0.1 c (a c hc), by omega⟩
  have hv : headV l0 = headV l0 := rfl
  conv at hv => rhs; unfold headV
  have hpn := splitL_ne 32 l0
  generalize splitL 32 l0 = ps at *
  have lb : evBlt .len [.lst (strL ls)] = .ok (.int (ls.length : Nat), .sh) := by rw [blt_len_l2, strL_len]
  have lh : evBlt .len [.lst (strL ps)] = .ok (.int (ps.length : Nat), .sh) := by rw [blt_len_l2, strL_len]
  have tail : ∀ {S1 : List SV} {ms : List MS}, b_read.drop 2 = ms → (∃ S', exSs fuel ms [.sh (.str (mkS tx)), .sh (.lst (strL ls)), .sh (.lst (strL ps)), .no, .no, .no, .no, .no, .no, .no, .no, .no] = .exc "BadNote" S') → m_read [.str (mkS tx)] = .exc "BadNote" := fun {S1 ms} e ⟨S', h⟩ => by
    refine mir_exc (S1 := S') ?_
    have : b_read = .set 1 (.split (.loc 0) "\n") :: .set 2 (.split (.sub (.loc 1) (.int 0)) " ") :: b_read.drop 2 := rfl
    rw [this, e]
    show exSs fuel _ [.sh (.str (mkS tx)), .no, .no, .no, .no, .no, .no, .no, .no, .no, .no, .no] = _
    rw [ss_go (S1 := [.sh (.str (mkS tx)), .sh (.lst (strL ls)), .no, .no, .no, .no, .no, .no, .no, .no, .no, .no]) (by simp [exS, evE, es]),
      ss_go (S1 := [.sh (.str (mkS tx)), .sh (.lst (strL ls)), .sh (.lst (strL ps)), .no, .no, .no, .no, .no, .no, .no, .no, .no]) (by simp [exS, evE, g0, eh])]
    exact h
  refine tail (S1 := []) rfl ?_
  show ∃ S', exSs fuel (_ :: _) _ = _
  -- the head's words
  obtain ⟨a, ha⟩ : ∃ a, ps[0]? = some a := by
    cases ps with
    | nil => exact absurd rfl hpn
    | cons a r => exact ⟨a, rfl⟩
  have h0 : evSub (.lst (strL ps)) (.int 0) = .ok (.str (mkS a), .sh) := strL_get (j := 0) ha
  have ne0 := ev_neS (a := a) (b := machC) (hp a (List.mem_of_getElem? ha)).1 (lay_lit machC (by decide))
  have c1 : evE (.cmp .ne (.blt .len [(.loc 2)]) (.int 3)) [.sh (.str (mkS tx)), .sh (.lst (strL ls)), .sh (.lst (strL ps)), .no, .no, .no, .no, .no, .no, .no, .no, .no] = .ok (.bl (!decide ((ps.length : Int) = 3)), .sh) := by
    simp [evE, evEs, args1, lh, ev_neI]
  have c2 : evE (.cmp .ne (.sub (.loc 2) (.int 0)) (.str "machine")) [.sh (.str (mkS tx)), .sh (.lst (strL ls)), .sh (.lst (strL ps)), .no, .no, .no, .no, .no, .no, .no, .no, .no] = .ok (.bl (!decide (a = machC)), .sh) := by
    simp [evE, evEs, args1, h0, t1, ne0]
  by_cases hp3 : ps.length = 3
  case neg =>
    rw [decide_eq_false (by omega)] at c1
    exact ⟨_, ss_exc (ife_rais (ev_orT c1))⟩
  rw [decide_eq_true (by omega)] at c1
  by_cases ham : a = machC
  case neg =>
    rw [decide_eq_false ham] at c2
    exact ⟨_, ss_exc (ife_rais (ev_orN c1 c2))⟩
  rw [decide_eq_true ham] at c2
  rw [ss_go (ife_pass (ev_orN c1 c2))]
  obtain ⟨b, c, rfl⟩ : ∃ b c, ps = [machC, b, c] := by
    match ps, hp3, ha with
    | [x, y, z], _, e =>
      have e : x = a := Option.some.inj e
      exact ⟨y, z, by rw [e, ham]⟩
  have hv : headV l0 = (match numV b with
      | some n => (match numV c with
        | some k => some (n, k)
        | none => none)
      | none => none) := hv.trans (if_pos rfl)
  have h1 : evSub (.lst (strL [machC, b, c])) (.int 1) = .ok (.str (mkS b), .sh) := strL_get (j := 1) rfl
  have h2 : evSub (.lst (strL [machC, b, c])) (.int 2) = .ok (.str (mkS c), .sh) := strL_get (j := 2) rfl
  have nb := number_of_ok (hp b (by simp)).2 (hp b (by simp)).1
  have nc := number_of_ok (hp c (by simp)).2 (hp c (by simp)).1
  generalize strL [machC, b, c] = HD at *
  cases hb : numV b with
  | none =>
    have nb := bad_none nb hb
    exact ⟨_, ss_exc (by simp [exS, evE, evEs, args1, h1, nb, bindS]; rfl)⟩
  | some n0 =>
  have nb := bad_some nb hb
  obtain ⟨b0, b1⟩ := numV_lt hb
  obtain ⟨n, rfl⟩ : ∃ n : Nat, n0 = n := ⟨n0.toNat, by omega⟩
  rw [ss_go (S1 := [.sh (.str (mkS tx)), .sh (.lst (strL ls)), .sh (.lst HD), .sh (.int (n : Nat)), .no, .no, .no, .no, .no, .no, .no, .no]) (by simp [exS, evE, evEs, args1, hasBo, h1, nb])]
  cases hc : numV c with
  | none =>
    have nc := bad_none nc hc
    exact ⟨_, ss_exc (by simp [exS, evE, evEs, args1, h2, nc, bindS]; rfl)⟩
  | some k0 =>
  have nc := bad_some nc hc
  obtain ⟨c0, _⟩ := numV_lt hc
  obtain ⟨k, rfl⟩ : ∃ k : Nat, k0 = k := ⟨k0.toNat, by omega⟩
  rw [ss_go (S1 := [.sh (.str (mkS tx)), .sh (.lst (strL ls)), .sh (.lst HD), .sh (.int (n : Nat)), .sh (.int (k : Nat)), .no, .no, .no, .no, .no, .no, .no]) (by simp [exS, evE, evEs, args1, hasBo, h2, nc])]
  rw [hb, hc] at hv
  have hv : headV l0 = some ((n : Int), (k : Int)) := hv
  clear h1 h2 nb nc
  -- the sizes
  have d1 : evE (.cmp .gt (.loc 3) (.int 24)) [.sh (.str (mkS tx)), .sh (.lst (strL ls)), .sh (.lst HD), .sh (.int (n : Nat)), .sh (.int (k : Nat)), .no, .no, .no, .no, .no, .no, .no] = .ok (.bl (decide ((24 : Int) < (n : Nat))), .sh) := by simp [evE, evCmp]
  have d2 : evE (.cmp .gt (.loc 4) (.int 4)) [.sh (.str (mkS tx)), .sh (.lst (strL ls)), .sh (.lst HD), .sh (.int (n : Nat)), .sh (.int (k : Nat)), .no, .no, .no, .no, .no, .no, .no] = .ok (.bl (decide ((4 : Int) < (k : Nat))), .sh) := by simp [evE, evCmp]
  by_cases hn : n ≤ 24
  case neg =>
    rw [decide_eq_true (by omega)] at d1
    exact ⟨_, ss_exc (ife_rais (ev_orT d1))⟩
  rw [decide_eq_false (by omega)] at d1
  by_cases hk : k ≤ 4
  case neg =>
    rw [decide_eq_true (by omega)] at d2
    exact ⟨_, ss_exc (ife_rais (ev_orN d1 (ev_orT d2)))⟩
  rw [decide_eq_false (by omega)] at d2
  have d3 : evE (.cmp .ne (.blt .len [(.loc 1)]) (.bin .add (.int 4) (.bin .mul (.loc 3) (.loc 4)))) [.sh (.str (mkS tx)), .sh (.lst (strL ls)), .sh (.lst HD), .sh (.int (n : Nat)), .sh (.int (k : Nat)), .no, .no, .no, .no, .no, .no, .no] = .ok (.bl (!decide ((ls.length : Int) = 4 + (n : Int) * k)), .sh) := by
    have em : evBin .mul (.int (n : Nat)) (.int (k : Nat)) = .ok (.int ((n : Int) * k), .sh) := by simp [evBin, show k < 18446744073709551616 by omega]
    have ea : evBin .add (.int 4) (.int ((n : Int) * k)) = .ok (.int (4 + (n : Int) * k), .sh) := rfl
    simp only [evE, evEs, List.getElem?_cons_succ, List.getElem?_cons_zero, Res.bind, args1, List.map, lb, em, ea, ev_neI]
  have elen : ((ls.length : Int) = 4 + (n : Int) * k) ↔ ls.length = 4 + n * k := by
    rw [show (4 : Int) + (n : Int) * k = ((4 + n * k : Nat) : Int) by push_cast; rfl]
    omega
  by_cases hls : ls.length = 4 + n * k
  case neg =>
    rw [decide_eq_false (fun z => hls (elen.mp z))] at d3
    exact ⟨_, ss_exc (ife_rais (ev_orN d1 (ev_orN d2 (ev_orT d3))))⟩
  rw [decide_eq_true (elen.mpr hls)] at d3
  obtain ⟨le, hle⟩ : ∃ le, ls.getLast? = some le := by
    cases q : ls.getLast? with
    | none => rw [List.getLast?_eq_none_iff] at q; exact absurd q hne
    | some le => exact ⟨le, rfl⟩
  have gl : evSub (.lst (strL ls)) (.int (-1)) = .ok (.str (mkS le), .sh) := by
    obtain ⟨ys, rfl⟩ := List.getLast?_eq_some_iff.mp hle
    have e : strL (ys ++ [le]) = strL ys ++ [.str (mkS le)] := by rw [strL_app]; rfl
    rw [e]
    show (match atI (strL ys ++ [.str (mkS le)]) (-1) with | some d => Res.ok (d, Kd.sh) | none => .stuck) = _
    rw [atI_last]
  have hle2 := hm le (List.mem_of_getLast? hle)
  have ne1 := ev_neS (a := le) (b := []) hle2.1 (lay_lit [] (by decide))
  have d4 : evE (.cmp .ne (.sub (.loc 1) (.neg (.int 1))) (.str "")) [.sh (.str (mkS tx)), .sh (.lst (strL ls)), .sh (.lst HD), .sh (.int (n : Nat)), .sh (.int (k : Nat)), .no, .no, .no, .no, .no, .no, .no] = .ok (.bl (!decide (le = [])), .sh) := by
    simp [evE, gl, s0, ne1]
  by_cases hle0 : le = []
  case neg =>
    rw [decide_eq_false hle0] at d4
    exact ⟨_, ss_exc (ife_rais (ev_orN d1 (ev_orN d2 (ev_orN d3 d4))))⟩
  rw [decide_eq_true hle0] at d4
  rw [ss_go (ife_pass (ev_orN d1 (ev_orN d2 (ev_orN d3 d4))))]
  clear d1 d2 d3 d4 c1 c2 ne0 ne1 gl
  -- the rows
  obtain ⟨l1, hl1⟩ : ∃ l, ls[1]? = some l := ⟨_, List.getElem?_eq_getElem (by omega)⟩
  obtain ⟨l2, hl2⟩ : ∃ l, ls[2]? = some l := ⟨_, List.getElem?_eq_getElem (by omega)⟩
  have hm1 := hm l1 (List.mem_of_getElem? hl1)
  have hm2 := hm l2 (List.mem_of_getElem? hl2)
  have g1 : evSub (.lst (strL ls)) (.int 1) = .ok (.str (mkS l1), .sh) := strL_get (j := 1) hl1
  have g2 : evSub (.lst (strL ls)) (.int 2) = .ok (.str (mkS l2), .sh) := strL_get (j := 2) hl2
  have r1 := row_of_all (ws := [firstC]) (n := n) (line := l1) (by omega) hm1.1 (lit_lay firstA)
  have r2 := row_of_all (ws := [lastC]) (n := n) (line := l2) (by omega) hm2.1 (lit_lay lastA)
  have t3' : MP.D.str (("first" : String) : Str) = .str (mkS firstC) := by rw [t3]
  have t4' : MP.D.str (("last" : String) : Str) = .str (mkS lastC) := by rw [t4]
  cases hr1 : rowV l1 [firstC] n with
  | none =>
    have r1 : m_row_of [.str (mkS l1), .lst [.str (mkS firstC)], .int n] = _ := bad_none r1 hr1
    exact ⟨_, ss_exc (by simp [exS, evE, evEs, args1, hasBo, g1, t3', r1, bindS]; rfl)⟩
  | some v1 =>
  have r1 : m_row_of [.str (mkS l1), .lst [.str (mkS firstC)], .int n] = _ := bad_some r1 hr1
  rw [ss_go (S1 := [.sh (.str (mkS tx)), .sh (.lst (strL ls)), .sh (.lst HD), .sh (.int (n : Nat)), .sh (.int (k : Nat)), .sh (.tup (v1.map prD)), .no, .no, .no, .no, .no, .no]) (by simp [exS, evE, evEs, args1, hasBo, g1, t3', r1])]
  cases hr2 : rowV l2 [lastC] n with
  | none =>
    have r2 : m_row_of [.str (mkS l2), .lst [.str (mkS lastC)], .int n] = _ := bad_none r2 hr2
    exact ⟨_, ss_exc (by simp [exS, evE, evEs, args1, hasBo, g2, t4', r2, bindS]; rfl)⟩
  | some v2 =>
  have r2 : m_row_of [.str (mkS l2), .lst [.str (mkS lastC)], .int n] = _ := bad_some r2 hr2
  rw [ss_go (S1 := [.sh (.str (mkS tx)), .sh (.lst (strL ls)), .sh (.lst HD), .sh (.int (n : Nat)), .sh (.int (k : Nat)), .sh (.tup (v1.map prD)), .sh (.tup (v2.map prD)), .no, .no, .no, .no, .no]) (by simp [exS, evE, evEs, args1, hasBo, g2, t4', r2]),
    ss_go (S1 := [.sh (.str (mkS tx)), .sh (.lst (strL ls)), .sh (.lst HD), .sh (.int (n : Nat)), .sh (.int (k : Nat)), .sh (.tup (v1.map prD)), .sh (.tup (v2.map prD)), .ow [], .no, .no, .no, .no]) (by simp [exS, evE, evEs, args1, hasBo])]
  clear g1 g2 r1 r2
  generalize MP.D.tup (v1.map prD) = R1
  generalize MP.D.tup (v2.map prD) = R2
  -- the steps
  let okA : Nat → Nat → Bool := fun s a => (rowV (ls.getD (3 + (s * n + a)) []) (stW s a) n).isSome
  let okS : Nat → Bool := fun s => decide (∀ a, a < n → okA s a = true)
  have outer := for_exc0 (f := exSs fuel wb_read_2) (tg := fun S d => some (S.set 8 (.sh d))) (x := "BadNote") okS (fun s S => ∃ acc s8 s9 s10, S = [.sh (.str (mkS tx)), .sh (.lst (strL ls)), .sh (.lst HD), .sh (.int (n : Nat)), .sh (.int (k : Nat)), .sh R1, .sh R2, .ow acc, s8, s9, s10, .no] ∧ acc.length = s) (n := k)
    (S := [.sh (.str (mkS tx)), .sh (.lst (strL ls)), .sh (.lst HD), .sh (.int (n : Nat)), .sh (.int (k : Nat)), .sh R1, .sh R2, .ow [], .no, .no, .no, .no]) ⟨[], .no, .no, .no, rfl, rfl⟩ (by
    rintro s S hs ⟨acc, s8, s9, s10, rfl, hacc⟩
    refine ⟨_, rfl, ?_⟩
    have inner := for_exc0 (f := exSs fuel wb_read_1) (tg := fun S d => some (S.set 10 (.sh d))) (x := "BadNote") (okA s) (fun a S => ∃ rows s10, S = [.sh (.str (mkS tx)), .sh (.lst (strL ls)), .sh (.lst HD), .sh (.int (n : Nat)), .sh (.int (k : Nat)), .sh R1, .sh R2, .ow acc, .sh (.int (s : Nat)), .ow rows, s10, .no] ∧ rows.length = a) (n := n)
      (S := [.sh (.str (mkS tx)), .sh (.lst (strL ls)), .sh (.lst HD), .sh (.int (n : Nat)), .sh (.int (k : Nat)), .sh R1, .sh R2, .ow acc, .sh (.int (s : Nat)), .ow [], s10, .no]) ⟨[], s10, rfl, rfl⟩ (by
      rintro a S ha ⟨rows, s10, rfl, hrows⟩
      refine ⟨_, rfl, ?_⟩
      have hix : 3 + (s * n + a) < ls.length := by
        have h1 : s * n + n ≤ k * n := by rw [← Nat.succ_mul]; exact Nat.mul_le_mul_right _ hs
        rw [hls, Nat.mul_comm n k]
        omega
      obtain ⟨l, hl⟩ : ∃ l, ls[3 + (s * n + a)]? = some l := ⟨_, List.getElem?_eq_getElem hix⟩
      have hml := hm l (List.mem_of_getElem? hl)
      have eok : okA s a = (rowV l (stW s a) n).isSome := by
        show (rowV (ls.getD (3 + (s * n + a)) []) (stW s a) n).isSome = _
        rw [List.getD_eq_getElem?_getD, hl]; rfl
      have ss : evBlt .str [.int (s : Nat)] = .ok (.str (mkS (natC s)), .sh) := str_I (i := (s : Nat)) (few_nat (by omega))
      have sa : evBlt .str [.int (a : Nat)] = .ok (.str (mkS (natC a)), .sh) := str_I (i := (a : Nat)) (few_nat (by omega))
      have gs : evSub (.lst (strL ls)) (.int (3 + (s : Int) * n + a)) = .ok (.str (mkS l), .sh) := by
        rw [show 3 + (s : Int) * n + a = ((3 + (s * n + a) : Nat) : Int) by push_cast; omega]
        exact strL_get hl
      have r := row_of_all (ws := stW s a) (n := n) (line := l) (by omega) hml.1 (lit_lay (stA s a))
      have t5' : MP.D.str (("step" : String) : Str) = .str (mkS stepC) := by rw [t5]
      cases hrv : rowV l (stW s a) n with
      | none =>
        have r : m_row_of [.str (mkS l), .lst [.str (mkS stepC), .str (mkS (natC s)), .str (mkS (natC a))], .int n] = _ := bad_none r hrv
        refine .inr ⟨by rw [eok, hrv]; rfl, [.sh (.str (mkS tx)), .sh (.lst (strL ls)), .sh (.lst HD), .sh (.int (n : Nat)), .sh (.int (k : Nat)), .sh R1, .sh R2, .ow acc, .sh (.int (s : Nat)), .ow rows, .sh (.int (a : Nat)), .no], ?_⟩
        rw [wb_read_1]
        refine ss_exc ?_
        simp [exS, evE, evEs, args1, hasBo, evBin, ss, sa, t5', gs, r, bindS, show n < 18446744073709551616 by omega]
      | some v =>
        have r : m_row_of [.str (mkS l), .lst [.str (mkS stepC), .str (mkS (natC s)), .str (mkS (natC a))], .int n] = _ := bad_some r hrv
        refine .inl ⟨by rw [eok, hrv]; rfl, [.sh (.str (mkS tx)), .sh (.lst (strL ls)), .sh (.lst HD), .sh (.int (n : Nat)), .sh (.int (k : Nat)), .sh R1, .sh R2, .ow acc, .sh (.int (s : Nat)), .ow (rows ++ [.tup (v.map prD)]), .sh (.int (a : Nat)), .no], ?_, _, _, rfl, by simp [hrows]⟩
        simp [wb_read_1, exSs, exS, evE, evEs, args1, hasBo, evBin, ss, sa, t5', gs, r, show n < 18446744073709551616 by omega, show rows.length < 16777216 by omega])
    have it : ∀ s9', evI .range1 [.loc 3] [.sh (.str (mkS tx)), .sh (.lst (strL ls)), .sh (.lst HD), .sh (.int (n : Nat)), .sh (.int (k : Nat)), .sh R1, .sh R2, .ow acc, .sh (.int (s : Nat)), s9', s10, .no] = .ok ((List.range n).map fun i : Nat => MP.D.int i) := fun s9' => by
      rw [← items_rng n (by omega)]; simp [evI, evEs, evE, args1, hasBo]
    have go : ∀ R, exSs fuel [w_read_1, .app 7 (.blt .tuple [(.loc 9)])] [.sh (.str (mkS tx)), .sh (.lst (strL ls)), .sh (.lst HD), .sh (.int (n : Nat)), .sh (.int (k : Nat)), .sh R1, .sh R2, .ow acc, .sh (.int (s : Nat)), .ow [], s10, .no] = R → exSs fuel wb_read_2 [.sh (.str (mkS tx)), .sh (.lst (strL ls)), .sh (.lst HD), .sh (.int (n : Nat)), .sh (.int (k : Nat)), .sh R1, .sh R2, .ow acc, .sh (.int (s : Nat)), s9, s10, .no] = R := fun R h => by
      rw [wb_read_2, ss_go (S1 := [.sh (.str (mkS tx)), .sh (.lst (strL ls)), .sh (.lst HD), .sh (.int (n : Nat)), .sh (.int (k : Nat)), .sh R1, .sh R2, .ow acc, .sh (.int (s : Nat)), .ow [], s10, .no]) (by simp [exS, evE, evEs, args1, hasBo])]
      exact h
    rcases inner with ⟨ha, S', i1, rows, s10', rfl, hrows⟩ | ⟨⟨a, ha, hna⟩, S', i1⟩
    · refine .inl ⟨decide_eq_true ha, [.sh (.str (mkS tx)), .sh (.lst (strL ls)), .sh (.lst HD), .sh (.int (n : Nat)), .sh (.int (k : Nat)), .sh R1, .sh R2, .ow (acc ++ [.tup rows]), .sh (.int (s : Nat)), .ow rows, s10', .no], go _ ?_, _, _, _, _, rfl, by simp [hacc]⟩
      have et : evBlt .tuple [.lst rows] = .ok (.tup rows, .sh) := rfl
      rw [ss_go (S1 := [.sh (.str (mkS tx)), .sh (.lst (strL ls)), .sh (.lst HD), .sh (.int (n : Nat)), .sh (.int (k : Nat)), .sh R1, .sh R2, .ow acc, .sh (.int (s : Nat)), .ow rows, s10', .no]) (by
        rw [w_read_1, exS, it, bindS_ok]
        exact i1)]
      simp [exSs, exS, evE, evEs, args1, et, show acc.length < 16777216 by omega]
    · refine .inr ⟨decide_eq_false (fun z => ?_), S', go _ (ss_exc ?_)⟩
      · rw [z a ha] at hna; cases hna
      · rw [w_read_1, exS, it, bindS_ok]
        exact i1)
  have it : evI .range1 [.loc 4] [.sh (.str (mkS tx)), .sh (.lst (strL ls)), .sh (.lst HD), .sh (.int (n : Nat)), .sh (.int (k : Nat)), .sh R1, .sh R2, .ow [], .no, .no, .no, .no] = .ok ((List.range k).map fun i : Nat => MP.D.int i) := by
    rw [← items_rng k (by omega)]; simp [evI, evEs, evE, args1, hasBo]
  rcases outer with ⟨hall, _⟩ | ⟨_, S', o1⟩
  · exfalso
    refine hr ⟨l0, n, k, hl0, hv, hn, hk, hls, fun l hl => ?_, fun l hl => ?_, fun s a hs ha l hl => ?_⟩
    · rw [hl1] at hl; cases hl
      rw [hr1]; simp
    · rw [hl2] at hl; cases hl
      rw [hr2]; simp
    · have h1 := of_decide_eq_true (hall s hs) a ha
      have h2 : (rowV (ls.getD (3 + (s * n + a)) []) (stW s a) n).isSome = true := h1
      rw [List.getD_eq_getElem?_getD, hl] at h2
      exact Option.isSome_iff_ne_none.mp h2
  · refine ⟨S', ss_exc ?_⟩
    rw [w_read_2, exS, it, bindS_ok]
    exact o1
end MP
set_option Elab.async false
set_option linter.all false
set_option maxRecDepth 100000
set_option maxHeartbeats 4000000
namespace MP
open PySem PySem.Spec PyProof.Rows L2 WM
noncomputable def b_law_part : List MS := [.ife (.cmp .eq (.sub (.loc 0) (.int 1)) (.int 1)) [.ret (.blt .str [(.sub (.loc 0) (.int 0))])] [], .ret (.bin .add (.bin .add (.blt .str [(.sub (.loc 0) (.int 0))]) (.str "/")) (.blt .str [(.sub (.loc 0) (.int 1))]))]
noncomputable def m_law_part : Fn := mirror 1 fuel b_law_part
noncomputable def b_law_bad_word : List MS := [.set 1 (.lst [(.str ""), (.str "+1"), (.str "01"), (.str "-0"), (.str "1_0"), (.str "1.0"), (.str "x"), (.str "--1"), (.str "-"), (.str "1/"), (.str "/2"), (.str "1/0"), (.str "1/1"), (.str "2/4")]), .set 1 (.bin .add (.loc 1) (.lst [(.str "0/2"), (.str "1/02"), (.str "1/-2")])), .set 1 (.bin .add (.loc 1) (.lst [(.str "1/2/3"), (.str "-01"), (.str "1e3"), (.bin .add (.str "1") (.bin .mul (.str "0") (.int 30))), (.bin .add (.str "1/1") (.bin .mul (.str "0") (.int 30))), (.str "00"), (.str "-2/4"), (.str "1 /2")])), .ret (.sub (.loc 1) (.bin .mod (.loc 0) (.blt .len [(.loc 1)])))]
noncomputable def m_law_bad_word : Fn := mirror 2 fuel b_law_bad_word
noncomputable def b_law_bad_first : List MS := [.set 3 (.bin .add (.bin .add (.blt .str [(.loc 1)]) (.str " ")) (.blt .str [(.loc 2)])), .set 4 (.lst [(.str ""), (.str "machine"), (.bin .add (.str "machine ") (.blt .str [(.loc 1)])), (.bin .add (.bin .add (.str "machine ") (.loc 3)) (.str " 1")), (.bin .add (.str "Machine ") (.loc 3)), (.bin .add (.str "machines ") (.loc 3))]), .set 4 (.bin .add (.loc 4) (.lst [(.bin .add (.str "machine  ") (.loc 3)), (.bin .add (.str " machine ") (.loc 3)), (.bin .add (.bin .add (.str "machine ") (.loc 3)) (.str " "))])), .set 4 (.bin .add (.loc 4) (.lst [(.bin .add (.str "machine 0") (.loc 3)), (.bin .add (.str "machine -") (.loc 3))])), .set 4 (.bin .add (.loc 4) (.lst [(.bin .add (.bin .add (.str "machine ") (.blt .str [(.loc 1)])) (.str " 0")), (.str "machine 25 1"), (.bin .add (.bin .add (.str "machine ") (.blt .str [(.loc 1)])) (.str " 5")), (.str "machine x 1")])), .ret (.sub (.loc 4) (.bin .mod (.loc 0) (.blt .len [(.loc 4)])))]
noncomputable def m_law_bad_first : Fn := mirror 5 fuel b_law_bad_first
noncomputable def ce_law_blanks_1 : ME := (.loc 5)
noncomputable def cc_law_blanks_1 : ME := (.cmp .eq (.sub (.loc 0) (.loc 5)) (.str " "))
noncomputable def c_law_blanks_1 : ME := .compIf ce_law_blanks_1 5 .range1 [(.blt .len [(.loc 0)])] cc_law_blanks_1
noncomputable def b_law_blanks : List MS := [.set 3 c_law_blanks_1, .ife (.loc 2) [.set 3 (.bin .add (.loc 3) (.lst [(.int 0), (.blt .len [(.loc 0)])])), .set 4 (.sub (.loc 3) (.bin .mod (.loc 1) (.blt .len [(.loc 3)]))), .ret (.bin .add (.bin .add (.slHi (.loc 0) (.loc 4)) (.str " ")) (.slLo (.loc 0) (.loc 4)))] [], .set 4 (.sub (.loc 3) (.bin .mod (.loc 1) (.blt .len [(.loc 3)]))), .ret (.bin .add (.slHi (.loc 0) (.loc 4)) (.slLo (.loc 0) (.bin .add (.loc 4) (.int 1))))]
noncomputable def m_law_blanks : Fn := mirror 6 fuel b_law_blanks
/-! words of a line -/
theorem split_count (c : Nat) : ∀ l : List Nat, (splitL c l).length = l.count c + 1
  | [] => rfl
  | x :: r => by
    have ih := split_count c r
    unfold splitL
    by_cases h : x = c
    · rw [if_pos h, List.length_cons, ih, h, List.count_cons_self]
    · rw [if_neg h, List.count_cons_of_ne h]
      cases hs : splitL c r with
      | nil => exact absurd hs (splitL_ne c r)
      | cons p ps =>
        rw [hs] at ih
        exact ih
theorem count_cut (c : Nat) (l : List Nat) (j : Nat) : (l.take j).count c + (l.drop j).count c = l.count c := by
  conv => rhs; rw [← List.take_append_drop j l]
  rw [List.count_append]
theorem rowV_len {l : List Nat} {ws : List (List Nat)} {n : Nat} (h : (splitL 32 l).length ≠ ws.length + n) : rowV l ws n = none := if_neg fun z => h z.2
theorem rowV_ws {l : List Nat} {ws : List (List Nat)} {n : Nat} (h : (splitL 32 l).take ws.length ≠ ws) : rowV l ws n = none := if_neg fun z => h z.1
theorem rowV_bad {l : List Nat} {ws : List (List Nat)} {n : Nat} {f : List Nat} (h : f ∈ (splitL 32 l).drop ws.length) (hf : fracV f = none) : rowV l ws n = none := by
  unfold rowV
  split
  · exact mapV_none h hf
  · rfl
/-! evaluation -/
theorem e_bin {o : BOp} {a b : ME} {S : List SV} {d1 d2 : MP.D} {k1 k2 : Kd} {r : Res (MP.D × Kd)} (h1 : evE a S = .ok (d1, k1)) (h2 : evE b S = .ok (d2, k2)) (h3 : evBin o d1 d2 = r) : evE (.bin o a b) S = r := by
  rw [evE, h1]
  simp only [Res.bind]
  rw [h2]
  exact h3
theorem e_sub {a b : ME} {S : List SV} {d1 d2 : MP.D} {k1 k2 : Kd} {r : Res (MP.D × Kd)} (h1 : evE a S = .ok (d1, k1)) (h2 : evE b S = .ok (d2, k2)) (h3 : evSub d1 d2 = r) : evE (.sub a b) S = r := by
  rw [evE, h1]
  simp only [Res.bind]
  rw [h2]
  exact h3
theorem e_hi {a b : ME} {S : List SV} {d1 : MP.D} {i : Int} {k1 k2 : Kd} {r : Res (MP.D × Kd)} (h1 : evE a S = .ok (d1, k1)) (h2 : evE b S = .ok (.int i, k2)) (h3 : evSl d1 none (some i) = r) : evE (.slHi a b) S = r := by
  rw [evE, h1]
  simp only [Res.bind]
  rw [h2]
  exact h3
theorem e_lo {a b : ME} {S : List SV} {d1 : MP.D} {i : Int} {k1 k2 : Kd} {r : Res (MP.D × Kd)} (h1 : evE a S = .ok (d1, k1)) (h2 : evE b S = .ok (.int i, k2)) (h3 : evSl d1 (some i) none = r) : evE (.slLo a b) S = r := by
  rw [evE, h1]
  simp only [Res.bind]
  rw [h2]
  exact h3
theorem e_lst1 {a : ME} {S : List SV} {d : MP.D} (h1 : evE a S = .ok (d, .sh)) : evE (.lst [a]) S = .ok (.lst [d], .fr) := by
  simp [evE, evEs, args1, hasBo, h1]
theorem e_call1 {x : Str} {f : Fn} {a : ME} {S : List SV} {d r : MP.D} (h1 : evE a S = .ok (d, .sh)) (h2 : f [d] = .ok (r, false)) : evE (.call x f [a]) S = .ok (r, .sh) := by
  simp [evE, evEs, args1, hasBo, h1, h2]
theorem e_call2 {x : Str} {f : Fn} {a b : ME} {S : List SV} {d1 d2 r : MP.D} (h1 : evE a S = .ok (d1, .sh)) (h2 : evE b S = .ok (d2, .sh)) (h3 : f [d1, d2] = .ok (r, false)) : evE (.call x f [a, b]) S = .ok (r, .sh) := by
  simp [evE, evEs, args1, hasBo, h1, h2, h3]
theorem e_call3 {x : Str} {f : Fn} {a b c : ME} {S : List SV} {d1 d2 d3 r : MP.D} (h1 : evE a S = .ok (d1, .sh)) (h2 : evE b S = .ok (d2, .sh)) (h3 : evE c S = .ok (d3, .sh)) (h4 : f [d1, d2, d3] = .ok (r, false)) : evE (.call x f [a, b, c]) S = .ok (r, .sh) := by
  simp [evE, evEs, args1, hasBo, h1, h2, h3, h4]
theorem e_blt1 {b : Blt} {a : ME} {S : List SV} {d : MP.D} {k : Kd} {r : Res (MP.D × Kd)} (h1 : evE a S = .ok (d, k)) (h2 : evBlt b [d] = r) : evE (.blt b [a]) S = r := by
  simp only [evE, evEs, Res.bind, args1, List.map]
  rw [h1]
  simp only [Res.bind, args1, List.map]
  exact h2
theorem p_set {n i : Nat} {e : ME} {S : List SV} {d : MP.D} {k : Kd} (h : evE e S = .ok (d, k)) (hk : k ≠ .bo) : exS n (.set i e) S = .nx (S.set i (.sh d)) := by
  rw [exS, h, bindS_ok]
  simp [hk]
theorem s_ret1 {n : Nat} {e : ME} {S : List SV} {d : MP.D} {ms : List MS} (h : evE e S = .ok (d, .sh)) : exSs n (.ret e :: ms) S = .ret d false := ss_ret (by rw [exS, h, bindS_ok]; simp)
theorem s_retF {n : Nat} {e : ME} {S : List SV} {d : MP.D} {ms : List MS} (h : evE e S = .ok (d, .fr)) : exSs n (.ret e :: ms) S = .ret d true := ss_ret (by rw [exS, h, bindS_ok]; simp)
theorem ife_take {n : Nat} {c : ME} {S : List SV} {a b : List MS} {r : SRes} (h : evE c S = .ok (.bl true, .sh)) (ha : exSs n a S = r) : exS n (.ife c a b) S = r := by
  rw [exS, h, bindS_ok]
  exact ha
theorem ife_other {n : Nat} {c : ME} {S : List SV} {a b : List MS} {r : SRes} (h : evE c S = .ok (.bl false, .sh)) (ha : exSs n b S = r) : exS n (.ife c a b) S = r := by
  rw [exS, h, bindS_ok]
  exact ha
theorem cat_L {a b : List (List Nat)} (h : a.length + b.length ≤ 16777216) : evBin .add (.lst (strL a)) (.lst (strL b)) = .ok (.lst (strL (a ++ b)), .fr) := by
  show (if (strL a).length + (strL b).length ≤ 16777216 then Res.ok (MP.D.lst (strL a ++ strL b), Kd.fr) else .stuck) = _
  rw [strL_len, strL_len, if_pos h, strL_app]
theorem hi_S {l : List Nat} (k : Nat) (h : l.length ≤ 16777216) : evSl (.str (mkS l)) none (some (k : Int)) = .ok (.str (mkS (l.take k)), .sh) := by
  show (if (mkS l).length ≤ 16777216 then Res.ok (MP.D.str (L2.cutS (mkS l) none (some (k : Int))), Kd.sh) else .stuck) = _
  rw [mk_len, if_pos h]
  congr 3
  rw [← mk_cds (L2.cutS (mkS l) none (some (k : Int)))]
  congr 1
  show (((mkS l).cps.toList.drop (HT.sIx (mkS l).length 0 none)).take (HT.sIx (mkS l).length (mkS l).length (some ((k : Nat) : Int)) - HT.sIx (mkS l).length 0 none)).toArray.toList = _
  rw [HT.sIx_nat, HT.sIx_none, mk_len]
  have : (mkS l).cps.toList = l := cds_mk l
  rw [this]
  show (l.drop 0).take (min k l.length - 0) = _
  rw [List.drop_zero, Nat.sub_zero]
  by_cases hk : k ≤ l.length
  · rw [Nat.min_eq_left hk]
  · rw [Nat.min_eq_right (by omega), List.take_length, List.take_of_length_le (by omega)]
theorem lo_S {l : List Nat} (k : Nat) (h : l.length ≤ 16777216) : evSl (.str (mkS l)) (some (k : Int)) none = .ok (.str (mkS (l.drop k)), .sh) := by
  show (if (mkS l).length ≤ 16777216 then Res.ok (MP.D.str (L2.cutS (mkS l) (some (k : Int)) none), Kd.sh) else .stuck) = _
  rw [mk_len, if_pos h]
  congr 3
  rw [← mk_cds (L2.cutS (mkS l) (some (k : Int)) none)]
  congr 1
  show (((mkS l).cps.toList.drop (HT.sIx (mkS l).length 0 (some ((k : Nat) : Int)))).take (HT.sIx (mkS l).length (mkS l).length none - HT.sIx (mkS l).length 0 (some ((k : Nat) : Int)))).toArray.toList = _
  rw [HT.sIx_nat, HT.sIx_none, mk_len]
  have : (mkS l).cps.toList = l := cds_mk l
  rw [this]
  show (l.drop (min k l.length)).take (l.length - min k l.length) = _
  rw [List.take_of_length_le (by simp)]
  by_cases hk : k ≤ l.length
  · rw [Nat.min_eq_left hk]
  · rw [Nat.min_eq_right (by omega), List.drop_eq_nil_of_le (Nat.le_refl _), List.drop_eq_nil_of_le (by omega)]
theorem sub_S {l : List Nat} {j c : Nat} (h : l.length ≤ 16777216) (hj : l[j]? = some c) : evSub (.str (mkS l)) (.int (j : Nat)) = .ok (.str (mkS [c]), .sh) := by
  show (if (mkS l).length ≤ 16777216 then (match L2.atI (mkS l).cps.toList (j : Int) with | some c => Res.ok (MP.D.str ⟨#[c]⟩, Kd.sh) | none => .stuck) else .stuck) = _
  rw [mk_len, if_pos h]
  have e : (mkS l).cps.toList = l := cds_mk l
  rw [e, atI_nat, hj]
  rfl
theorem fmod_nat (c : Int) {n : Nat} (h : 0 < n) : ∃ j : Nat, c.fmod (n : Int) = j ∧ j < n := by
  have h1 := fmod_lt' (w := c) (m := n) (by omega)
  exact ⟨(c.fmod n).toNat, by omega, by omega⟩
theorem mod_nat (c : Int) {n : Nat} (h : 0 < n) : ∃ j : Nat, evBin .mod (.int c) (.int (n : Nat)) = .ok (.int (j : Nat), .sh) ∧ j < n := by
  obtain ⟨j, h1, h2⟩ := fmod_nat c h
  exact ⟨j, by rw [← h1]; exact ev_mod (by omega), h2⟩
/-! bad words -/
def badW : List (List Nat) := [[], [43, 49], [48, 49], [45, 48], [49, 95, 48], [49, 46, 48], [120], [45, 45, 49], [45], [49, 47], [47, 50], [49, 47, 48], [49, 47, 49], [50, 47, 52], [48, 47, 50], [49, 47, 48, 50], [49, 47, 45, 50], [49, 47, 50, 47, 51], [45, 48, 49], [49, 101, 51], 49 :: List.replicate 30 48, [49, 47, 49] ++ List.replicate 30 48, [48, 48], [45, 50, 47, 52], [49, 32, 47, 50]]
def badB (w : List Nat) : Bool := decide (w.length ≤ 40) && w.all (fun c => decide (32 ≤ c ∧ c ≤ 122)) && ((!(w.contains 32) && (fracV w).isNone) || decide ((splitL 32 w).length = 2))
theorem badW_all : badW.all badB = true := by decide +kernel
theorem mul_0 : evBin .mul (.str "0") (.int 30) = .ok (.str (mkS (List.replicate 30 48)), .sh) := by
  show (if (0 : Int) ≤ 30 ∧ (30 : Int) ≤ 1000 ∧ (("0" : String) : Str).length ≤ 1000 then Res.ok (MP.D.str (Txt.mul (("0" : String) : Str) 30), Kd.sh) else .stuck) = _
  rw [if_pos ⟨by decide, by decide, by decide +kernel⟩]
  congr 3
theorem bw1 : [MP.D.str "", .str "+1", .str "01", .str "-0", .str "1_0", .str "1.0", .str "x", .str "--1", .str "-", .str "1/", .str "/2", .str "1/0", .str "1/1", .str "2/4"] = strL (badW.take 14) := by
  have e : (["", "+1", "01", "-0", "1_0", "1.0", "x", "--1", "-", "1/", "/2", "1/0", "1/1", "2/4"] : List Str) = (badW.take 14).map mkS := by decide +kernel
  have := congrArg (List.map MP.D.str) e
  rw [List.map_map] at this
  exact this
theorem bw2 : [MP.D.str "0/2", .str "1/02", .str "1/-2"] = strL ((badW.drop 14).take 3) := by
  have e : (["0/2", "1/02", "1/-2"] : List Str) = ((badW.drop 14).take 3).map mkS := by decide +kernel
  have := congrArg (List.map MP.D.str) e
  rw [List.map_map] at this
  exact this
theorem bw3 : [MP.D.str "1/2/3", .str "-01", .str "1e3", .str (mkS (49 :: List.replicate 30 48)), .str (mkS ([49, 47, 49] ++ List.replicate 30 48)), .str "00", .str "-2/4", .str "1 /2"] = strL (badW.drop 17) := by
  have e : (["1/2/3", "-01", "1e3", mkS (49 :: List.replicate 30 48), mkS ([49, 47, 49] ++ List.replicate 30 48), "00", "-2/4", "1 /2"] : List Str) = (badW.drop 17).map mkS := by decide +kernel
  have := congrArg (List.map MP.D.str) e
  rw [List.map_map] at this
  exact this
theorem bad_word_ok (c : Int) : ∃ w ∈ badW, m_law_bad_word [.int c] = .ok (.str (mkS w), false) := by
  have l1 : (("1" : String) : Str) = mkS [49] := by decide +kernel
  have l2 : (("1/1" : String) : Str) = mkS [49, 47, 49] := by decide +kernel
  have a1 := add_S (a := [49]) (b := List.replicate 30 48) (by simp)
  have a2 := add_S (a := [49, 47, 49]) (b := List.replicate 30 48) (by simp)
  have c1 := cat_L (a := badW.take 14) (b := (badW.drop 14).take 3) (by decide)
  have c2 := cat_L (a := badW.take 14 ++ (badW.drop 14).take 3) (b := badW.drop 17) (by decide)
  have e3 : badW.take 14 ++ (badW.drop 14).take 3 ++ badW.drop 17 = badW := rfl
  rw [e3] at c2
  obtain ⟨j, hj, hlt⟩ := mod_nat c (n := 25) (by decide)
  have lb : evBlt .len [.lst (strL badW)] = .ok (.int (25 : Nat), .sh) := rfl
  obtain ⟨w, hw⟩ : ∃ w, badW[j]? = some w := ⟨_, List.getElem?_eq_getElem (show j < badW.length from hlt)⟩
  refine ⟨w, List.mem_of_getElem? hw, mir_ret ?_⟩
  unfold b_law_bad_word
  show exSs fuel _ [.sh (.int c), .no] = _
  have v1 : evE (.lst [(.str ""), (.str "+1"), (.str "01"), (.str "-0"), (.str "1_0"), (.str "1.0"), (.str "x"), (.str "--1"), (.str "-"), (.str "1/"), (.str "/2"), (.str "1/0"), (.str "1/1"), (.str "2/4")]) [.sh (.int c), .no] = .ok (.lst (strL (badW.take 14)), .fr) := by
    rw [← bw1]
    simp [evE, evEs, args1, hasBo]
  have v2 : evE (.lst [(.str "0/2"), (.str "1/02"), (.str "1/-2")]) [.sh (.int c), .sh (.lst (strL (badW.take 14)))] = .ok (.lst (strL ((badW.drop 14).take 3)), .fr) := by
    rw [← bw2]
    simp [evE, evEs, args1, hasBo]
  have v3 : evE (.lst [(.str "1/2/3"), (.str "-01"), (.str "1e3"), (.bin .add (.str "1") (.bin .mul (.str "0") (.int 30))), (.bin .add (.str "1/1") (.bin .mul (.str "0") (.int 30))), (.str "00"), (.str "-2/4"), (.str "1 /2")]) [.sh (.int c), .sh (.lst (strL (badW.take 14 ++ (badW.drop 14).take 3)))] = .ok (.lst (strL (badW.drop 17)), .fr) := by
    rw [← bw3]
    have x1 : evE (.bin .add (.str "1") (.bin .mul (.str "0") (.int 30))) [.sh (.int c), .sh (.lst (strL (badW.take 14 ++ (badW.drop 14).take 3)))] = .ok (.str (mkS (49 :: List.replicate 30 48)), .sh) := e_bin (d1 := .str (mkS [49])) (k1 := .sh) (by rw [evE, l1]) (e_bin (by rw [evE]) (by rw [evE]) mul_0) a1
    have x2 : evE (.bin .add (.str "1/1") (.bin .mul (.str "0") (.int 30))) [.sh (.int c), .sh (.lst (strL (badW.take 14 ++ (badW.drop 14).take 3)))] = .ok (.str (mkS ([49, 47, 49] ++ List.replicate 30 48)), .sh) := e_bin (d1 := .str (mkS [49, 47, 49])) (k1 := .sh) (by rw [evE, l2]) (e_bin (by rw [evE]) (by rw [evE]) mul_0) a2
    generalize (ME.bin .add (.str "1") (.bin .mul (.str "0") (.int 30))) = m1 at x1 ⊢
    generalize (ME.bin .add (.str "1/1") (.bin .mul (.str "0") (.int 30))) = m2 at x2 ⊢
    simp only [evE, evEs, x1, x2, Res.bind]
    simp [args1, hasBo]
  rw [ss_go (p_set v1 (by decide))]
  show exSs fuel _ [.sh (.int c), .sh (.lst (strL (badW.take 14)))] = _
  rw [ss_go (p_set (e_bin (d1 := .lst (strL (badW.take 14))) (k1 := .sh) (by simp [evE]) v2 c1) (by decide))]
  show exSs fuel _ [.sh (.int c), .sh (.lst (strL (badW.take 14 ++ (badW.drop 14).take 3)))] = _
  rw [ss_go (p_set (e_bin (d1 := .lst (strL (badW.take 14 ++ (badW.drop 14).take 3))) (k1 := .sh) (by simp [evE]) v3 c2) (by decide))]
  show exSs fuel _ [.sh (.int c), .sh (.lst (strL badW))] = _
  exact s_ret1 (e_sub (d1 := .lst (strL badW)) (k1 := .sh) (by simp [evE]) (e_bin (d1 := .int c) (k1 := .sh) (by simp [evE]) (e_blt1 (d := .lst (strL badW)) (k := .sh) (by simp [evE]) lb) hj) (strL_get hw))
/-! bad first lines -/
def firsts (a b : Nat) : List (List Nat) := [[], machC, machC ++ [32, a], machC ++ [32, a, 32, b, 32, 49], [77, 97, 99, 104, 105, 110, 101, 32, a, 32, b], machC ++ [115, 32, a, 32, b], machC ++ [32, 32, a, 32, b], 32 :: machC ++ [32, a, 32, b], machC ++ [32, a, 32, b, 32], machC ++ [32, 48, a, 32, b], machC ++ [32, 45, a, 32, b], machC ++ [32, a, 32, 48], machC ++ [32, 50, 53, 32, 49], machC ++ [32, a, 32, 53], machC ++ [32, 120, 32, 49]]
def firstB (N : Nat) (w : List Nat) : Bool := decide (w.length ≤ 40) && w.all (fun c => decide (32 ≤ c ∧ c ≤ 122)) && (match headV w with
  | some (n, k) => !(decide (n ≤ 24) && decide (k ≤ 4) && decide (n * k = N))
  | none => true)
theorem firsts_all : ∀ n k : Nat, 1 ≤ n → n ≤ 3 → 1 ≤ k → k ≤ 2 → (firsts (48 + n) (48 + k)).all (firstB (n * k)) = true := by
  intro n k n1 n3 k1 k2
  have hn : n = 1 ∨ n = 2 ∨ n = 3 := by omega
  have hk : k = 1 ∨ k = 2 := by omega
  rcases hn with rfl | rfl | rfl <;> rcases hk with rfl | rfl <;> decide +kernel
theorem bad_first_ok (c : Int) {n k : Nat} (n3 : n ≤ 9) (k2 : k ≤ 9) : ∃ w ∈ firsts (48 + n) (48 + k), m_law_bad_first [.int c, .int n, .int k] = .ok (.str (mkS w), false) := by
  have sn : evBlt .str [.int (n : Nat)] = .ok (.str (mkS [48 + n]), .sh) := by
    have h := str_I (i := (n : Nat)) (few_nat (by omega))
    rw [show intC ((n : Nat) : Int) = natC n from rfl, natC_lt (by omega)] at h
    exact h
  have sk : evBlt .str [.int (k : Nat)] = .ok (.str (mkS [48 + k]), .sh) := by
    have h := str_I (i := (k : Nat)) (few_nat (by omega))
    rw [show intC ((k : Nat) : Int) = natC k from rfl, natC_lt (by omega)] at h
    exact h
  generalize 48 + n = a at *
  generalize 48 + k = b at *
  have q1 : (("machine " : String) : Str) = mkS [109, 97, 99, 104, 105, 110, 101, 32] := by decide +kernel
  have q2 : (("Machine " : String) : Str) = mkS [77, 97, 99, 104, 105, 110, 101, 32] := by decide +kernel
  have q3 : (("machines " : String) : Str) = mkS [109, 97, 99, 104, 105, 110, 101, 115, 32] := by decide +kernel
  have q4 : (("machine  " : String) : Str) = mkS [109, 97, 99, 104, 105, 110, 101, 32, 32] := by decide +kernel
  have q5 : ((" machine " : String) : Str) = mkS [32, 109, 97, 99, 104, 105, 110, 101, 32] := by decide +kernel
  have q6 : (("machine 0" : String) : Str) = mkS [109, 97, 99, 104, 105, 110, 101, 32, 48] := by decide +kernel
  have q7 : (("machine -" : String) : Str) = mkS [109, 97, 99, 104, 105, 110, 101, 32, 45] := by decide +kernel
  have q8 : ((" 1" : String) : Str) = mkS [32, 49] := by decide +kernel
  have q9 : ((" 0" : String) : Str) = mkS [32, 48] := by decide +kernel
  have q10 : ((" 5" : String) : Str) = mkS [32, 53] := by decide +kernel
  have q11 : (("machine 25 1" : String) : Str) = mkS [109, 97, 99, 104, 105, 110, 101, 32, 50, 53, 32, 49] := by decide +kernel
  have q12 : (("machine x 1" : String) : Str) = mkS [109, 97, 99, 104, 105, 110, 101, 32, 120, 32, 49] := by decide +kernel
  have q13 : (("machine" : String) : Str) = mkS [109, 97, 99, 104, 105, 110, 101] := by decide +kernel
  have c1 := cat_L (a := (firsts a b).take 6) (b := ((firsts a b).drop 6).take 3) (by simp [firsts])
  have c2 := cat_L (a := (firsts a b).take 6 ++ ((firsts a b).drop 6).take 3) (b := ((firsts a b).drop 9).take 2) (by simp [firsts])
  have c3 := cat_L (a := (firsts a b).take 6 ++ ((firsts a b).drop 6).take 3 ++ ((firsts a b).drop 9).take 2) (b := (firsts a b).drop 11) (by simp [firsts])
  have e3 : (firsts a b).take 6 ++ ((firsts a b).drop 6).take 3 ++ ((firsts a b).drop 9).take 2 ++ (firsts a b).drop 11 = firsts a b := rfl
  rw [e3] at c3
  obtain ⟨j, hj, hlt⟩ := mod_nat c (n := 15) (by decide)
  have lb : evBlt .len [.lst (strL (firsts a b))] = .ok (.int (15 : Nat), .sh) := rfl
  obtain ⟨w, hw⟩ : ∃ w, (firsts a b)[j]? = some w := ⟨_, List.getElem?_eq_getElem (show j < (firsts a b).length from hlt)⟩
  refine ⟨w, List.mem_of_getElem? hw, mir_ret ?_⟩
  unfold b_law_bad_first
  show exSs fuel _ [.sh (.int c), .sh (.int n), .sh (.int k), .no, .no] = _
  have v0 : evE (.bin .add (.bin .add (.blt .str [(.loc 1)]) (.str " ")) (.blt .str [(.loc 2)])) [.sh (.int c), .sh (.int n), .sh (.int k), .no, .no] = .ok (.str (mkS [a, 32, b]), .sh) := by
    simp [evE, evEs, args1, sn, sk, s5, add_S]
  have v1 : evE (.lst [(.str ""), (.str "machine"), (.bin .add (.str "machine ") (.blt .str [(.loc 1)])), (.bin .add (.bin .add (.str "machine ") (.loc 3)) (.str " 1")), (.bin .add (.str "Machine ") (.loc 3)), (.bin .add (.str "machines ") (.loc 3))]) [.sh (.int c), .sh (.int n), .sh (.int k), .sh (.str (mkS [a, 32, b])), .no] = .ok (.lst (strL ((firsts a b).take 6)), .fr) := by
    simp [evE, evEs, args1, hasBo, sn, sk, s0, q1, q2, q3, q8, q13, add_S, firsts, strL, machC]
  have v2 : evE (.lst [(.bin .add (.str "machine  ") (.loc 3)), (.bin .add (.str " machine ") (.loc 3)), (.bin .add (.bin .add (.str "machine ") (.loc 3)) (.str " "))]) [.sh (.int c), .sh (.int n), .sh (.int k), .sh (.str (mkS [a, 32, b])), .sh (.lst (strL ((firsts a b).take 6)))] = .ok (.lst (strL (((firsts a b).drop 6).take 3)), .fr) := by
    simp [evE, evEs, args1, hasBo, sn, sk, s5, q1, q4, q5, add_S, firsts, strL, machC]
  have v3 : evE (.lst [(.bin .add (.str "machine 0") (.loc 3)), (.bin .add (.str "machine -") (.loc 3))]) [.sh (.int c), .sh (.int n), .sh (.int k), .sh (.str (mkS [a, 32, b])), .sh (.lst (strL ((firsts a b).take 6 ++ ((firsts a b).drop 6).take 3)))] = .ok (.lst (strL (((firsts a b).drop 9).take 2)), .fr) := by
    simp [evE, evEs, args1, hasBo, q6, q7, add_S, firsts, strL, machC]
  have v4 : evE (.lst [(.bin .add (.bin .add (.str "machine ") (.blt .str [(.loc 1)])) (.str " 0")), (.str "machine 25 1"), (.bin .add (.bin .add (.str "machine ") (.blt .str [(.loc 1)])) (.str " 5")), (.str "machine x 1")]) [.sh (.int c), .sh (.int n), .sh (.int k), .sh (.str (mkS [a, 32, b])), .sh (.lst (strL ((firsts a b).take 6 ++ ((firsts a b).drop 6).take 3 ++ ((firsts a b).drop 9).take 2)))] = .ok (.lst (strL ((firsts a b).drop 11)), .fr) := by
    simp [evE, evEs, args1, hasBo, sn, q1, q9, q10, q11, q12, add_S, firsts, strL, machC]
  rw [ss_go (p_set v0 (by decide))]
  show exSs fuel _ [.sh (.int c), .sh (.int n), .sh (.int k), .sh (.str (mkS [a, 32, b])), .no] = _
  rw [ss_go (p_set v1 (by decide))]
  show exSs fuel _ [.sh (.int c), .sh (.int n), .sh (.int k), .sh (.str (mkS [a, 32, b])), .sh (.lst (strL ((firsts a b).take 6)))] = _
  rw [ss_go (p_set (e_bin (d1 := .lst (strL ((firsts a b).take 6))) (k1 := .sh) rfl v2 c1) (by decide))]
  show exSs fuel _ [.sh (.int c), .sh (.int n), .sh (.int k), .sh (.str (mkS [a, 32, b])), .sh (.lst (strL ((firsts a b).take 6 ++ ((firsts a b).drop 6).take 3)))] = _
  rw [ss_go (p_set (e_bin (d1 := .lst (strL ((firsts a b).take 6 ++ ((firsts a b).drop 6).take 3))) (k1 := .sh) rfl v3 c2) (by decide))]
  show exSs fuel _ [.sh (.int c), .sh (.int n), .sh (.int k), .sh (.str (mkS [a, 32, b])), .sh (.lst (strL ((firsts a b).take 6 ++ ((firsts a b).drop 6).take 3 ++ ((firsts a b).drop 9).take 2)))] = _
  rw [ss_go (p_set (e_bin (d1 := .lst (strL ((firsts a b).take 6 ++ ((firsts a b).drop 6).take 3 ++ ((firsts a b).drop 9).take 2))) (k1 := .sh) rfl v4 c3) (by decide))]
  show exSs fuel _ [.sh (.int c), .sh (.int n), .sh (.int k), .sh (.str (mkS [a, 32, b])), .sh (.lst (strL (firsts a b)))] = _
  exact s_ret1 (e_sub (d1 := .lst (strL (firsts a b))) (k1 := .sh) rfl (e_bin (d1 := .int c) (k1 := .sh) rfl (e_blt1 (d := .lst (strL (firsts a b))) (k := .sh) rfl lb) hj) (strL_get hw))
/-! blanks -/
theorem compC_flt {i : Nat} {f c : List SV → Res (MP.D × Kd)} {S : List SV} (t : Nat → Bool) : ∀ xs : List Nat, (∀ j ∈ xs, c (S.set i (.sh (.int (j : Nat)))) = .ok (.bl (t j), .sh) ∧ f (S.set i (.sh (.int (j : Nat)))) = .ok (.int (j : Nat), .sh)) → compC i f c S (xs.map fun j : Nat => MP.D.int j) = .ok ((xs.filter t).map fun j : Nat => MP.D.int j)
  | [], _ => rfl
  | x :: xs, h => by
    obtain ⟨h1, h2⟩ := h x List.mem_cons_self
    have ih := compC_flt t xs fun j hj => h j (List.mem_cons_of_mem _ hj)
    rw [List.map_cons, compC, h1]
    cases ht : t x with
    | true =>
      rw [List.filter_cons_of_pos ht, List.map_cons]
      dsimp only
      rw [h2, ih]
      rfl
    | false =>
      rw [List.filter_cons_of_neg (by simp [ht])]
      exact ih
def places (l : List Nat) : List Nat := (List.range l.length).filter fun j => decide (l[j]? = some 32)
theorem blanks_ok {l : List Nat} (c : Int) (b : Bool) (h : 32 ∈ l) (hl : l.length ≤ 100000) (hy : Lay l) : ∃ l', m_law_blanks [.str (mkS l), .int c, .bl b] = .ok (.str (mkS l'), false) ∧ (splitL 32 l').length ≠ (splitL 32 l).length ∧ (∀ x ∈ l', x = 32 ∨ x ∈ l) ∧ l'.length ≤ l.length + 1 := by
  have ll : evBlt .len [.str (mkS l)] = .ok (.int (l.length : Nat), .sh) := len_S (by omega)
  have ec : evE c_law_blanks_1 [.sh (.str (mkS l)), .sh (.int c), .sh (.bl b), .no, .no, .no] = .ok (.lst ((places l).map fun j : Nat => MP.D.int j), .fr) := by
    have e1 : evEs [(.blt .len [(.loc 0)])] [.sh (.str (mkS l)), .sh (.int c), .sh (.bl b), .no, .no, .no] = .ok [(.int (l.length : Nat), .sh)] := by
      simp [evE, evEs, args1, ll]
    have e2 := compC_flt (i := 5) (f := evE ce_law_blanks_1) (c := evE cc_law_blanks_1) (S := [.sh (.str (mkS l)), .sh (.int c), .sh (.bl b), .no, .no, .no]) (fun j => decide (l[j]? = some 32)) (List.range l.length) fun j hj => by
      have hj := List.mem_range.mp hj
      obtain ⟨x, hx⟩ : ∃ x, l[j]? = some x := ⟨_, List.getElem?_eq_getElem hj⟩
      have hs := sub_S (by omega) hx
      have e := ev_eqS (a := [x]) (b := [32]) (fun y hy' => by rw [List.mem_singleton.mp hy']; exact hy x (List.mem_of_getElem? hx)) (lay_lit [32] rfl)
      have ed : decide ([x] = [32]) = decide (l[j]? = some 32) := by rw [hx]; exact decide_eq_decide.mpr (by simp)
      rw [ed] at e
      refine ⟨?_, rfl⟩
      show evE (.cmp .eq (.sub (.loc 0) (.loc 5)) (.str " ")) [.sh (.str (mkS l)), .sh (.int c), .sh (.bl b), .no, .no, .sh (.int (j : Nat))] = _
      simp [evE, hs, s5, e]
    rw [c_law_blanks_1, evE, e1]
    simp only [Res.bind]
    rw [if_neg (by simp [hasBo])]
    have e3 : items .range1 (args1 [(MP.D.int (l.length : Nat), Kd.sh)]) = .ok ((List.range l.length).map fun j : Nat => MP.D.int j) := items_rng l.length (by omega)
    rw [e3]
    simp only
    rw [if_pos (by rw [List.length_map, List.length_range]; omega), e2]
    rfl
  have hpl : ∀ j ∈ places l, j < l.length ∧ l[j]? = some 32 := fun j hj => by
    obtain ⟨h1, h2⟩ := List.mem_filter.mp hj
    exact ⟨List.mem_range.mp h1, of_decide_eq_true h2⟩
  have hpn : 0 < (places l).length := by
    obtain ⟨j, hj⟩ := List.getElem?_of_mem h
    refine List.length_pos_of_mem (a := j) (List.mem_filter.mpr ⟨List.mem_range.mpr ?_, decide_eq_true hj⟩)
    exact (List.getElem?_eq_some_iff.mp hj).1
  have hpm : (places l).length ≤ l.length := by
    have := List.length_filter_le (fun j => decide (l[j]? = some 32)) (List.range l.length)
    rw [List.length_range] at this
    exact this
  have v0 : exS fuel (.set 3 c_law_blanks_1) [.sh (.str (mkS l)), .sh (.int c), .sh (.bl b), .no, .no, .no] = .nx [.sh (.str (mkS l)), .sh (.int c), .sh (.bl b), .sh (.lst ((places l).map fun j : Nat => MP.D.int j)), .no, .no] := p_set ec (by decide)
  have at_ : ∀ (ps : List Nat) (s4 s5' : SV), 0 < ps.length → ∃ j ∈ ps, evE (.sub (.loc 3) (.bin .mod (.loc 1) (.blt .len [(.loc 3)]))) [.sh (.str (mkS l)), .sh (.int c), .sh (.bl b), .sh (.lst (ps.map fun j : Nat => MP.D.int j)), s4, s5'] = .ok (.int (j : Nat), .sh) := fun ps s4 s5' h0 => by
    obtain ⟨i, hi, hlt⟩ := mod_nat c h0
    have lb : evBlt .len [.lst (ps.map fun j : Nat => MP.D.int j)] = .ok (.int (ps.length : Nat), .sh) := by rw [blt_len_l2, List.length_map]
    obtain ⟨j, hj⟩ : ∃ j, ps[i]? = some j := ⟨_, List.getElem?_eq_getElem hlt⟩
    refine ⟨j, List.mem_of_getElem? hj, ?_⟩
    exact e_sub (d1 := .lst (ps.map fun j : Nat => MP.D.int j)) (k1 := .sh) rfl (e_bin (d1 := .int c) (k1 := .sh) rfl (e_blt1 (d := .lst (ps.map fun j : Nat => MP.D.int j)) (k := .sh) rfl lb) hi) (Sq.sub (xs := ps.map fun j : Nat => MP.D.int j) (.inr rfl) (by rw [List.getElem?_map, hj]; rfl))
  cases b with
  | true =>
    obtain ⟨j, hj, e4⟩ := at_ (places l ++ [0, l.length]) .no .no (by simp)
    have hjl : j ≤ l.length := by
      rcases List.mem_append.mp hj with h1 | h1
      · exact Nat.le_of_lt (hpl j h1).1
      · have : j = 0 ∨ j = l.length := by simpa using h1
        omega
    refine ⟨l.take j ++ [32] ++ l.drop j, mir_ret ?_, ?_, fun x hx => ?_, ?_⟩
    · unfold b_law_blanks
      show exSs fuel _ [.sh (.str (mkS l)), .sh (.int c), .sh (.bl true), .no, .no, .no] = _
      have a1 := add_S (a := l.take j) (b := [32]) (by rw [List.length_take]; simp; omega)
      have a2 := add_S (a := l.take j ++ [32]) (b := l.drop j) (by rw [List.length_append, List.length_take, List.length_drop]; simp; omega)
      have v1 : evE (.bin .add (.loc 3) (.lst [(.int 0), (.blt .len [(.loc 0)])])) [.sh (.str (mkS l)), .sh (.int c), .sh (.bl true), .sh (.lst ((places l).map fun j : Nat => MP.D.int j)), .no, .no] = .ok (.lst ((places l ++ [0, l.length]).map fun j : Nat => MP.D.int j), .fr) := by
        refine e_bin (d1 := .lst ((places l).map fun j : Nat => MP.D.int j)) (k1 := .sh) (d2 := .lst [.int 0, .int (l.length : Nat)]) (k2 := .fr) rfl (by simp [evE, evEs, args1, hasBo, ll]) ?_
        show (if _ ≤ _ then Res.ok (MP.D.lst _, Kd.fr) else .stuck) = _
        rw [if_pos (by rw [List.length_map]; simp; omega), List.map_append]
        rfl
      rw [ss_go v0]
      refine ss_ret (ife_take rfl ?_)
      rw [ss_go (p_set v1 (by decide))]
      show exSs fuel _ [.sh (.str (mkS l)), .sh (.int c), .sh (.bl true), .sh (.lst ((places l ++ [0, l.length]).map fun j : Nat => MP.D.int j)), .no, .no] = _
      rw [ss_go (p_set e4 (by decide))]
      show exSs fuel _ [.sh (.str (mkS l)), .sh (.int c), .sh (.bl true), .sh (.lst ((places l ++ [0, l.length]).map fun j : Nat => MP.D.int j)), .sh (.int (j : Nat)), .no] = _
      exact s_ret1 (e_bin (e_bin (e_hi (d1 := .str (mkS l)) (k1 := .sh) (i := (j : Nat)) (k2 := .sh) rfl rfl (hi_S j (by omega))) (by rw [evE, s5]) a1) (e_lo (d1 := .str (mkS l)) (k1 := .sh) (i := (j : Nat)) (k2 := .sh) rfl rfl (lo_S j (by omega))) a2)
    · have := count_cut 32 l j
      rw [split_count, split_count, List.count_append, List.count_append, show List.count 32 [32] = 1 from rfl]
      omega
    · rcases List.mem_append.mp hx with hx | hx
      · rcases List.mem_append.mp hx with hx | hx
        · exact .inr (List.mem_of_mem_take hx)
        · exact .inl (List.mem_singleton.mp hx)
      · exact .inr (List.mem_of_mem_drop hx)
    · rw [List.length_append, List.length_append, List.length_take, List.length_drop]; simp; omega
  | false =>
    obtain ⟨j, hj, e4⟩ := at_ (places l) .no .no hpn
    obtain ⟨hjl, hj32⟩ := hpl j hj
    refine ⟨l.take j ++ l.drop (j + 1), mir_ret ?_, ?_, fun x hx => ?_, ?_⟩
    · unfold b_law_blanks
      show exSs fuel _ [.sh (.str (mkS l)), .sh (.int c), .sh (.bl false), .no, .no, .no] = _
      have a2 := add_S (a := l.take j) (b := l.drop (j + 1)) (by rw [List.length_take, List.length_drop]; omega)
      rw [ss_go v0, ss_go (ife_pass rfl), ss_go (p_set e4 (by decide))]
      show exSs fuel _ [.sh (.str (mkS l)), .sh (.int c), .sh (.bl false), .sh (.lst ((places l).map fun j : Nat => MP.D.int j)), .sh (.int (j : Nat)), .no] = _
      exact s_ret1 (e_bin (e_hi (d1 := .str (mkS l)) (k1 := .sh) (i := (j : Nat)) (k2 := .sh) rfl rfl (hi_S j (by omega))) (e_lo (d1 := .str (mkS l)) (k1 := .sh) (i := ((j + 1 : Nat) : Int)) (k2 := .sh) rfl rfl (lo_S (j + 1) (by omega))) a2)
    · have h1 := count_cut 32 l j
      have h2 : l.drop j = 32 :: l.drop (j + 1) := by
        rw [List.drop_eq_getElem_cons hjl]
        congr 1
        exact (List.getElem?_eq_some_iff.mp hj32).2
      rw [h2, List.count_cons_self] at h1
      rw [split_count, split_count, List.count_append]
      omega
    · rcases List.mem_append.mp hx with hx | hx
      · exact .inr (List.mem_of_mem_take hx)
      · exact .inr (List.mem_of_mem_drop hx)
    · rw [List.length_append, List.length_take, List.length_drop]; omega
end MP
set_option Elab.async false
set_option linter.all false
set_option maxRecDepth 100000
set_option maxHeartbeats 4000000
namespace MP
open PySem PySem.Spec PyProof.Rows L2 WM
noncomputable def b_law_spoiled_line : List MS := [.own 2 (.split (.loc 0) " "), .set 3 (.bin .add (.int 1) (.bin .mul (.int 2) (.blt .int [(.cmp .eq (.sub (.loc 2) (.int 0)) (.str "step"))]))), .set 4 (.bin .mod (.loc 1) (.int 4)), .set 5 (.bin .add (.loc 3) (.bin .mod (.bin .fdiv (.loc 1) (.int 4)) (.bin .sub (.blt .len [(.loc 2)]) (.loc 3)))), .ife (.cmp .eq (.loc 4) (.int 0)) [.sto 2 (.loc 5) (.call "_law_bad_word" m_law_bad_word [(.bin .fdiv (.loc 1) (.int 24))])] [.ife (.cmp .eq (.loc 4) (.int 1)) [.ins 2 (.loc 5) (.str "1")] [.ife (.cmp .eq (.loc 4) (.int 2)) [.popd 2 (.loc 5)] [.sto 2 (.bin .mod (.bin .fdiv (.loc 1) (.int 24)) (.loc 3)) (.sub (.lst [(.str ""), (.str "x"), (.str "First"), (.str "7"), (.str "-1"), (.str "00")]) (.bin .mod (.bin .fdiv (.loc 1) (.int 72)) (.int 6)))]]], .ret (.join " " (.loc 2))]
noncomputable def m_law_spoiled_line : Fn := mirror 6 fuel b_law_spoiled_line
theorem map_erase {α β : Type} (f : α → β) (l : List α) (i : Nat) : (l.map f).eraseIdx i = (l.eraseIdx i).map f := by
  rw [List.eraseIdx_eq_take_drop_succ, List.eraseIdx_eq_take_drop_succ, List.map_append, List.map_take, List.map_drop]
theorem ss_nx {n : Nat} {m : MS} {S S1 : List SV} (h : exS n m S = .nx S1) : exSs n [m] S = .nx S1 := by rw [exSs, h]; simp [exSs]
theorem ixN_n {n j : Nat} (h : j < n) : ixN n (j : Int) = some j := by
  unfold ixN
  rw [if_pos (by omega), if_pos (by omega)]; simp
theorem count_joinL (c : Nat) : ∀ ps : List (List Nat), ps ≠ [] → (joinL c ps).count c + 1 = (ps.map (List.count c)).sum + ps.length
  | [], h => absurd rfl h
  | [p], _ => by show p.count c + 1 = p.count c + 0 + 1; omega
  | p :: q :: ps, _ => by
    have ih := count_joinL c (q :: ps) (by simp)
    show (p ++ c :: joinL c (q :: ps)).count c + 1 = p.count c + ((q :: ps).map (List.count c)).sum + ((q :: ps).length + 1)
    rw [List.count_append, List.count_cons_self]
    omega
theorem sum_zero {l : List Nat} (h : ∀ x ∈ l, x = 0) : l.sum = 0 := by
  induction l with
  | nil => rfl
  | cons x l ih => rw [List.sum_cons, h x List.mem_cons_self, ih fun y hy => h y (List.mem_cons_of_mem _ hy)]
/-- a part of a line, not too long, with signs of its own -/
def Okp (p : List Nat) : Prop := p.length ≤ 100 ∧ ∀ x ∈ p, 32 ≤ x ∧ x ≤ 122
theorem line_ok {ps : List (List Nat)} (h : ∀ p ∈ ps, Okp p) (hn : ps.length ≤ 40) : (joinL 32 ps).length ≤ 5000 ∧ (∀ x ∈ joinL 32 ps, 32 ≤ x ∧ x ≤ 122) ∧ joinD (mkS [32]) (.lst (strL ps)) = .ok (.str (mkS (joinL 32 ps)), .sh) := by
  have hs := sum_le (b := 100) fun p hp => (h p hp).1
  have hm : ps.length * 100 ≤ 40 * 100 := Nat.mul_le_mul_right _ hn
  have hj := joinL_len (d := 32) ps
  refine ⟨by omega, fun x hx => ?_, join_S (by omega)⟩
  rcases joinL_mem hx with e | ⟨p, hp, hx⟩
  · omega
  · exact (h p hp).2 x hx
def headsW : List (List Nat) := [[], [120], [70, 105, 114, 115, 116], [55], [45, 49], [48, 48]]
theorem hw1 : [MP.D.str "", .str "x", .str "First", .str "7", .str "-1", .str "00"] = strL headsW := by
  have e : (["", "x", "First", "7", "-1", "00"] : List Str) = headsW.map mkS := by decide +kernel
  have := congrArg (List.map MP.D.str) e
  rw [List.map_map] at this
  exact this
theorem headsW_ok : headsW.all (fun p => decide (p.length ≤ 100) && p.all (fun x => decide (33 ≤ x ∧ x ≤ 122))) = true := by decide +kernel
/-- the last branch's state, the line that comes of it -/
theorem line_end {ps : List (List Nat)} {x0 x1 x3 x4 x5 : SV} (h : ∀ p ∈ ps, Okp p) (hn : ps.length ≤ 40) : exSs fuel [.ret (.join " " (.loc 2))] [x0, x1, .ow (strL ps), x3, x4, x5] = .ret (.str (mkS (joinL 32 ps))) false := by
  obtain ⟨_, _, e⟩ := line_ok h hn
  refine s_ret1 ?_
  rw [evE]
  simp only [evE, List.getElem?_cons_succ, List.getElem?_cons_zero, Res.bind, s5]
  exact e
theorem spoiled_line_ok {l : List Nat} {ws fs : List (List Nat)} (c : Int) (he : splitL 32 l = ws ++ fs) (hf : fs ≠ []) (hw : (∃ w, ws = [w] ∧ w ≠ stepC) ∨ (∃ w2 w3, ws = [stepC, w2, w3])) (hx : ∀ w ∈ ws, w ∉ headsW)
    (ha : ∀ p ∈ ws ++ fs, Asc p ∧ p.length ≤ 100) (hl : l.length ≤ 100000) (hn : (ws ++ fs).length ≤ 30) :
    ∃ l', m_law_spoiled_line [.str (mkS l), .int c] = .ok (.str (mkS l'), false) ∧ rowV l' ws fs.length = none ∧ (∀ x ∈ l', 32 ≤ x ∧ x ≤ 122) ∧ l'.length ≤ 5000 := by
  have es : splitD " " (.str (mkS l)) = .ok (.lst (strL (ws ++ fs)), .fr) := by rw [s5, split_S2 32 (by omega), he]; rfl
  have okp : ∀ p ∈ ws ++ fs, Okp p := fun p hp => ⟨(ha p hp).2, fun x hx => by have := (ha p hp).1 x hx; omega⟩
  have fre : ∀ p ∈ ws ++ fs, 32 ∉ p := fun p hp => (ha p hp).1.free (by decide)
  have hcnt : 1 ≤ ws.length := by
    rcases hw with ⟨w, rfl, _⟩ | ⟨w2, w3, rfl⟩
    · exact Nat.le_refl _
    · show 1 ≤ 3; decide
  have hfl : 0 < fs.length := List.length_pos_iff.mpr hf
  have hln : (ws ++ fs).length = ws.length + fs.length := List.length_append
  obtain ⟨j, hj, hjl⟩ := mod_nat (c.fdiv 4) hfl
  obtain ⟨way, hway, hwl⟩ := mod_nat c (n := 4) (by decide)
  have d4 : evBin .fdiv (.int c) (.int 4) = .ok (.int (c.fdiv 4), .sh) := ev_fdiv (by decide) (by decide +kernel)
  have d24 : evBin .fdiv (.int c) (.int 24) = .ok (.int (c.fdiv 24), .sh) := ev_fdiv (by decide) (by decide +kernel)
  have d72 : evBin .fdiv (.int c) (.int 72) = .ok (.int (c.fdiv 72), .sh) := ev_fdiv (by decide) (by decide +kernel)
  have hlay : ∀ p ∈ ws ++ fs, Lay p := fun p hp => (ha p hp).1.lay
  -- how many words stand ahead
  have vc : evE (.bin .add (.int 1) (.bin .mul (.int 2) (.blt .int [(.cmp .eq (.sub (.loc 2) (.int 0)) (.str "step"))]))) [.sh (.str (mkS l)), .sh (.int c), .ow (strL (ws ++ fs)), .no, .no, .no] = .ok (.int (ws.length : Nat), .sh) := by
    rcases hw with ⟨w, rfl, hne⟩ | ⟨w2, w3, rfl⟩
    · have g0 : evSub (.lst (strL ([w] ++ fs))) (.int 0) = .ok (.str (mkS w), .sh) := strL_get (j := 0) rfl
      have e := ev_eqS (a := w) (b := stepC) (hlay w (by simp)) (lay_lit stepC (by decide))
      rw [decide_eq_false hne] at e
      have b1 : evBlt .int [.bl false] = .ok (.int 0, .sh) := rfl
      generalize strL ([w] ++ fs) = X at g0
      simp [evE, evEs, args1, g0, t5, e, b1, evBin]
    · have g0 : evSub (.lst (strL ([stepC, w2, w3] ++ fs))) (.int 0) = .ok (.str (mkS stepC), .sh) := strL_get (j := 0) rfl
      have e := ev_eqS (a := stepC) (b := stepC) (lay_lit stepC (by decide)) (lay_lit stepC (by decide))
      rw [decide_eq_true rfl] at e
      have b1 : evBlt .int [.bl true] = .ok (.int 1, .sh) := rfl
      generalize strL ([stepC, w2, w3] ++ fs) = X at g0
      simp [evE, evEs, args1, g0, t5, e, b1, evBin]
  have lb : evBlt .len [.lst (strL (ws ++ fs))] = .ok (.int ((ws.length + fs.length : Nat) : Int), .sh) := by rw [blt_len_l2, strL_len, hln]
  have va : ∀ s4 : SV, evE (.bin .add (.loc 3) (.bin .mod (.bin .fdiv (.loc 1) (.int 4)) (.bin .sub (.blt .len [(.loc 2)]) (.loc 3)))) [.sh (.str (mkS l)), .sh (.int c), .ow (strL (ws ++ fs)), .sh (.int (ws.length : Nat)), s4, .no] = .ok (.int ((ws.length + j : Nat) : Int), .sh) := fun s4 => by
    have b1 : evBin .sub (.int ((ws.length + fs.length : Nat) : Int)) (.int (ws.length : Nat)) = .ok (.int (fs.length : Nat), .sh) := by
      rw [ev_subI]
      congr 3
      omega
    have b2 : evBin .add (.int (ws.length : Nat)) (.int (j : Nat)) = .ok (.int ((ws.length + j : Nat) : Int), .sh) := rfl
    refine e_bin (d1 := .int (ws.length : Nat)) (k1 := .sh) rfl (e_bin (e_bin (d1 := .int c) (k1 := .sh) rfl (by rw [evE]) d4) (e_bin (e_blt1 (d := .lst (strL (ws ++ fs))) (k := .bo) rfl lb) (d2 := .int (ws.length : Nat)) (k2 := .sh) rfl b1) hj) b2
  have pre : ∀ r, exSs fuel (b_law_spoiled_line.drop 4) [.sh (.str (mkS l)), .sh (.int c), .ow (strL (ws ++ fs)), .sh (.int (ws.length : Nat)), .sh (.int (way : Nat)), .sh (.int ((ws.length + j : Nat) : Int))] = .ret (.str (mkS r)) false → m_law_spoiled_line [.str (mkS l), .int c] = .ok (.str (mkS r), false) := fun r h => by
    refine mir_ret ?_
    unfold b_law_spoiled_line
    show exSs fuel _ [.sh (.str (mkS l)), .sh (.int c), .no, .no, .no, .no] = _
    rw [ss_go (S1 := [.sh (.str (mkS l)), .sh (.int c), .ow (strL (ws ++ fs)), .no, .no, .no]) (by simp [exS, evE, es]), ss_go (p_set vc (by decide))]
    show exSs fuel _ [.sh (.str (mkS l)), .sh (.int c), .ow (strL (ws ++ fs)), .sh (.int (ws.length : Nat)), .no, .no] = _
    rw [ss_go (p_set (e_bin (d1 := .int c) (k1 := .sh) rfl (d2 := .int (4 : Nat)) (k2 := .sh) rfl hway) (by decide))]
    show exSs fuel _ [.sh (.str (mkS l)), .sh (.int c), .ow (strL (ws ++ fs)), .sh (.int (ws.length : Nat)), .sh (.int (way : Nat)), .no] = _
    rw [ss_go (p_set (va _) (by decide))]
    exact h
  have cq : ∀ v : Int, evE (.cmp .eq (.loc 4) (.int v)) [.sh (.str (mkS l)), .sh (.int c), .ow (strL (ws ++ fs)), .sh (.int (ws.length : Nat)), .sh (.int (way : Nat)), .sh (.int ((ws.length + j : Nat) : Int))] = .ok (.bl (decide ((way : Int) = v)), .sh) := fun v => by simp [evE]
  have i5 : evE (.loc 5) [.sh (.str (mkS l)), .sh (.int c), .ow (strL (ws ++ fs)), .sh (.int (ws.length : Nat)), .sh (.int (way : Nat)), .sh (.int ((ws.length + j : Nat) : Int))] = .ok (.int ((ws.length + j : Nat) : Int), .sh) := rfl
  have go : ∀ {ps : List (List Nat)}, (∀ p ∈ ps, Okp p) → ps.length ≤ 40 → rowV (joinL 32 ps) ws fs.length = none → (∃ m, b_law_spoiled_line.drop 4 = [m, .ret (.join " " (.loc 2))] ∧ exS fuel m [.sh (.str (mkS l)), .sh (.int c), .ow (strL (ws ++ fs)), .sh (.int (ws.length : Nat)), .sh (.int (way : Nat)), .sh (.int ((ws.length + j : Nat) : Int))] = .nx [.sh (.str (mkS l)), .sh (.int c), .ow (strL ps), .sh (.int (ws.length : Nat)), .sh (.int (way : Nat)), .sh (.int ((ws.length + j : Nat) : Int))]) →
      ∃ l', m_law_spoiled_line [.str (mkS l), .int c] = .ok (.str (mkS l'), false) ∧ rowV l' ws fs.length = none ∧ (∀ x ∈ l', 32 ≤ x ∧ x ≤ 122) ∧ l'.length ≤ 5000 := fun {ps} h1 h2 h3 ⟨m, h4, h5⟩ => by
    obtain ⟨q1, q2, _⟩ := line_ok h1 h2
    refine ⟨joinL 32 ps, pre _ ?_, h3, q2, q1⟩
    rw [h4, ss_go h5]
    exact line_end h1 h2
  have hw4 : way = 0 ∨ way = 1 ∨ way = 2 ∨ way = 3 := by omega
  rcases hw4 with rfl | rfl | rfl | rfl
  · -- a bad word
    obtain ⟨w, hwm, ew⟩ := bad_word_ok (c.fdiv 24)
    have hb := List.all_eq_true.mp badW_all w hwm
    unfold badB at hb
    simp only [Bool.and_eq_true, Bool.or_eq_true, decide_eq_true_eq, List.all_eq_true, Bool.not_eq_true', List.contains_eq_mem, decide_eq_false_iff_not, Option.isNone_iff_eq_none] at hb
    obtain ⟨⟨hb1, hb2⟩, hb3⟩ := hb
    have eset : (ws ++ fs).set (ws.length + j) w = ws ++ fs.set j w := by
      rw [List.set_append_right _ _ (by omega), Nat.add_sub_cancel_left]
    have mem : ∀ p ∈ ws ++ fs.set j w, p = w ∨ p ∈ ws ++ fs := fun p hp => by
      rcases List.mem_append.mp hp with h | h
      · exact .inr (List.mem_append_left _ h)
      · rcases List.mem_or_eq_of_mem_set h with h | h
        · exact .inr (List.mem_append_right _ h)
        · exact .inl h
    refine go (ps := ws ++ fs.set j w) (fun p hp => ?_) (by rw [List.length_append, List.length_set]; omega) ?_ ⟨_, rfl, ?_⟩
    · rcases mem p hp with rfl | h
      · exact ⟨by omega, hb2⟩
      · exact okp p h
    · rcases hb3 with ⟨h32, hfv⟩ | h2
      · have e : splitL 32 (joinL 32 (ws ++ fs.set j w)) = ws ++ fs.set j w := split_joinL (by
          intro z
          have := congrArg List.length z
          rw [List.length_append, List.length_nil] at this
          omega) fun p hp => by
          rcases mem p hp with rfl | h
          · exact h32
          · exact fre p h
        refine rowV_bad (f := w) ?_ hfv
        rw [e, List.drop_left' rfl]
        exact List.mem_set hjl w
      · refine rowV_len ?_
        have hne : ws ++ fs.set j w ≠ [] := fun z => by
          have := congrArg List.length z
          rw [List.length_append, List.length_nil] at this
          omega
        have hcj := count_joinL 32 _ hne
        have hwc : w.count 32 = 1 := by rw [split_count] at h2; omega
        have hz : ∀ ps : List (List Nat), (∀ p ∈ ps, p ∈ ws ++ fs) → (ps.map (List.count 32)).sum = 0 := fun ps h => sum_zero fun x hx => by
          obtain ⟨p, hp, rfl⟩ := List.mem_map.mp hx
          exact List.count_eq_zero.mpr (fre p (h p hp))
        have hsum : ((ws ++ fs.set j w).map (List.count 32)).sum = 1 := by
          rw [List.set_eq_take_append_cons_drop, if_pos hjl, List.map_append, List.map_append, List.map_cons, List.sum_append, List.sum_append, List.sum_cons, hwc,
            hz ws fun p hp => List.mem_append_left _ hp, hz (fs.take j) fun p hp => List.mem_append_right _ (List.mem_of_mem_take hp), hz (fs.drop (j + 1)) fun p hp => List.mem_append_right _ (List.mem_of_mem_drop hp)]
        rw [hsum, List.length_append, List.length_set] at hcj
        rw [split_count]
        omega
    · refine ife_take (by rw [cq]; rfl) ?_
      have ec : evE (.call "_law_bad_word" m_law_bad_word [(.bin .fdiv (.loc 1) (.int 24))]) [.sh (.str (mkS l)), .sh (.int c), .ow (strL (ws ++ fs)), .sh (.int (ws.length : Nat)), .sh (.int (0 : Nat)), .sh (.int ((ws.length + j : Nat) : Int))] = .ok (.str (mkS w), .sh) := e_call1 (e_bin (d1 := .int c) (k1 := .sh) rfl (by rw [evE]) d24) ew
      have ix : ixN (strL (ws ++ fs)).length ((ws.length + j : Nat) : Int) = some (ws.length + j) := ixN_n (by rw [strL_len]; omega)
      have est : (strL (ws ++ fs)).set (ws.length + j) (.str (mkS w)) = strL (ws ++ fs.set j w) := by rw [← eset, strL, strL, List.map_set]
      rw [exSs, exS, ec, bindS_ok]
      simp only [List.getElem?_cons_succ, List.getElem?_cons_zero]
      rw [i5, bindS_ok]
      simp only [ix, est]
      rfl
  · -- a number more
    have l1 : (("1" : String) : Str) = mkS [49] := by decide +kernel
    have mem : ∀ p ∈ (ws ++ fs).take (ws.length + j) ++ [[49]] ++ (ws ++ fs).drop (ws.length + j), p = [49] ∨ p ∈ ws ++ fs := fun p hp => by
      rcases List.mem_append.mp hp with h | h
      · rcases List.mem_append.mp h with h | h
        · exact .inr (List.mem_of_mem_take h)
        · exact .inl (List.mem_singleton.mp h)
      · exact .inr (List.mem_of_mem_drop h)
    have hlen : ((ws ++ fs).take (ws.length + j) ++ [[49]] ++ (ws ++ fs).drop (ws.length + j)).length = ws.length + fs.length + 1 := by
      rw [List.length_append, List.length_append, List.length_take, List.length_drop, hln, List.length_singleton]; omega
    refine go (ps := (ws ++ fs).take (ws.length + j) ++ [[49]] ++ (ws ++ fs).drop (ws.length + j)) (fun p hp => ?_) (by omega) ?_ ⟨_, rfl, ?_⟩
    · rcases mem p hp with rfl | h
      · exact ⟨by decide, by decide⟩
      · exact okp p h
    · refine rowV_len ?_
      rw [split_joinL (fun z => by rw [z] at hlen; cases hlen) fun p hp => by
        rcases mem p hp with rfl | h
        · decide
        · exact fre p h, hlen]
      omega
    · refine ife_other (by rw [cq]; rfl) (ss_nx (ife_take (by rw [cq]; rfl) (ss_nx ?_)))
      have est : strL ((ws ++ fs).take (ws.length + j) ++ [[49]] ++ (ws ++ fs).drop (ws.length + j)) = (strL (ws ++ fs)).take (ws.length + j) ++ [.str (mkS [49])] ++ (strL (ws ++ fs)).drop (ws.length + j) := by
        rw [strL_app, strL_app]
        congr 1
        · congr 1
          exact List.map_take
        · exact List.map_drop
      have hz : (strL (ws ++ fs)).length < 16777216 ∧ (0 : Int) ≤ ((ws.length + j : Nat) : Int) ∧ ((ws.length + j : Nat) : Int).natAbs < 16777216 := ⟨by rw [strL_len]; omega, by omega, by omega⟩
      rw [exS]
      simp only [List.getElem?_cons_succ, List.getElem?_cons_zero]
      rw [i5, bindS_ok]
      simp only [evE, bindS_ok, l1]
      rw [if_neg (by decide), if_pos hz, est]
      rfl
  · -- a number less
    have hlen : ((ws ++ fs).eraseIdx (ws.length + j)).length = ws.length + fs.length - 1 := by
      rw [List.length_eraseIdx, if_pos (by omega), hln]
    refine go (ps := (ws ++ fs).eraseIdx (ws.length + j)) (fun p hp => okp p (List.mem_of_mem_eraseIdx hp)) (by omega) ?_ ⟨_, rfl, ?_⟩
    · refine rowV_len ?_
      rw [split_joinL (fun z => by rw [z] at hlen; simp at hlen; omega) fun p hp => fre p (List.mem_of_mem_eraseIdx hp), hlen]
      omega
    · refine ife_other (by rw [cq]; rfl) (ss_nx (ife_other (by rw [cq]; rfl) (ss_nx (ife_take (by rw [cq]; rfl) (ss_nx ?_)))))
      have est : (strL (ws ++ fs)).eraseIdx (ws.length + j) = strL ((ws ++ fs).eraseIdx (ws.length + j)) := by
        rw [strL, strL]
        exact map_erase _ _ _
      have hz : (0 : Int) ≤ ((ws.length + j : Nat) : Int) ∧ ((ws.length + j : Nat) : Int) < ((strL (ws ++ fs)).length : Nat) ∧ (strL (ws ++ fs)).length ≤ 16777216 := ⟨by omega, by rw [strL_len]; omega, by rw [strL_len]; omega⟩
      rw [exS]
      simp only [List.getElem?_cons_succ, List.getElem?_cons_zero]
      rw [i5, bindS_ok]
      simp only
      rw [if_pos hz, Int.toNat_natCast, est]
      rfl
  · -- another head
    obtain ⟨i, hi, hil⟩ := mod_nat (c.fdiv 24) (n := ws.length) (by omega)
    obtain ⟨k, hk, hkl⟩ := mod_nat (c.fdiv 72) (n := 6) (by decide)
    obtain ⟨w, hwk⟩ : ∃ w, headsW[k]? = some w := ⟨_, List.getElem?_eq_getElem (show k < headsW.length from hkl)⟩
    have hwm := List.mem_of_getElem? hwk
    have hb := List.all_eq_true.mp headsW_ok w hwm
    simp only [Bool.and_eq_true, decide_eq_true_eq, List.all_eq_true] at hb
    have eset : (ws ++ fs).set i w = ws.set i w ++ fs := List.set_append_left _ _ hil
    have mem : ∀ p ∈ ws.set i w ++ fs, p = w ∨ p ∈ ws ++ fs := fun p hp => by
      rcases List.mem_append.mp hp with h | h
      · rcases List.mem_or_eq_of_mem_set h with h | h
        · exact .inr (List.mem_append_left _ h)
        · exact .inl h
      · exact .inr (List.mem_append_right _ h)
    refine go (ps := ws.set i w ++ fs) (fun p hp => ?_) (by rw [List.length_append, List.length_set]; omega) ?_ ⟨_, rfl, ?_⟩
    · rcases mem p hp with rfl | h
      · exact ⟨hb.1, fun x hx => by have := hb.2 x hx; omega⟩
      · exact okp p h
    · refine rowV_ws ?_
      rw [split_joinL (fun z => by
          have := congrArg List.length z
          rw [List.length_append, List.length_nil] at this
          omega) fun p hp => by
        rcases mem p hp with rfl | h
        · exact fun z => by have := hb.2 32 z; omega
        · exact fre p h, List.take_left' (by rw [List.length_set])]
      intro z
      have hg : (ws.set i w)[i]? = some w := List.getElem?_set_self hil
      rw [z] at hg
      exact hx w (List.mem_of_getElem? hg) hwm
    · refine ife_other (by rw [cq]; rfl) (ss_nx (ife_other (by rw [cq]; rfl) (ss_nx (ife_other (by rw [cq]; rfl) (ss_nx ?_)))))
      have ek : evE (.bin .mod (.bin .fdiv (.loc 1) (.int 24)) (.loc 3)) [.sh (.str (mkS l)), .sh (.int c), .ow (strL (ws ++ fs)), .sh (.int (ws.length : Nat)), .sh (.int (3 : Nat)), .sh (.int ((ws.length + j : Nat) : Int))] = .ok (.int (i : Nat), .sh) := e_bin (e_bin (d1 := .int c) (k1 := .sh) rfl (by rw [evE]) d24) (d2 := .int (ws.length : Nat)) (k2 := .sh) rfl hi
      have ew : evE (.sub (.lst [(.str ""), (.str "x"), (.str "First"), (.str "7"), (.str "-1"), (.str "00")]) (.bin .mod (.bin .fdiv (.loc 1) (.int 72)) (.int 6))) [.sh (.str (mkS l)), .sh (.int c), .ow (strL (ws ++ fs)), .sh (.int (ws.length : Nat)), .sh (.int (3 : Nat)), .sh (.int ((ws.length + j : Nat) : Int))] = .ok (.str (mkS w), .sh) := by
        refine e_sub (d1 := .lst (strL headsW)) (k1 := .fr) ?_ (e_bin (e_bin (d1 := .int c) (k1 := .sh) rfl (by rw [evE]) d72) (d2 := .int (6 : Nat)) (k2 := .sh) rfl hk) (strL_get hwk)
        rw [← hw1]
        simp [evE, evEs, args1, hasBo]
      have ix : ixN (strL (ws ++ fs)).length ((i : Nat) : Int) = some i := ixN_n (by rw [strL_len]; omega)
      have est : (strL (ws ++ fs)).set i (.str (mkS w)) = strL (ws.set i w ++ fs) := by rw [← eset, strL, strL, List.map_set]
      rw [exS, ew, bindS_ok]
      simp only [List.getElem?_cons_succ, List.getElem?_cons_zero]
      rw [ek, bindS_ok]
      simp only [ix, est]
      rfl
end MP
set_option Elab.async false
set_option linter.all false
set_option maxRecDepth 100000
set_option maxHeartbeats 4000000
namespace MP
open PySem PySem.Spec PyProof.Rows L2 WM
noncomputable def b_law_spoiled : List MS := [.set 4 (.bin .add (.int 1) (.bin .mod (.bin .fdiv (.loc 3) (.int 10)) (.bin .sub (.blt .len [(.loc 0)]) (.int 1)))), .set 5 (.bin .mod (.loc 3) (.int 10)), .ife (.or (.cmp .eq (.loc 5) (.int 7)) (.cmp .eq (.loc 5) (.int 8))) [.set 4 (.bin .mod (.bin .fdiv (.loc 3) (.int 10)) (.blt .len [(.loc 0)])), .ret (.bin .add (.bin .add (.slHi (.loc 0) (.loc 4)) (.lst [(.call "_law_blanks" m_law_blanks [(.sub (.loc 0) (.loc 4)), (.bin .fdiv (.loc 3) (.int 100)), (.cmp .eq (.loc 5) (.int 7))])])) (.slLo (.loc 0) (.bin .add (.loc 4) (.int 1))))] [], .ife (.cmp .eq (.loc 5) (.int 9)) [.set 4 (.bin .mod (.bin .fdiv (.loc 3) (.int 10)) (.bin .add (.blt .len [(.loc 0)]) (.int 1))), .ret (.bin .add (.bin .add (.slHi (.loc 0) (.loc 4)) (.lst [(.str "")])) (.slLo (.loc 0) (.loc 4)))] [], .ife (.cmp .eq (.loc 5) (.int 0)) [.ret (.bin .add (.lst [(.call "_law_bad_first" m_law_bad_first [(.bin .fdiv (.loc 3) (.int 10)), (.loc 1), (.loc 2)])]) (.slLo (.loc 0) (.int 1)))] [], .ife (.cmp .eq (.loc 5) (.int 1)) [.ret (.bin .add (.slHi (.loc 0) (.loc 4)) (.slLo (.loc 0) (.bin .add (.loc 4) (.int 1))))] [], .ife (.cmp .eq (.loc 5) (.int 2)) [.ret (.bin .add (.bin .add (.slHi (.loc 0) (.loc 4)) (.lst [(.sub (.loc 0) (.loc 4))])) (.slLo (.loc 0) (.loc 4)))] [], .ife (.cmp .eq (.loc 5) (.int 3)) [.ret (.bin .add (.lst [(.sub (.loc 0) (.int 0)), (.sub (.loc 0) (.int 2)), (.sub (.loc 0) (.int 1))]) (.slLo (.loc 0) (.int 3)))] [], .ife (.cmp .eq (.loc 5) (.int 4)) [.ret (.lst [(.sub (.lst [(.str ""), (.str " "), (.str "machine"), (.sub (.loc 0) (.int 1))]) (.bin .mod (.bin .fdiv (.loc 3) (.int 10)) (.int 4)))])] [], .ret (.bin .add (.bin .add (.slHi (.loc 0) (.loc 4)) (.lst [(.call "_law_spoiled_line" m_law_spoiled_line [(.sub (.loc 0) (.loc 4)), (.bin .fdiv (.loc 3) (.int 100))])])) (.slLo (.loc 0) (.bin .add (.loc 4) (.int 1))))]
noncomputable def m_law_spoiled : Fn := mirror 6 fuel b_law_spoiled
/-! the lines of a machine and where each stands -/
def RowAt (m : Mac) (j : Nat) (ws : List (List Nat)) : Prop := (j = 1 ∧ ws = [firstC]) ∨ (j = 2 ∧ ws = [lastC]) ∨ ∃ s a, s < m.k ∧ a < m.n ∧ j = 3 + (s * m.n + a) ∧ ws = stW s a
structure Sm (m : Mac) : Prop where
  rd : Rd m
  n1 : 1 ≤ m.n
  n3 : m.n ≤ 3
  k2 : m.k ≤ 2
theorem lines_get0 (m : Mac) : (linesM m)[0]? = some (headC m.n m.k) := rfl
theorem lines_get {m : Mac} (h : Rd m) {j : Nat} (h1 : 1 ≤ j) (h2 : j < 3 + m.k * m.n) : ∃ ws f, RowAt m j ws ∧ (linesM m)[j]? = some (lineC ws m.n f) ∧ ∀ i, i < m.n → Few30 (f i) := by
  by_cases e1 : j = 1
  · subst e1
    exact ⟨[firstC], m.F, .inl ⟨rfl, rfl⟩, rfl, h.F⟩
  by_cases e2 : j = 2
  · subst e2
    exact ⟨[lastC], m.L, .inr (.inl ⟨rfl, rfl⟩), rfl, h.L⟩
  have hn : 0 < m.n := Nat.pos_of_ne_zero fun z => by rw [z, Nat.mul_zero] at h2; omega
  have hs : (j - 3) / m.n < m.k := (Nat.div_lt_iff_lt_mul hn).mpr (by omega)
  have ha : (j - 3) % m.n < m.n := Nat.mod_lt _ hn
  have ej : j = 3 + ((j - 3) / m.n * m.n + (j - 3) % m.n) := by
    have := Nat.div_add_mod' (j - 3) m.n
    omega
  refine ⟨stW ((j - 3) / m.n) ((j - 3) % m.n), m.T ((j - 3) / m.n) ((j - 3) % m.n), .inr (.inr ⟨_, _, hs, ha, ej, rfl⟩), ?_, fun i hi => h.T _ _ i hs ha hi⟩
  have g := linesS_get hs ha
  rw [← ej, List.getElem?_append_left (by rw [linesM_count]; exact h2)] at g
  exact g
theorem rowAt_ws {m : Mac} (h : Sm m) {j : Nat} {ws : List (List Nat)} (r : RowAt m j ws) : ((∃ w, ws = [w] ∧ w ≠ stepC) ∨ (∃ w2 w3, ws = [stepC, w2, w3])) ∧ (∀ w ∈ ws, w ∉ headsW) ∧ (∀ p ∈ ws, Asc p ∧ p.length ≤ 100) ∧ ws.length ≤ 3 := by
  rcases r with ⟨_, rfl⟩ | ⟨_, rfl⟩ | ⟨s, a, hs, ha, _, rfl⟩
  · exact ⟨.inl ⟨_, rfl, by decide⟩, fun w hw => by rw [List.mem_singleton.mp hw]; decide, fun p hp => ⟨firstA p hp, by rw [List.mem_singleton.mp hp]; decide⟩, by decide⟩
  · exact ⟨.inl ⟨_, rfl, by decide⟩, fun w hw => by rw [List.mem_singleton.mp hw]; decide, fun p hp => ⟨lastA p hp, by rw [List.mem_singleton.mp hp]; decide⟩, by decide⟩
  · have h2 := h.k2
    have h3 := h.n3
    refine ⟨.inr ⟨_, _, rfl⟩, fun w hw => ?_, fun p hp => ⟨stA s a p hp, stW_len (by omega) (by omega) p hp⟩, Nat.le_refl 3⟩
    have hw : w = stepC ∨ w = natC s ∨ w = natC a := by simpa [stW] using hw
    have dig : ∀ x : Nat, x < 3 → natC x ∉ headsW := fun x hx => by
      rw [natC_lt (by omega)]
      have : x = 0 ∨ x = 1 ∨ x = 2 := by omega
      rcases this with rfl | rfl | rfl <;> decide
    rcases hw with rfl | rfl | rfl
    · decide
    · exact dig s (by omega)
    · exact dig a (by omega)
theorem line_parts {ws : List (List Nat)} {n : Nat} {f : Nat → Rat} (h0 : ws ≠ []) (ha : ∀ p ∈ ws, Asc p) : splitL 32 (lineC ws n f) = ws ++ (List.range n).map fun i => fracC (f i) := split_joinL (by
    cases ws with
    | nil => exact absurd rfl h0
    | cons => simp) fun p hp hm => by
    rcases List.mem_append.mp hp with hp | hp
    · exact (ha p hp).free (by decide) hm
    · obtain ⟨i, _, rfl⟩ := List.mem_map.mp hp
      exact (fracC_asc (f i)).free (by decide) hm
theorem head_split (n k : Nat) : splitL 32 (headC n k) = [machC, natC n, natC k] := split_joinL (by simp) fun p hp hm => (headA n k p hp).free (by decide) hm
theorem headV_head {n k : Nat} (hn : n ≤ 1000) (hk : k ≤ 1000) : headV (headC n k) = some ((n : Int), (k : Int)) := by
  unfold headV
  rw [head_split]
  show (if machC = machC then _ else _) = _
  rw [if_pos rfl, numV_nat (Nat.lt_of_le_of_lt hn (by decide +kernel)), numV_nat (Nat.lt_of_le_of_lt hk (by decide +kernel))]
theorem headV_len {l : List Nat} (h : (splitL 32 l).length ≠ 3) : headV l = none := by
  unfold headV
  generalize splitL 32 l = ps at h
  match ps, h with
  | [], _ => rfl
  | [_], _ => rfl
  | [_, _], _ => rfl
  | [_, _, _], h => exact absurd rfl h
  | _ :: _ :: _ :: _ :: _, _ => rfl
theorem headV_ne {l a : List Nat} {r : List (List Nat)} (h : splitL 32 l = a :: r) (ha : a ≠ machC) : headV l = none := by
  unfold headV
  rw [h]
  match r with
  | [] => rfl
  | [_] => rfl
  | [_, _] => exact if_neg ha
  | _ :: _ :: _ :: _ => rfl
/-! why it is not read -/
theorem bad_head {ls : List (List Nat)} {l0 : List Nat} (h0 : ls[0]? = some l0) (hv : headV l0 = none) : ¬ Reads ls := fun ⟨l, n, k, e, v, _⟩ => by
  rw [h0] at e
  cases e
  rw [hv] at v
  cases v
theorem reads_head {m : Mac} (h : Sm m) {ls : List (List Nat)} (h0 : ls[0]? = some (headC m.n m.k)) (R : Reads ls) : ls.length = 4 + m.n * m.k ∧ ∀ j ws l, RowAt m j ws → ls[j]? = some l → rowV l ws m.n ≠ none := by
  obtain ⟨l, n, k, e, v, _, _, hl, h1, h2, h3⟩ := R
  rw [h0] at e
  cases e
  have hn := h.n3
  have hk := h.k2
  rw [headV_head (by omega) (by omega)] at v
  have v := Option.some.inj v
  have en : n = m.n := by have := (Prod.mk.inj v).1; omega
  have ek : k = m.k := by have := (Prod.mk.inj v).2; omega
  subst en ek
  refine ⟨hl, fun j ws l r hj => ?_⟩
  rcases r with ⟨rfl, rfl⟩ | ⟨rfl, rfl⟩ | ⟨s, a, hs, ha, rfl, rfl⟩
  · exact h1 l hj
  · exact h2 l hj
  · exact h3 s a hs ha l hj
theorem bad_len {m : Mac} (h : Sm m) {ls : List (List Nat)} (h0 : ls[0]? = some (headC m.n m.k)) (hl : ls.length ≠ 4 + m.n * m.k) : ¬ Reads ls := fun R => hl (reads_head h h0 R).1
theorem bad_row {m : Mac} (h : Sm m) {ls : List (List Nat)} (h0 : ls[0]? = some (headC m.n m.k)) {j : Nat} {ws : List (List Nat)} {l : List Nat} (r : RowAt m j ws) (hj : ls[j]? = some l) (hv : rowV l ws m.n = none) : ¬ Reads ls := fun R => (reads_head h h0 R).2 j ws l r hj hv
/-- lines that may be put together -/
def Clean (L : List (List Nat)) : Prop := L ≠ [] ∧ L.length ≤ 20 ∧ ∀ p ∈ L, p.length ≤ 6000 ∧ ∀ x ∈ p, 32 ≤ x ∧ x ≤ 122
theorem Clean.mix {L : List (List Nat)} (h : Clean L) {L' : List (List Nat)} {l' : List Nat} (h1 : L' ≠ []) (h2 : L'.length ≤ 20) (h3 : ∀ p ∈ L', p = l' ∨ p ∈ L) (h4 : l'.length ≤ 6000 ∧ ∀ x ∈ l', 32 ≤ x ∧ x ≤ 122) : Clean L' := ⟨h1, h2, fun p hp => by
  rcases h3 p hp with rfl | h5
  · exact h4
  · exact h.2.2 p h5⟩
theorem lines_clean {m : Mac} (h : Sm m) : Clean (linesM m) ∧ (linesM m).length = 3 + m.k * m.n ∧ m.k * m.n ≤ 6 ∧ 1 ≤ m.k * m.n := by
  have h6 : m.k * m.n ≤ 2 * 3 := Nat.mul_le_mul h.k2 h.n3
  have h1 : 1 * 1 ≤ m.k * m.n := Nat.mul_le_mul h.rd.k1 h.n1
  refine ⟨⟨by unfold linesM; simp, by rw [linesM_count]; omega, fun p hp => ⟨by have := linesM_len h.rd.few p hp; omega, fun x hx => by have := lines_ch m p hp x hx; omega⟩⟩, linesM_count m, h6, h1⟩
/-- lines[:i] + [x] + lines[q:] -/
theorem e_mid {L : List (List Nat)} {l' : List Nat} {i x q : ME} {a b : Nat} {S : List SV} (h0 : evE (.loc 0) S = .ok (.lst (strL L), .sh)) (hi : evE i S = .ok (.int (a : Nat), .sh)) (hx : evE x S = .ok (.str (mkS l'), .sh)) (hq : evE q S = .ok (.int (b : Nat), .sh)) (hl : L.length ≤ 1000) :
    evE (.bin .add (.bin .add (.slHi (.loc 0) i) (.lst [x])) (.slLo (.loc 0) q)) S = .ok (.lst (strL (L.take a ++ [l'] ++ L.drop b)), .fr) := by
  have c1 := cat_L (a := L.take a) (b := [l']) (by rw [List.length_take]; simp; omega)
  have c2 := cat_L (a := L.take a ++ [l']) (b := L.drop b) (by rw [List.length_append, List.length_take, List.length_drop]; simp; omega)
  exact e_bin (e_bin (e_hi h0 hi (hi_L L a)) (e_lst1 hx) c1) (e_lo h0 hq (lo_L L b)) c2
theorem mid_mem {L : List (List Nat)} {l' : List Nat} {a b : Nat} : ∀ p ∈ L.take a ++ [l'] ++ L.drop b, p = l' ∨ p ∈ L := fun p hp => by
  rcases List.mem_append.mp hp with h | h
  · rcases List.mem_append.mp h with h | h
    · exact .inr (List.mem_of_mem_take h)
    · exact .inl (List.mem_singleton.mp h)
  · exact .inr (List.mem_of_mem_drop h)
theorem mid_set {L : List (List Nat)} {l' : List Nat} {a : Nat} (h : a < L.length) : L.take a ++ [l'] ++ L.drop (a + 1) = L.set a l' := by
  rw [List.set_eq_take_append_cons_drop, if_pos h]; simp
theorem mid_0 {L : List (List Nat)} {l' : List Nat} {a b : Nat} (h1 : 1 ≤ a) (h2 : a ≤ L.length) : ((L.take a ++ [l'] ++ L.drop b) ++ [[]])[0]? = L[0]? := by
  rw [List.append_assoc, List.append_assoc, List.getElem?_append_left (by rw [List.length_take]; omega), List.getElem?_take, if_pos (by omega)]
theorem set_0 {L : List (List Nat)} {l' : List Nat} {a : Nat} (h1 : 1 ≤ a) (h : 1 ≤ L.length) : (L.set a l' ++ [[]])[0]? = L[0]? := by
  rw [List.getElem?_append_left (by rw [List.length_set]; omega), List.getElem?_set_ne (by omega)]
theorem set_at {L : List (List Nat)} {l' : List Nat} {a : Nat} (h : a < L.length) : (L.set a l' ++ [[]])[a]? = some l' := by
  rw [List.getElem?_append_left (by rw [List.length_set]; omega), List.getElem?_set_self h]
theorem spoiled_ok {m : Mac} (h : Sm m) (c : Int) : ∃ L', m_law_spoiled [.lst (strL (linesM m)), .int m.n, .int m.k, .int c] = .ok (.lst (strL L'), true) ∧ ¬ Reads (L' ++ [[]]) ∧ Clean L' := by
  obtain ⟨cl, len, h6, h61⟩ := lines_clean h
  have hrd := h.rd
  have hn1 := h.n1
  have hn3 := h.n3
  have hk2 := h.k2
  have hcomm : m.n * m.k = m.k * m.n := Nat.mul_comm _ _
  have g0 := lines_get0 m
  have hrow : ∀ j, 1 ≤ j → j < 3 + m.k * m.n → ∃ ws fs l, RowAt m j ws ∧ (linesM m)[j]? = some l ∧ splitL 32 l = ws ++ fs ∧ fs.length = m.n ∧ ((∃ w, ws = [w] ∧ w ≠ stepC) ∨ (∃ w2 w3, ws = [stepC, w2, w3])) ∧ (∀ w ∈ ws, w ∉ headsW) ∧ (∀ p ∈ ws ++ fs, Asc p ∧ p.length ≤ 100) ∧ ws.length ≤ 3 := fun j j1 j2 => by
    obtain ⟨ws, f, r, e, hf⟩ := lines_get hrd j1 j2
    obtain ⟨w1, w2, w3, w4⟩ := rowAt_ws h r
    refine ⟨ws, (List.range m.n).map fun i => fracC (f i), _, r, e, line_parts (fun z => ?_) fun p hp => (w3 p hp).1, by rw [List.length_map, List.length_range], w1, w2, fun p hp => ?_, w4⟩
    · rcases w1 with ⟨w, rfl, _⟩ | ⟨_, _, rfl⟩ <;> cases z
    · rcases List.mem_append.mp hp with hp | hp
      · exact w3 p hp
      · obtain ⟨i, hi, rfl⟩ := List.mem_map.mp hp
        have := fracC_len (hf i (List.mem_range.mp hi)).few
        exact ⟨fracC_asc _, by omega⟩
  have l1 : (linesM m)[1]? = some (lineC [firstC] m.n m.F) := rfl
  have l2 : (linesM m)[2]? = some (lineC [lastC] m.n m.L) := rfl
  have p1 : splitL 32 (lineC [firstC] m.n m.F) = firstC :: ((List.range m.n).map fun i => fracC (m.F i)) := line_parts (by simp) firstA
  have p2 : splitL 32 (lineC [lastC] m.n m.L) = lastC :: ((List.range m.n).map fun i => fracC (m.L i)) := line_parts (by simp) lastA
  generalize hLL : linesM m = L at *
  have d10 : evBin .fdiv (.int c) (.int 10) = .ok (.int (c.fdiv 10), .sh) := ev_fdiv (by decide) (by decide +kernel)
  have d100 : evBin .fdiv (.int c) (.int 100) = .ok (.int (c.fdiv 100), .sh) := ev_fdiv (by decide) (by decide +kernel)
  obtain ⟨j, hj, hjl⟩ := mod_nat (c.fdiv 10) (n := 2 + m.k * m.n) (by omega)
  obtain ⟨way, hway, hwl⟩ := mod_nat c (n := 10) (by decide)
  have lb : evBlt .len [.lst (strL L)] = .ok (.int ((3 + m.k * m.n : Nat) : Int), .sh) := by rw [blt_len_l2, strL_len, len]
  have hL : L.length ≤ 1000 := by omega
  let S0 : List SV := [.sh (.lst (strL L)), .sh (.int (m.n : Nat)), .sh (.int (m.k : Nat)), .sh (.int c), .no, .no]
  have pre : ∀ d, exSs fuel (b_law_spoiled.drop 2) [.sh (.lst (strL L)), .sh (.int (m.n : Nat)), .sh (.int (m.k : Nat)), .sh (.int c), .sh (.int ((1 + j : Nat) : Int)), .sh (.int (way : Nat))] = .ret d true → m_law_spoiled [.lst (strL L), .int (m.n : Nat), .int (m.k : Nat), .int c] = .ok (d, true) := fun d hd => by
    refine mir_ret ?_
    unfold b_law_spoiled
    show exSs fuel _ [.sh (.lst (strL L)), .sh (.int (m.n : Nat)), .sh (.int (m.k : Nat)), .sh (.int c), .no, .no] = _
    have b1 : evBin .sub (.int ((3 + m.k * m.n : Nat) : Int)) (.int 1) = .ok (.int ((2 + m.k * m.n : Nat) : Int), .sh) := by
      rw [ev_subI]
      congr 3
      omega
    have b2 : evBin .add (.int 1) (.int (j : Nat)) = .ok (.int ((1 + j : Nat) : Int), .sh) := by
      rw [ev_addI]
      congr 3
    rw [ss_go (p_set (e_bin (d1 := .int 1) (k1 := .sh) rfl (e_bin (e_bin (d1 := .int c) (k1 := .sh) rfl (by rw [evE]) d10) (e_bin (e_blt1 (d := .lst (strL L)) (k := .sh) rfl lb) (d2 := .int 1) (k2 := .sh) rfl b1) hj) b2) (by decide))]
    show exSs fuel _ [.sh (.lst (strL L)), .sh (.int (m.n : Nat)), .sh (.int (m.k : Nat)), .sh (.int c), .sh (.int ((1 + j : Nat) : Int)), .no] = _
    rw [ss_go (p_set (e_bin (d1 := .int c) (k1 := .sh) rfl (d2 := .int (10 : Nat)) (k2 := .sh) rfl hway) (by decide))]
    exact hd
  have cq : ∀ v : Int, evE (.cmp .eq (.loc 5) (.int v)) [.sh (.lst (strL L)), .sh (.int (m.n : Nat)), .sh (.int (m.k : Nat)), .sh (.int c), .sh (.int ((1 + j : Nat) : Int)), .sh (.int (way : Nat))] = .ok (.bl (decide ((way : Int) = v)), .sh) := fun v => by simp [evE]
  have at1 : ∀ w : Nat, evE (.bin .add (.loc 4) (.int 1)) [.sh (.lst (strL L)), .sh (.int (m.n : Nat)), .sh (.int (m.k : Nat)), .sh (.int c), .sh (.int (w : Nat)), .sh (.int (way : Nat))] = .ok (.int ((w + 1 : Nat) : Int), .sh) := fun w => rfl
  -- the places of the lines
  have hw10 : way = 0 ∨ way = 1 ∨ way = 2 ∨ way = 3 ∨ way = 4 ∨ (way = 5 ∨ way = 6) ∨ (way = 7 ∨ way = 8) ∨ way = 9 := by omega
  have notB : ¬ (way = 7 ∨ way = 8) → evE (.or (.cmp .eq (.loc 5) (.int 7)) (.cmp .eq (.loc 5) (.int 8))) [.sh (.lst (strL L)), .sh (.int (m.n : Nat)), .sh (.int (m.k : Nat)), .sh (.int c), .sh (.int ((1 + j : Nat) : Int)), .sh (.int (way : Nat))] = .ok (.bl false, .sh) := fun z => by
    have e7 := cq 7
    have e8 := cq 8
    rw [decide_eq_false (by omega)] at e7 e8
    exact ev_orN e7 e8
  have no : ∀ {v : Int}, ¬ (way : Int) = v → evE (.cmp .eq (.loc 5) (.int v)) [.sh (.lst (strL L)), .sh (.int (m.n : Nat)), .sh (.int (m.k : Nat)), .sh (.int c), .sh (.int ((1 + j : Nat) : Int)), .sh (.int (way : Nat))] = .ok (.bl false, .sh) := fun {v} z => by rw [cq, decide_eq_false z]
  have yes : ∀ {v : Int}, (way : Int) = v → evE (.cmp .eq (.loc 5) (.int v)) [.sh (.lst (strL L)), .sh (.int (m.n : Nat)), .sh (.int (m.k : Nat)), .sh (.int c), .sh (.int ((1 + j : Nat) : Int)), .sh (.int (way : Nat))] = .ok (.bl true, .sh) := fun {v} z => by rw [cq, decide_eq_true z]
  have ne0 : L ≠ [] := cl.1
  rcases hw10 with e | e | e | e | e | e | e | e
  · -- a bad first line
    obtain ⟨w, hwm, ew⟩ := bad_first_ok (c.fdiv 10) (n := m.n) (k := m.k) (by omega) (by omega)
    have hb := List.all_eq_true.mp (firsts_all m.n m.k hn1 hn3 hrd.k1 hk2) w hwm
    unfold firstB at hb
    simp only [Bool.and_eq_true, decide_eq_true_eq, List.all_eq_true] at hb
    obtain ⟨⟨hb1, hb2⟩, hb3⟩ := hb
    have hl' : ([w] ++ L.drop 1).length = 3 + m.k * m.n := by rw [List.length_append, List.length_drop, len]; simp; omega
    refine ⟨[w] ++ L.drop 1, pre _ ?_, fun R => ?_, cl.mix (l' := w) (by simp) (by omega) (fun p hp => ?_) ⟨by omega, hb2⟩⟩
    · have ec : evE (.call "_law_bad_first" m_law_bad_first [(.bin .fdiv (.loc 3) (.int 10)), (.loc 1), (.loc 2)]) [.sh (.lst (strL L)), .sh (.int (m.n : Nat)), .sh (.int (m.k : Nat)), .sh (.int c), .sh (.int ((1 + j : Nat) : Int)), .sh (.int (way : Nat))] = .ok (.str (mkS w), .sh) :=
        e_call3 (e_bin (d1 := .int c) (k1 := .sh) rfl (by rw [evE]) d10) rfl rfl ew
      have c1 := cat_L (a := [w]) (b := L.drop 1) (by rw [List.length_drop]; simp; omega)
      show exSs fuel (_ :: _ :: _ :: _) _ = _
      rw [ss_go (ife_pass (notB (by omega))), ss_go (ife_pass (no (v := 9) (by omega)))]
      refine ss_ret (ife_take (yes (by omega)) (s_retF (e_bin (e_lst1 ec) (e_lo (d1 := .lst (strL L)) (k1 := .sh) (i := ((1 : Nat) : Int)) (k2 := .sh) rfl rfl (lo_L L 1)) c1)))
    · obtain ⟨l, n, k, e0, v, vn, vk, hlen, _⟩ := R
      have e0 : some w = some l := e0
      cases e0
      rw [v] at hb3
      rw [List.length_append, hl'] at hlen
      have hlen : 3 + m.k * m.n + 1 = 4 + n * k := hlen
      have hnk : (n : Int) * (k : Int) = ((m.n * m.k : Nat) : Int) := by
        rw [show (n : Int) * (k : Int) = ((n * k : Nat) : Int) by push_cast; rfl]
        omega
      have hb3 : (!(decide ((n : Int) ≤ 24) && decide ((k : Int) ≤ 4) && decide ((n : Int) * (k : Int) = ((m.n * m.k : Nat) : Int)))) = true := hb3
      rw [decide_eq_true (show (n : Int) ≤ 24 by omega), decide_eq_true (show (k : Int) ≤ 4 by omega), decide_eq_true hnk] at hb3
      cases hb3
    · rcases List.mem_append.mp hp with h1 | h1
      · exact .inl (List.mem_singleton.mp h1)
      · exact .inr (List.mem_of_mem_drop h1)
  · -- a line left out
    have hl' : (L.take (1 + j) ++ L.drop (1 + j + 1)).length = 2 + m.k * m.n := by rw [List.length_append, List.length_take, List.length_drop, len]; omega
    refine ⟨L.take (1 + j) ++ L.drop (1 + j + 1), pre _ ?_, bad_len h (by
      rw [List.append_assoc, List.getElem?_append_left (by rw [List.length_take]; omega), List.getElem?_take, if_pos (by omega)]
      exact g0) (by rw [List.length_append, hl']; show 2 + m.k * m.n + 1 ≠ _; omega), cl.mix (l' := []) (fun z => by rw [z] at hl'; simp at hl'; omega) (by omega) (fun p hp => ?_) ⟨by decide, by decide⟩⟩
    · have c1 := cat_L (a := L.take (1 + j)) (b := L.drop (1 + j + 1)) (by rw [List.length_take, List.length_drop]; omega)
      show exSs fuel (_ :: _ :: _ :: _ :: _) _ = _
      rw [ss_go (ife_pass (notB (by omega))), ss_go (ife_pass (no (v := 9) (by omega))), ss_go (ife_pass (no (v := 0) (by omega)))]
      exact ss_ret (ife_take (yes (by omega)) (s_retF (e_bin (e_hi (d1 := .lst (strL L)) (k1 := .sh) (i := ((1 + j : Nat) : Int)) (k2 := .sh) rfl rfl (hi_L L (1 + j))) (e_lo (d1 := .lst (strL L)) (k1 := .sh) rfl (at1 (1 + j)) (lo_L L (1 + j + 1))) c1)))
    · rcases List.mem_append.mp hp with h1 | h1
      · exact .inr (List.mem_of_mem_take h1)
      · exact .inr (List.mem_of_mem_drop h1)
  · -- a line told twice
    obtain ⟨l, hl⟩ : ∃ l, L[1 + j]? = some l := ⟨_, List.getElem?_eq_getElem (by omega)⟩
    have hlm := cl.2.2 l (List.mem_of_getElem? hl)
    have hl' : (L.take (1 + j) ++ [l] ++ L.drop (1 + j)).length = 4 + m.k * m.n := by rw [List.length_append, List.length_append, List.length_take, List.length_drop, len]; simp; omega
    refine ⟨L.take (1 + j) ++ [l] ++ L.drop (1 + j), pre _ ?_, bad_len h (by rw [mid_0 (by omega) (by omega)]; exact g0) (by rw [List.length_append, hl']; show 4 + m.k * m.n + 1 ≠ _; omega), cl.mix (l' := l) (by simp) (by omega) mid_mem hlm⟩
    show exSs fuel (_ :: _ :: _ :: _ :: _ :: _) _ = _
    rw [ss_go (ife_pass (notB (by omega))), ss_go (ife_pass (no (v := 9) (by omega))), ss_go (ife_pass (no (v := 0) (by omega))), ss_go (ife_pass (no (v := 1) (by omega)))]
    exact ss_ret (ife_take (yes (by omega)) (s_retF (e_mid (a := 1 + j) (b := 1 + j) rfl rfl (e_sub (d1 := .lst (strL L)) (k1 := .sh) (d2 := .int ((1 + j : Nat) : Int)) (k2 := .sh) rfl rfl (strL_get hl)) rfl hL)))
  · -- two exchanged
    have hd : L.drop 3 = L.drop 3 := rfl
    have hl' : ([headC m.n m.k, lineC [lastC] m.n m.L, lineC [firstC] m.n m.F] ++ L.drop 3).length = 3 + m.k * m.n := by rw [List.length_append, List.length_drop, len]; simp
    refine ⟨[headC m.n m.k, lineC [lastC] m.n m.L, lineC [firstC] m.n m.F] ++ L.drop 3, pre _ ?_, bad_row h (j := 1) (ws := [firstC]) (l := lineC [lastC] m.n m.L) rfl (.inl ⟨rfl, rfl⟩) rfl (rowV_ws ?_), ⟨by simp, by omega, fun p hp => cl.2.2 p ?_⟩⟩
    · have c1 := cat_L (a := [headC m.n m.k, lineC [lastC] m.n m.L, lineC [firstC] m.n m.F]) (b := L.drop 3) (by rw [List.length_drop]; simp; omega)
      have gg0 : evSub (.lst (strL L)) (.int 0) = .ok (.str (mkS (headC m.n m.k)), .sh) := strL_get (j := 0) g0
      have gg1 : evSub (.lst (strL L)) (.int 1) = .ok (.str (mkS (lineC [firstC] m.n m.F)), .sh) := strL_get (j := 1) l1
      have gg2 : evSub (.lst (strL L)) (.int 2) = .ok (.str (mkS (lineC [lastC] m.n m.L)), .sh) := strL_get (j := 2) l2
      show exSs fuel (_ :: _ :: _ :: _ :: _ :: _ :: _) _ = _
      rw [ss_go (ife_pass (notB (by omega))), ss_go (ife_pass (no (v := 9) (by omega))), ss_go (ife_pass (no (v := 0) (by omega))), ss_go (ife_pass (no (v := 1) (by omega))), ss_go (ife_pass (no (v := 2) (by omega)))]
      refine ss_ret (ife_take (yes (by omega)) (s_retF (e_bin (d1 := .lst (strL [headC m.n m.k, lineC [lastC] m.n m.L, lineC [firstC] m.n m.F])) (k1 := .fr) ?_ (e_lo (d1 := .lst (strL L)) (k1 := .sh) (i := ((3 : Nat) : Int)) (k2 := .sh) rfl rfl (lo_L L 3)) c1)))
      generalize strL L = X at gg0 gg1 gg2 ⊢
      simp [evE, evEs, args1, hasBo, gg0, gg1, gg2, strL]
    · rw [p2]
      show [lastC] ≠ [firstC]
      decide
    · rcases List.mem_append.mp hp with h1 | h1
      · have h1 : p = headC m.n m.k ∨ p = lineC [lastC] m.n m.L ∨ p = lineC [firstC] m.n m.F := by simpa using h1
        rcases h1 with rfl | rfl | rfl
        · exact List.mem_of_getElem? g0
        · exact List.mem_of_getElem? l2
        · exact List.mem_of_getElem? l1
      · exact List.mem_of_mem_drop h1
  · -- one line alone
    obtain ⟨i, hi, hil⟩ := mod_nat (c.fdiv 10) (n := 4) (by decide)
    let W : List (List Nat) := [[], [32], machC, lineC [firstC] m.n m.F]
    obtain ⟨w, hw⟩ : ∃ w, W[i]? = some w := ⟨_, List.getElem?_eq_getElem (show i < W.length from hil)⟩
    have hwm : w ∈ W := List.mem_of_getElem? hw
    have hwm : w = [] ∨ w = [32] ∨ w = machC ∨ w = lineC [firstC] m.n m.F := by simpa [W] using hwm
    have hwc : w.length ≤ 6000 ∧ ∀ x ∈ w, 32 ≤ x ∧ x ≤ 122 := by
      rcases hwm with rfl | rfl | rfl | rfl
      · exact ⟨by decide, by decide⟩
      · exact ⟨by decide, by decide⟩
      · exact ⟨by decide, by decide⟩
      · exact cl.2.2 _ (List.mem_of_getElem? l1)
    refine ⟨[w], pre _ ?_, bad_head (l0 := w) rfl ?_, ⟨by simp, by simp, fun p hp => by rw [List.mem_singleton.mp hp]; exact hwc⟩⟩
    · have gg1 : evSub (.lst (strL L)) (.int 1) = .ok (.str (mkS (lineC [firstC] m.n m.F)), .sh) := strL_get (j := 1) l1
      show exSs fuel (_ :: _ :: _ :: _ :: _ :: _ :: _ :: _) _ = _
      rw [ss_go (ife_pass (notB (by omega))), ss_go (ife_pass (no (v := 9) (by omega))), ss_go (ife_pass (no (v := 0) (by omega))), ss_go (ife_pass (no (v := 1) (by omega))), ss_go (ife_pass (no (v := 2) (by omega))), ss_go (ife_pass (no (v := 3) (by omega)))]
      refine ss_ret (ife_take (yes (by omega)) (s_retF (e_lst1 (e_sub (d1 := .lst (strL W)) (k1 := .fr) ?_ (e_bin (e_bin (d1 := .int c) (k1 := .sh) rfl (by rw [evE]) d10) (d2 := .int (4 : Nat)) (k2 := .sh) rfl hi) (strL_get hw)))))
      generalize strL L = X at gg1 ⊢
      simp [evE, evEs, args1, hasBo, gg1, strL, W, s0, s5, t1]
    · rcases hwm with rfl | rfl | rfl | rfl
      · decide
      · decide
      · decide
      · exact headV_ne p1 (by decide)
  · -- a line spoiled within
    obtain ⟨ws, fs, l, r, hl, hsp, hfl, w1, w2, w3, w4⟩ := hrow (1 + j) (by omega) (by omega)
    have hlm := cl.2.2 l (List.mem_of_getElem? hl)
    obtain ⟨l', el, hv, hx, hll⟩ := spoiled_line_ok (c.fdiv 100) hsp (fun z => by rw [z] at hfl; simp at hfl; omega) w1 w2 w3 (by omega) (by rw [List.length_append]; omega)
    rw [hfl] at hv
    refine ⟨L.take (1 + j) ++ [l'] ++ L.drop (1 + j + 1), pre _ ?_, ?_, cl.mix (l' := l') (by simp) (by rw [List.length_append, List.length_append, List.length_take, List.length_drop, len]; simp; omega) mid_mem ⟨by omega, hx⟩⟩
    · show exSs fuel (_ :: _ :: _ :: _ :: _ :: _ :: _ :: _) _ = _
      rw [ss_go (ife_pass (notB (by omega))), ss_go (ife_pass (no (v := 9) (by omega))), ss_go (ife_pass (no (v := 0) (by omega))), ss_go (ife_pass (no (v := 1) (by omega))), ss_go (ife_pass (no (v := 2) (by omega))), ss_go (ife_pass (no (v := 3) (by omega))), ss_go (ife_pass (no (v := 4) (by omega)))]
      exact s_retF (e_mid (a := 1 + j) (b := 1 + j + 1) rfl rfl (e_call2 (e_sub (d1 := .lst (strL L)) (k1 := .sh) (d2 := .int ((1 + j : Nat) : Int)) (k2 := .sh) rfl rfl (strL_get hl)) (e_bin (d1 := .int c) (k1 := .sh) rfl (by rw [evE]) d100) el) (at1 (1 + j)) hL)
    · rw [mid_set (by omega)]
      exact bad_row h (by rw [set_0 (by omega) (by omega)]; exact g0) r (set_at (by omega)) hv
  · -- a blank more or less
    obtain ⟨a, ha, hal⟩ := mod_nat (c.fdiv 10) (n := 3 + m.k * m.n) (by omega)
    obtain ⟨l, hl⟩ : ∃ l, L[a]? = some l := ⟨_, List.getElem?_eq_getElem (by omega)⟩
    have hlm := cl.2.2 l (List.mem_of_getElem? hl)
    have hsl : (splitL 32 l).length = if a = 0 then 3 else (splitL 32 l).length := by
      by_cases a0 : a = 0
      · rw [if_pos a0]
        rw [a0, g0] at hl
        cases hl
        rw [head_split]; rfl
      · rw [if_neg a0]
    have h32 : 32 ∈ l := by
      have hc := split_count 32 l
      by_cases a0 : a = 0
      · rw [if_pos a0] at hsl
        exact List.count_pos_iff.mp (by omega)
      · obtain ⟨ws, fs, l', r, hl2, hsp, hfl, w1, _, _, _⟩ := hrow a (by omega) hal
        rw [hl] at hl2
        cases hl2
        rw [hsp, List.length_append] at hc
        have : 1 ≤ ws.length := by
          rcases w1 with ⟨w, rfl, _⟩ | ⟨_, _, rfl⟩
          · exact Nat.le_refl _
          · show 1 ≤ 3; decide
        exact List.count_pos_iff.mp (by omega)
    obtain ⟨l', el, hne, hx, hll⟩ := blanks_ok (c.fdiv 100) (decide ((way : Int) = 7)) h32 (by omega) (fun x hx => by have := hlm.2 x hx; omega)
    refine ⟨L.take a ++ [l'] ++ L.drop (a + 1), pre _ ?_, ?_, cl.mix (l' := l') (by simp) (by rw [List.length_append, List.length_append, List.length_take, List.length_drop, len]; simp; omega) mid_mem ⟨?_, fun x hx' => by
      rcases hx x hx' with z | z
      · omega
      · exact hlm.2 x z⟩⟩
    · have cc : evE (.or (.cmp .eq (.loc 5) (.int 7)) (.cmp .eq (.loc 5) (.int 8))) [.sh (.lst (strL L)), .sh (.int (m.n : Nat)), .sh (.int (m.k : Nat)), .sh (.int c), .sh (.int ((1 + j : Nat) : Int)), .sh (.int (way : Nat))] = .ok (.bl true, .sh) := by
        rcases e with e | e
        · exact ev_orT (yes (by omega))
        · exact ev_orN (no (by omega)) (yes (by omega))
      show exSs fuel (_ :: _) _ = _
      refine ss_ret (ife_take cc ?_)
      rw [ss_go (p_set (e_bin (e_bin (d1 := .int c) (k1 := .sh) rfl (by rw [evE]) d10) (e_blt1 (d := .lst (strL L)) (k := .sh) rfl lb) ha) (by decide))]
      show exSs fuel _ [.sh (.lst (strL L)), .sh (.int (m.n : Nat)), .sh (.int (m.k : Nat)), .sh (.int c), .sh (.int (a : Nat)), .sh (.int (way : Nat))] = _
      have e7 : evE (.cmp .eq (.loc 5) (.int 7)) [.sh (.lst (strL L)), .sh (.int (m.n : Nat)), .sh (.int (m.k : Nat)), .sh (.int c), .sh (.int (a : Nat)), .sh (.int (way : Nat))] = .ok (.bl (decide ((way : Int) = 7)), .sh) := by simp [evE]
      exact s_retF (e_mid (a := a) (b := a + 1) rfl rfl (e_call3 (e_sub (d1 := .lst (strL L)) (k1 := .sh) (d2 := .int (a : Nat)) (k2 := .sh) rfl rfl (strL_get hl)) (e_bin (d1 := .int c) (k1 := .sh) rfl (by rw [evE]) d100) e7 el) (at1 a) hL)
    · rw [mid_set (by omega)]
      by_cases a0 : a = 0
      · rw [if_pos a0] at hsl
        refine bad_head (l0 := l') ?_ (headV_len (by omega))
        have := set_at (L := L) (l' := l') (a := a) (by omega)
        rw [a0] at this ⊢
        exact this
      · obtain ⟨ws, fs, l2, r, hl2, hsp, hfl, w1, _, _, _⟩ := hrow a (by omega) hal
        rw [hl] at hl2
        cases hl2
        refine bad_row h (by rw [set_0 (by omega) (by omega)]; exact g0) r (set_at (by omega)) (rowV_len ?_)
        rw [hsp, List.length_append, hfl] at hne
        exact hne
    · have := linesM_len hrd.few l (by rw [hLL]; exact List.mem_of_getElem? hl)
      omega
  · -- an empty line
    obtain ⟨a, ha, hal⟩ := mod_nat (c.fdiv 10) (n := 4 + m.k * m.n) (by omega)
    have hl' : (L.take a ++ [[]] ++ L.drop a).length = 4 + m.k * m.n := by rw [List.length_append, List.length_append, List.length_take, List.length_drop, len]; simp; omega
    refine ⟨L.take a ++ [[]] ++ L.drop a, pre _ ?_, ?_, cl.mix (l' := []) (by simp) (by omega) mid_mem ⟨by decide, by decide⟩⟩
    · have b1 : evBin .add (.int ((3 + m.k * m.n : Nat) : Int)) (.int 1) = .ok (.int ((4 + m.k * m.n : Nat) : Int), .sh) := by
        rw [ev_addI]
        congr 3
        omega
      show exSs fuel (_ :: _ :: _) _ = _
      rw [ss_go (ife_pass (notB (by omega)))]
      refine ss_ret (ife_take (yes (by omega)) ?_)
      rw [ss_go (p_set (e_bin (e_bin (d1 := .int c) (k1 := .sh) rfl (by rw [evE]) d10) (e_bin (e_blt1 (d := .lst (strL L)) (k := .sh) rfl lb) (d2 := .int 1) (k2 := .sh) rfl b1) ha) (by decide))]
      show exSs fuel _ [.sh (.lst (strL L)), .sh (.int (m.n : Nat)), .sh (.int (m.k : Nat)), .sh (.int c), .sh (.int (a : Nat)), .sh (.int (way : Nat))] = _
      exact s_retF (e_mid (a := a) (b := a) rfl rfl (by rw [evE, s0]) rfl hL)
    · by_cases a0 : a = 0
      · refine bad_head (l0 := []) ?_ (by decide)
        rw [a0]; rfl
      · exact bad_len h (by rw [mid_0 (by omega) (by omega)]; exact g0) (by rw [List.length_append, hl']; show 4 + m.k * m.n + 1 ≠ _; omega)
end MP
set_option Elab.async false
set_option linter.all false
set_option maxRecDepth 100000
set_option maxHeartbeats 4000000
namespace MP
open PySem PySem.Spec PyProof.Rows L2 WM
noncomputable def ce_law_1 : ME := (.call "_law_part" m_law_part [(.loc 11)])
noncomputable def c_law_1 : ME := .comp ce_law_1 11 .val [(.sub (.loc 3) (.int 0))]
noncomputable def ce_law_2 : ME := (.call "_law_part" m_law_part [(.loc 11)])
noncomputable def c_law_2 : ME := .comp ce_law_2 11 .val [(.sub (.loc 3) (.int 2))]
noncomputable def ce_law_3 : ME := (.call "_law_part" m_law_part [(.loc 11)])
noncomputable def c_law_3 : ME := .comp ce_law_3 11 .val [(.sub (.sub (.sub (.loc 3) (.int 1)) (.loc 5)) (.loc 6))]
noncomputable def wb_law_1 : List MS := [.set 7 c_law_3, .app 4 (.join " " (.bin .add (.lst [(.str "step"), (.blt .str [(.loc 5)]), (.blt .str [(.loc 6)])]) (.loc 7)))]
noncomputable def w_law_1 : MS := .forI 6 .range1 [(.loc 1)] wb_law_1
noncomputable def wb_law_2 : List MS := [w_law_1]
noncomputable def w_law_2 : MS := .forI 5 .range1 [(.loc 2)] wb_law_2
noncomputable def b_law : List MS := [.set 1 (.bin .add (.int 1) (.bin .mod (.call "_law_cell_at" m_law_cell_at [(.loc 0), (.int 0)]) (.int 3))), .set 2 (.bin .add (.int 1) (.bin .mod (.call "_law_cell_at" m_law_cell_at [(.loc 0), (.int 1)]) (.int 2))), .set 3 (.call "_law_machine" m_law_machine [(.call "_law_cell_at" m_law_cell_at [(.loc 0), (.int 2)]), (.loc 1), (.loc 2)]), .own 4 (.lst [(.bin .add (.bin .add (.bin .add (.str "machine ") (.blt .str [(.loc 1)])) (.str " ")) (.blt .str [(.loc 2)]))]), .app 4 (.join " " (.bin .add (.lst [(.str "first")]) c_law_1)), .app 4 (.join " " (.bin .add (.lst [(.str "last")]) c_law_2)), w_law_2, .set 8 (.join "\n" (.loc 4)), .ife (.cmp .gt (.bin .mod (.call "_law_cell_at" m_law_cell_at [(.loc 0), (.int 3)]) (.int 8)) (.int 0)) [.frz 4, .set 8 (.bin .add (.join "\n" (.call "_law_spoiled" m_law_spoiled [(.loc 4), (.loc 1), (.loc 2), (.bin .fdiv (.call "_law_cell_at" m_law_cell_at [(.loc 0), (.int 3)]) (.int 8))])) (.str "\n"))] [], .set 9 (.lst []), .tryI [.exp (.call "read" m_read [(.loc 8)])] "WeighError" 10 9 ["BadNote", "ValueError", "NoMachine"] [("NoMachine", [false, true, true]), ("BadNote", [true, true, false])], .ret (.cmp .eq (.loc 9) (.lst [(.bl true), (.bl true), (.bl false)]))]
noncomputable def m_law : Fn := mirror 12 fuel b_law
theorem law_part_ok {q : Rat} (h : Few31 q) : m_law_part [fr q] = .ok (.str (mkS (fracC q)), false) := law_shown_part_ok h
def rowC (n : Nat) (f : Nat → Rat) : List (List Nat) := (List.range n).map fun i => fracC (f i)
theorem join_row {ws : List (List Nat)} {n : Nat} {f : Nat → Rat} (hn : n ≤ 24) (hw : ws.length ≤ 10) (hws : ∀ p ∈ ws, p.length ≤ 100) (h : ∀ i, i < n → Few31 (f i)) : evBin .add (.lst (strL ws)) (.lst (strL (rowC n f))) = .ok (.lst (strL (ws ++ rowC n f)), .fr) ∧ joinD (mkS [32]) (.lst (strL (ws ++ rowC n f))) = .ok (.str (mkS (lineC ws n f)), .sh) := by
  have hl : ∀ p ∈ ws ++ rowC n f, p.length ≤ 100 := fun p hp => by
    rcases List.mem_append.mp hp with h1 | h1
    · exact hws p h1
    · obtain ⟨i, hi, rfl⟩ := List.mem_map.mp h1
      have := fracC_len (h i (List.mem_range.mp hi))
      omega
  have hr : (rowC n f).length = n := by rw [rowC, List.length_map, List.length_range]
  have hlen : (ws ++ rowC n f).length ≤ 34 := by rw [List.length_append, hr]; omega
  have hs := sum_le hl
  have hb : ((ws ++ rowC n f).map List.length).sum ≤ 3400 := Nat.le_trans hs (Nat.mul_le_mul_right 100 hlen)
  exact ⟨cat_L (by omega), join_S (by omega)⟩
theorem joinL_snoc (c : Nat) : ∀ ps : List (List Nat), ps ≠ [] → joinL c (ps ++ [[]]) = joinL c ps ++ [c]
  | [], h => absurd rfl h
  | [p], _ => rfl
  | p :: q :: ps, _ => by
    have ih := joinL_snoc c (q :: ps) (by simp)
    show p ++ c :: joinL c ((q :: ps) ++ [[]]) = (p ++ c :: joinL c (q :: ps)) ++ [c]
    rw [ih]
    simp
theorem text_clean {L : List (List Nat)} (h : Clean L) : splitL 10 (joinL 10 L) = L ∧ splitL 10 (joinL 10 L ++ [10]) = L ++ [[]] ∧ (joinL 10 L).length ≤ 200000 ∧ Lay (joinL 10 L) ∧ joinD (mkS [10]) (.lst (strL L)) = .ok (.str (mkS (joinL 10 L)), .sh) := by
  obtain ⟨h1, h2, h3⟩ := h
  have fre : ∀ p ∈ L, 10 ∉ p := fun p hp z => by have := (h3 p hp).2 10 z; omega
  have hs := sum_le (b := 6000) fun p hp => (h3 p hp).1
  have hm : L.length * 6000 ≤ 20 * 6000 := Nat.mul_le_mul_right _ h2
  have hj := joinL_len (d := 10) L
  refine ⟨split_joinL h1 fre, ?_, by omega, fun c hc => ?_, join_S (by omega)⟩
  · rw [← joinL_snoc 10 L h1]
    refine split_joinL (by simp) fun p hp => ?_
    rcases List.mem_append.mp hp with hp | hp
    · exact fre p hp
    · rw [List.mem_singleton.mp hp]; simp
  · rcases joinL_mem hc with e | ⟨p, hp, hc⟩
    · omega
    · have := (h3 p hp).2 c hc; omega
/-- from the text on -/
theorem law_end {t : List Nat} (h : m_read [.str (mkS t)] = .exc "BadNote") (x0 x1 x2 x3 x4 x5 x6 x7 x9 x10 x11 : SV) : exSs fuel (b_law.drop 9) [x0, x1, x2, x3, x4, x5, x6, x7, .sh (.str (mkS t)), x9, x10, x11] = .ret (.bl true) false := by
  have e : evCmp .eq (.lst [.bl true, .bl true, .bl false]) (.lst [.bl true, .bl true, .bl false]) = .ok (.bl true, .sh) := rfl
  show exSs fuel (_ :: _ :: _ :: []) _ = _
  rw [ss_go (S1 := [x0, x1, x2, x3, x4, x5, x6, x7, .sh (.str (mkS t)), .sh (.lst []), x10, x11]) (by simp [exS, evE, evEs, args1, hasBo])]
  rw [ss_go (S1 := [x0, x1, x2, x3, x4, x5, x6, x7, .sh (.str (mkS t)), .sh (.lst [.bl true, .bl true, .bl false]), .no, x11]) (by
    have eb : exSs fuel [.exp (.call "read" m_read [(.loc 8)])] [x0, x1, x2, x3, x4, x5, x6, x7, .sh (.str (mkS t)), .sh (.lst []), x10, x11] = .exc "BadNote" [x0, x1, x2, x3, x4, x5, x6, x7, .sh (.str (mkS t)), .sh (.lst []), x10, x11] := ss_exc (by simp [exS, evE, evEs, args1, h, bindS])
    have tb : tabAt [("NoMachine", [false, true, true]), ("BadNote", [true, true, false])] "BadNote" = some [true, true, false] := by decide +kernel
    rw [exS, eb]
    dsimp only
    rw [tb]
    rfl)]
  refine s_ret1 ?_
  simp [evE, evEs, args1, hasBo, e]
theorem law_true (ns : List Int) (h : ns.length ≤ 63) : m_law [.scr ns] = .ok (.bl true, false) := by
  obtain ⟨c0, h0⟩ : ∃ c, m_law_cell_at [.scr ns, .int 0] = .ok (.int c, false) := ⟨_, cell_at_ok ns 0⟩
  obtain ⟨c1, h1⟩ : ∃ c, m_law_cell_at [.scr ns, .int 1] = .ok (.int c, false) := ⟨_, cell_at_ok ns 1⟩
  obtain ⟨c2, h2⟩ : ∃ c, m_law_cell_at [.scr ns, .int 2] = .ok (.int c, false) := ⟨_, cell_at_ok ns 2⟩
  obtain ⟨c3, h3⟩ : ∃ c, m_law_cell_at [.scr ns, .int 3] = .ok (.int c, false) := ⟨_, cell_at_ok ns 3⟩
  have b0 := fmod_lt' (w := c0) (m := 3) (by decide)
  have b1 := fmod_lt' (w := c1) (m := 2) (by decide)
  obtain ⟨n, hn⟩ : ∃ n : Nat, 1 + c0.fmod 3 = n := ⟨(1 + c0.fmod 3).toNat, by omega⟩
  obtain ⟨k, hk⟩ : ∃ n : Nat, 1 + c1.fmod 2 = n := ⟨(1 + c1.fmod 2).toNat, by omega⟩
  have m0 : evBin .mod (.int c0) (.int 3) = .ok (.int (c0.fmod 3), .sh) := ev_mod (by decide)
  have m1 : evBin .mod (.int c1) (.int 2) = .ok (.int (c1.fmod 2), .sh) := ev_mod (by decide)
  have e1 := law_machine_ok c2 n k (by omega) (by omega)
  have fp := MFit.drawn c2 n k
  have pn : (drawn c2 n k).n = n := rfl
  have pk : (drawn c2 n k).k = k := rfl
  generalize drawn c2 n k = p at *
  have few : ∀ {D N : Nat} {q : Rat}, Fit D N q → D < 10 ^ 30 → N < 10 ^ 30 → Few30 q := fun {D N q} h hD hN => ⟨Nat.lt_of_le_of_lt h.num_le hN, Nat.lt_of_le_of_lt h.den_le hD⟩
  have rp : Rd p := ⟨fun i hi => few (fp.F i hi) (by decide +kernel) (by decide +kernel), fun s a b hs ha hb => few (fp.T s a b hs ha hb) (by decide +kernel) (by decide +kernel), fun i hi => few (fp.L i hi) (by decide +kernel) (by decide +kernel), by omega, by omega, by omega⟩
  have sp : Sm p := ⟨rp, by omega, by omega, by omega⟩
  have hf := rp.few
  have hn24 : n ≤ 24 := by omega
  rw [← pn, ← pk] at e1
  have hn : 1 + c0.fmod 3 = (p.n : Nat) := by rw [pn]; exact hn
  have hk : 1 + c1.fmod 2 = (p.k : Nat) := by rw [pk]; exact hk
  clear pn pk hn24 b0 b1 fp
  have p3 := sp.n3
  have pk2 := sp.k2
  obtain ⟨cl, len, h6, _⟩ := lines_clean sp
  -- the head
  have sn : evBlt .str [.int (p.n : Nat)] = .ok (.str (mkS (natC p.n)), .sh) := str_I (i := (p.n : Nat)) (few_nat (by omega))
  have sk : evBlt .str [.int (p.k : Nat)] = .ok (.str (mkS (natC p.k)), .sh) := str_I (i := (p.k : Nat)) (few_nat (by omega))
  have ln := natC_small (n := p.n) (by omega)
  have lk := natC_small (n := p.k) (by omega)
  have a1 := add_S (a := machC ++ [32]) (b := natC p.n) (by simp [machC]; omega)
  have a2 := add_S (a := machC ++ [32] ++ natC p.n) (b := [32]) (by simp [machC]; omega)
  have a3 : evBin .add (.str (mkS (machC ++ [32] ++ natC p.n ++ [32]))) (.str (mkS (natC p.k))) = .ok (.str (mkS (headC p.n p.k)), .sh) := by
    rw [add_S (by simp [machC]; omega)]
    have e : machC ++ [32] ++ natC p.n ++ [32] ++ natC p.k = headC p.n p.k := by
      show _ = machC ++ 32 :: (natC p.n ++ 32 :: natC p.k)
      simp
    rw [e]
  have vh : evE (.lst [(.bin .add (.bin .add (.bin .add (.str "machine ") (.blt .str [(.loc 1)])) (.str " ")) (.blt .str [(.loc 2)]))]) [.sh (.scr ns), .sh (.int (p.n : Nat)), .sh (.int (p.k : Nat)), .sh (macD p), .no, .no, .no, .no, .no, .no, .no, .no] = .ok (.lst [.str (mkS (headC p.n p.k))], .fr) :=
    e_lst1 (e_bin (e_bin (e_bin (d1 := .str (mkS (machC ++ [32]))) (k1 := .sh) (by rw [evE, t2]) (e_blt1 (d := .int (p.n : Nat)) (k := .sh) rfl sn) a1) (d2 := .str (mkS [32])) (k2 := .sh) (by rw [evE, s5]) a2) (e_blt1 (d := .int (p.k : Nat)) (k := .sh) rfl sk) a3)
  -- a row's words
  have row : ∀ (ce : ME) (it : ME) (f : Nat → Rat) (S : List SV) (x4 x5 x6 x7 : SV), ce = .call "_law_part" m_law_part [(.loc 11)] → S = [.sh (.scr ns), .sh (.int (p.n : Nat)), .sh (.int (p.k : Nat)), .sh (macD p), x4, x5, x6, x7, .no, .no, .no, .no] → evE it S = .ok (rT p.n f, .sh) → (∀ i, i < p.n → Few31 (f i)) → evE (.comp ce 11 .val [it]) S = .ok (.lst (strL (rowC p.n f)), .fr) := fun ce it f S x4 x5 x6 x7 hce hS hit hfw => by
    subst hce
    rw [ev_comp (n := p.n) (rs := [(rT p.n f, .sh)]) (fun i => fr (f i)) (fun i => MP.D.str (mkS (fracC (f i)))) (by simp only [evEs, hit, Res.bind]) (by simp [hasBo]) rfl (by omega) (fun i hi => ⟨.sh, by decide, by
      have e := law_part_ok (hfw i hi)
      subst hS
      simp [evE, evEs, args1, hasBo, e]⟩)]
    rw [strL, rowC, List.map_map]
    rfl
  have x0 := mac_0 p
  have x1 := mac_1 p
  have x2 := mac_2 p
  obtain ⟨jf1, jf2⟩ := join_row (ws := [firstC]) rp.n (by decide) (fun q hq => by rw [List.mem_singleton.mp hq]; decide) hf.F
  obtain ⟨jl1, jl2⟩ := join_row (ws := [lastC]) rp.n (by decide) (fun q hq => by rw [List.mem_singleton.mp hq]; decide) hf.L
  let base : List (List Nat) := [headC p.n p.k, lineC [firstC] p.n p.F, lineC [lastC] p.n p.L]
  let lnM : Nat → Nat → List Nat := fun s a => lineC (stW s a) p.n (p.T s a)
  have hall : base ++ stepL p.k p.n lnM = linesM p := rfl
  have vf : evE (.join " " (.bin .add (.lst [(.str "first")]) c_law_1)) [.sh (.scr ns), .sh (.int (p.n : Nat)), .sh (.int (p.k : Nat)), .sh (macD p), .ow (strL [headC p.n p.k]), .no, .no, .no, .no, .no, .no, .no] = .ok (.str (mkS (lineC [firstC] p.n p.F)), .sh) := by
    have ec := row ce_law_1 (.sub (.loc 3) (.int 0)) p.F _ (.ow (strL [headC p.n p.k])) .no .no .no rfl rfl (by simp [evE, x0]) hf.F
    have ea := e_bin (o := .add) (e_lst1 (a := .str "first") (d := .str (mkS firstC)) (by rw [evE, t3])) ec jf1
    rw [evE, show c_law_1 = .comp ce_law_1 11 .val [(.sub (.loc 3) (.int 0))] from rfl, ea]
    simp only [Res.bind, s5, jf2]
  have vl : evE (.join " " (.bin .add (.lst [(.str "last")]) c_law_2)) [.sh (.scr ns), .sh (.int (p.n : Nat)), .sh (.int (p.k : Nat)), .sh (macD p), .ow (strL [headC p.n p.k, lineC [firstC] p.n p.F]), .no, .no, .no, .no, .no, .no, .no] = .ok (.str (mkS (lineC [lastC] p.n p.L)), .sh) := by
    have ec := row ce_law_2 (.sub (.loc 3) (.int 2)) p.L _ (.ow (strL [headC p.n p.k, lineC [firstC] p.n p.F])) .no .no .no rfl rfl (by simp [evE, x2]) hf.L
    have ea := e_bin (o := .add) (e_lst1 (a := .str "last") (d := .str (mkS lastC)) (by rw [evE, t4])) ec jl1
    rw [evE, show c_law_2 = .comp ce_law_2 11 .val [(.sub (.loc 3) (.int 2))] from rfl, ea]
    simp only [Res.bind, s5, jl2]
  -- the steps
  obtain ⟨S', l1, s5', s6', s7', l2⟩ := for_rng (f := exSs fuel wb_law_2) (tg := fun S d => some (S.set 5 (.sh d))) (fun j S => ∃ s5 s6 s7, S = [.sh (.scr ns), .sh (.int (p.n : Nat)), .sh (.int (p.k : Nat)), .sh (macD p), .ow (strL (base ++ stepL j p.n lnM)), s5, s6, s7, .no, .no, .no, .no]) (n := p.k)
    (S := [.sh (.scr ns), .sh (.int (p.n : Nat)), .sh (.int (p.k : Nat)), .sh (macD p), .ow (strL base), .no, .no, .no, .no, .no, .no, .no]) ⟨.no, .no, .no, by show _ = [_, _, _, _, SV.ow (strL (base ++ [])), _, _, _, _, _, _, _]; rw [List.append_nil]⟩ (by
    rintro s S hs ⟨s5, s6, s7, rfl⟩
    obtain ⟨S'', i1, s6', s7', i2⟩ := for_rng (f := exSs fuel wb_law_1) (tg := fun S d => some (S.set 6 (.sh d))) (fun a S => ∃ s6 s7, S = [.sh (.scr ns), .sh (.int (p.n : Nat)), .sh (.int (p.k : Nat)), .sh (macD p), .ow (strL (base ++ stepL s p.n lnM ++ (List.range a).map fun a => lnM s a)), .sh (.int s), s6, s7, .no, .no, .no, .no]) (n := p.n)
      (S := [.sh (.scr ns), .sh (.int (p.n : Nat)), .sh (.int (p.k : Nat)), .sh (macD p), .ow (strL (base ++ stepL s p.n lnM)), .sh (.int s), s6, s7, .no, .no, .no, .no]) ⟨s6, s7, by simp⟩ (by
      rintro a S ha ⟨s6, s7, rfl⟩
      have ss : evBlt .str [.int (s : Nat)] = .ok (.str (mkS (natC s)), .sh) := str_I (i := (s : Nat)) (few_nat (by omega))
      have sa : evBlt .str [.int (a : Nat)] = .ok (.str (mkS (natC a)), .sh) := str_I (i := (a : Nat)) (few_nat (by omega))
      have y2 := mac_s hs
      have y3 := sT_get (n := p.n) (m := p.n) (T := p.T s) ha
      obtain ⟨js1, js2⟩ := join_row (ws := stW s a) (n := p.n) (f := p.T s a) rp.n (by show 3 ≤ 10; decide) (stW_len (by omega) (by omega)) fun b hb => hf.T s a b hs ha hb
      have hlt : (strL (base ++ stepL s p.n lnM ++ (List.range a).map fun a => lnM s a)).length < 16777216 := by
        rw [strL_len, List.length_append, List.length_append, stepL_len, List.length_map, List.length_range]
        have h1 : s * p.n ≤ 2 * 3 := Nat.mul_le_mul (by omega) p3
        show 3 + s * p.n + a < _
        omega
      have er : strL (base ++ stepL s p.n lnM ++ (List.range (a + 1)).map fun a => lnM s a) = strL (base ++ stepL s p.n lnM ++ (List.range a).map fun a => lnM s a) ++ [.str (mkS (lnM s a))] := by
        rw [List.range_succ, List.map_append, ← List.append_assoc, strL_app _ (List.map _ [a])]; rfl
      generalize strL (base ++ stepL s p.n lnM ++ (List.range a).map fun a => lnM s a) = X at *
      have ec := row ce_law_3 (.sub (.sub (.sub (.loc 3) (.int 1)) (.loc 5)) (.loc 6)) (p.T s a) _ (.ow X) (.sh (.int s)) (.sh (.int a)) s7 rfl rfl (by simp [evE, x1, y2, y3]) fun b hb => hf.T s a b hs ha hb
      have ej : evE (.join " " (.bin .add (.lst [(.str "step"), (.blt .str [(.loc 5)]), (.blt .str [(.loc 6)])]) (.loc 7))) [.sh (.scr ns), .sh (.int (p.n : Nat)), .sh (.int (p.k : Nat)), .sh (macD p), .ow X, .sh (.int s), .sh (.int a), .sh (.lst (strL (rowC p.n (p.T s a)))), .no, .no, .no, .no] = .ok (.str (mkS (lnM s a)), .sh) := by
        have ea := e_bin (o := .add) (S := [.sh (.scr ns), .sh (.int (p.n : Nat)), .sh (.int (p.k : Nat)), .sh (macD p), .ow X, .sh (.int s), .sh (.int a), .sh (.lst (strL (rowC p.n (p.T s a)))), .no, .no, .no, .no]) (ev_lst3 (a := .str "step") (b := .blt .str [(.loc 5)]) (c := .blt .str [(.loc 6)]) (d1 := .str (mkS stepC)) (by rw [evE, t5]) (ev_blt1 rfl ss) (ev_blt1 rfl sa)) (b := .loc 7) (d2 := .lst (strL (rowC p.n (p.T s a)))) (k2 := .sh) rfl js1
        rw [evE, ea]
        have js2 : joinD (mkS [32]) (.lst (strL (stW s a ++ rowC p.n (p.T s a)))) = .ok (.str (mkS (lnM s a)), .sh) := js2
        simp only [Res.bind, MP.s5, js2]
      refine ⟨_, [.sh (.scr ns), .sh (.int (p.n : Nat)), .sh (.int (p.k : Nat)), .sh (macD p), .ow (strL (base ++ stepL s p.n lnM ++ (List.range (a + 1)).map fun a => lnM s a)), .sh (.int s), .sh (.int a), .sh (.lst (strL (rowC p.n (p.T s a)))), .no, .no, .no, .no], rfl, ?_, _, _, rfl⟩
      rw [er, wb_law_1]
      show exSs fuel _ [.sh (.scr ns), .sh (.int (p.n : Nat)), .sh (.int (p.k : Nat)), .sh (macD p), .ow X, .sh (.int s), .sh (.int a), s7, .no, .no, .no, .no] = _
      have ec : evE c_law_3 [.sh (.scr ns), .sh (.int (p.n : Nat)), .sh (.int (p.k : Nat)), .sh (macD p), .ow X, .sh (.int s), .sh (.int a), s7, .no, .no, .no, .no] = .ok (.lst (strL (rowC p.n (p.T s a))), .fr) := ec
      rw [ss_go (p_set ec (by decide))]
      show exSs fuel _ [.sh (.scr ns), .sh (.int (p.n : Nat)), .sh (.int (p.k : Nat)), .sh (macD p), .ow X, .sh (.int s), .sh (.int a), .sh (.lst (strL (rowC p.n (p.T s a)))), .no, .no, .no, .no] = _
      rw [exSs, exS]
      simp only [List.getElem?_cons_succ, List.getElem?_cons_zero]
      rw [ej, bindS_ok]
      simp only [if_pos hlt]
      rfl)
    subst i2
    refine ⟨_, [.sh (.scr ns), .sh (.int (p.n : Nat)), .sh (.int (p.k : Nat)), .sh (macD p), .ow (strL (base ++ stepL (s + 1) p.n lnM)), .sh (.int s), s6', s7', .no, .no, .no, .no], rfl, ?_, _, _, _, rfl⟩
    have it : evI .range1 [(.loc 1)] [.sh (.scr ns), .sh (.int (p.n : Nat)), .sh (.int (p.k : Nat)), .sh (macD p), .ow (strL (base ++ stepL s p.n lnM)), .sh (.int s), s6, s7, .no, .no, .no, .no] = .ok ((List.range p.n).map fun i : Nat => MP.D.int i) := by
      rw [← items_rng p.n (by omega)]; simp [evI, evEs, evE, args1, hasBo]
    rw [wb_law_2, ss_go (S1 := [.sh (.scr ns), .sh (.int (p.n : Nat)), .sh (.int (p.k : Nat)), .sh (macD p), .ow (strL (base ++ stepL (s + 1) p.n lnM)), .sh (.int s), s6', s7', .no, .no, .no, .no]) (by
      rw [w_law_1, exS]
      show bindS _ (evI .range1 [(.loc 1)] [.sh (.scr ns), .sh (.int (p.n : Nat)), .sh (.int (p.k : Nat)), .sh (macD p), .ow (strL (base ++ stepL s p.n lnM)), .sh (.int s), s6, s7, .no, .no, .no, .no]) _ = _
      rw [it, bindS_ok, stepL_succ, ← List.append_assoc]
      exact i1), exSs])
  subst l2
  have it : evI .range1 [(.loc 2)] [.sh (.scr ns), .sh (.int (p.n : Nat)), .sh (.int (p.k : Nat)), .sh (macD p), .ow (strL base), .no, .no, .no, .no, .no, .no, .no] = .ok ((List.range p.k).map fun i : Nat => MP.D.int i) := by
    rw [← items_rng p.k (by omega)]; simp [evI, evEs, evE, args1, hasBo]
  rw [hall] at l1
  obtain ⟨tc1, tc2, tc3, tc4, tc5⟩ := text_clean cl
  have g0 := lines_get0 p
  obtain ⟨L', eL, nr, cl'⟩ := spoiled_ok sp (c3.fdiv 8)
  generalize hL : linesM p = L at *
  have start : ∀ r, exSs fuel (b_law.drop 8) [.sh (.scr ns), .sh (.int (p.n : Nat)), .sh (.int (p.k : Nat)), .sh (macD p), .ow (strL L), s5', s6', s7', .sh (.str (mkS (joinL 10 L))), .no, .no, .no] = .ret r false → m_law [.scr ns] = .ok (r, false) := fun r hr => by
    refine mir_ret ?_
    unfold b_law
    show exSs fuel _ [.sh (.scr ns), .no, .no, .no, .no, .no, .no, .no, .no, .no, .no, .no] = _
    rw [ss_go (S1 := [.sh (.scr ns), .sh (.int (p.n : Nat)), .no, .no, .no, .no, .no, .no, .no, .no, .no, .no]) (by simp [exS, evE, evEs, args1, hasBo, h0, m0, hn]),
      ss_go (S1 := [.sh (.scr ns), .sh (.int (p.n : Nat)), .sh (.int (p.k : Nat)), .no, .no, .no, .no, .no, .no, .no, .no, .no]) (by simp [exS, evE, evEs, args1, hasBo, h1, m1, hk]),
      ss_go (S1 := [.sh (.scr ns), .sh (.int (p.n : Nat)), .sh (.int (p.k : Nat)), .sh (macD p), .no, .no, .no, .no, .no, .no, .no, .no]) (by simp [exS, evE, evEs, args1, hasBo, h2, e1]),
      ss_go (S1 := [.sh (.scr ns), .sh (.int (p.n : Nat)), .sh (.int (p.k : Nat)), .sh (macD p), .ow (strL [headC p.n p.k]), .no, .no, .no, .no, .no, .no, .no]) (by rw [exS, vh, bindS_ok]; rfl),
      ss_go (S1 := [.sh (.scr ns), .sh (.int (p.n : Nat)), .sh (.int (p.k : Nat)), .sh (macD p), .ow (strL [headC p.n p.k, lineC [firstC] p.n p.F]), .no, .no, .no, .no, .no, .no, .no]) (by
        rw [exS]
        simp only [List.getElem?_cons_succ, List.getElem?_cons_zero]
        rw [vf, bindS_ok]
        rfl),
      ss_go (S1 := [.sh (.scr ns), .sh (.int (p.n : Nat)), .sh (.int (p.k : Nat)), .sh (macD p), .ow (strL base), .no, .no, .no, .no, .no, .no, .no]) (by
        rw [exS]
        simp only [List.getElem?_cons_succ, List.getElem?_cons_zero]
        rw [vl, bindS_ok]
        rfl),
      ss_go (S1 := [.sh (.scr ns), .sh (.int (p.n : Nat)), .sh (.int (p.k : Nat)), .sh (macD p), .ow (strL L), s5', s6', s7', .no, .no, .no, .no]) (by
        rw [w_law_2, exS, it, bindS_ok]
        exact l1),
      ss_go (p_set (d := .str (mkS (joinL 10 L))) (k := .sh) (by
        simp only [evE, List.getElem?_cons_succ, List.getElem?_cons_zero, Res.bind, s6, tc5]) (by decide))]
    exact hr
  have m8 : evBin .mod (.int c3) (.int 8) = .ok (.int (c3.fmod 8), .sh) := ev_mod (by decide)
  have d8 : evBin .fdiv (.int c3) (.int 8) = .ok (.int (c3.fdiv 8), .sh) := ev_fdiv (by decide) (by decide +kernel)
  have vc : evE (.cmp .gt (.bin .mod (.call "_law_cell_at" m_law_cell_at [(.loc 0), (.int 3)]) (.int 8)) (.int 0)) [.sh (.scr ns), .sh (.int (p.n : Nat)), .sh (.int (p.k : Nat)), .sh (macD p), .ow (strL L), s5', s6', s7', .sh (.str (mkS (joinL 10 L))), .no, .no, .no] = .ok (.bl (decide (0 < c3.fmod 8)), .sh) := by
    simp [evE, evEs, args1, hasBo, h3, m8, evCmp]
  refine start _ ?_
  show exSs fuel (_ :: b_law.drop 9) _ = _
  by_cases hc : 0 < c3.fmod 8
  · rw [decide_eq_true hc] at vc
    obtain ⟨u1, u2, u3, u4, u5⟩ := text_clean cl'
    have ea := add_S (a := joinL 10 L') (b := [10]) (by simp; omega)
    have rb := read_bad (t := joinL 10 L' ++ [10]) (by simp; omega) (fun x hx => by
      rcases List.mem_append.mp hx with z | z
      · exact u4 x z
      · rw [List.mem_singleton.mp z]; omega) (by rw [u2]; exact nr)
    rw [ss_go (S1 := [.sh (.scr ns), .sh (.int (p.n : Nat)), .sh (.int (p.k : Nat)), .sh (macD p), .sh (.lst (strL L)), s5', s6', s7', .sh (.str (mkS (joinL 10 L' ++ [10]))), .no, .no, .no]) (ife_take vc (by
      rw [ss_go (S1 := [.sh (.scr ns), .sh (.int (p.n : Nat)), .sh (.int (p.k : Nat)), .sh (macD p), .sh (.lst (strL L)), s5', s6', s7', .sh (.str (mkS (joinL 10 L))), .no, .no, .no]) (by simp [exS])]
      refine ss_nx (p_set (e_bin (d1 := .str (mkS (joinL 10 L'))) (k1 := .sh) (d2 := .str (mkS [10])) (k2 := .sh) ?_ (by rw [evE, s6]) ea) (by decide))
      have ec : evE (.call "_law_spoiled" m_law_spoiled [(.loc 4), (.loc 1), (.loc 2), (.bin .fdiv (.call "_law_cell_at" m_law_cell_at [(.loc 0), (.int 3)]) (.int 8))]) [.sh (.scr ns), .sh (.int (p.n : Nat)), .sh (.int (p.k : Nat)), .sh (macD p), .sh (.lst (strL L)), s5', s6', s7', .sh (.str (mkS (joinL 10 L))), .no, .no, .no] = .ok (.lst (strL L'), .fr) := by
        generalize strL L = X at eL ⊢
        generalize strL L' = Y at eL ⊢
        simp [evE, evEs, args1, hasBo, h3, d8, eL]
      rw [evE, ec]
      simp only [Res.bind, s6, u5]))]
    exact law_end rb _ _ _ _ _ _ _ _ _ _ _
  · rw [decide_eq_false hc] at vc
    rw [ss_go (ife_pass vc)]
    refine law_end (read_bad (by omega) tc4 ?_) _ _ _ _ _ _ _ _ _ _ _
    rw [tc1]
    exact bad_len sp g0 (by rw [len, Nat.mul_comm p.n]; omega)
end MP
namespace WS
open PySem PySem.Spec PyProof.Rows L2 MP
def topS (i : Nat) : Stmt := PySem.Challenge.pw_wordscales_k16_notes_refused.main.body.getD i (.Pass ⟨0, 0, 0, 0⟩)
abbrev s_lowest : Stmt := topS 5
theorem sc_lowest : FnScope ["top", "bottom", "a", "b", "c"] ["top", "bottom"] (defScope s_lowest) := ⟨rfl, rfl, rfl, by decide +kernel, rfl, by decide +kernel, by decide +kernel⟩
theorem ck_lowest : chkSs ["top", "bottom", "a", "b", "c"] b_lowest (defScope s_lowest) (defBody s_lowest) = true := by decide +kernel
abbrev s_looked : Stmt := topS 9
theorem sc_looked : FnScope ["machine", "rooms", "signs", "step", "row"] ["machine"] (defScope s_looked) := ⟨rfl, rfl, rfl, by decide +kernel, rfl, by decide +kernel, by decide +kernel⟩
theorem ck_looked : chkSs ["machine", "rooms", "signs", "step", "row"] b_looked (defScope s_looked) (defBody s_looked) = true := by decide +kernel
abbrev s_number_of : Stmt := topS 12
theorem sc_number_of : FnScope ["word", "sign"] ["word"] (defScope s_number_of) := ⟨rfl, rfl, rfl, by decide +kernel, rfl, by decide +kernel, by decide +kernel⟩
theorem ck_number_of : chkSs ["word", "sign"] b_number_of (defScope s_number_of) (defBody s_number_of) = true := by decide +kernel
abbrev s_top_of : Stmt := topS 13
theorem sc_top_of : FnScope ["word", "found"] ["word"] (defScope s_top_of) := ⟨rfl, rfl, rfl, by decide +kernel, rfl, by decide +kernel, by decide +kernel⟩
theorem ck_top_of : chkSs ["word", "found"] b_top_of (defScope s_top_of) (defBody s_top_of) = true := by decide +kernel
abbrev s_fraction_of : Stmt := topS 14
theorem sc_fraction_of : FnScope ["word", "parts", "top", "bottom"] ["word"] (defScope s_fraction_of) := ⟨rfl, rfl, rfl, by decide +kernel, rfl, by decide +kernel, by decide +kernel⟩
theorem ck_fraction_of : chkSs ["word", "parts", "top", "bottom"] b_fraction_of (defScope s_fraction_of) (defBody s_fraction_of) = true := by decide +kernel
abbrev s_row_of : Stmt := topS 15
theorem sc_row_of : FnScope ["line", "words", "many", "parts", "part"] ["line", "words", "many"] (defScope s_row_of) := ⟨rfl, rfl, rfl, by decide +kernel, rfl, by decide +kernel, by decide +kernel⟩
theorem ck_row_of : chkSs ["line", "words", "many", "parts", "part"] b_row_of (defScope s_row_of) (defBody s_row_of) = true := by decide +kernel
abbrev s_read : Stmt := topS 16
theorem sc_read : FnScope ["text", "lines", "words", "rooms", "signs", "first", "last", "steps", "sign", "rows", "a", "machine"] ["text"] (defScope s_read) := ⟨rfl, rfl, rfl, by decide +kernel, rfl, by decide +kernel, by decide +kernel⟩
theorem ck_read : chkSs ["text", "lines", "words", "rooms", "signs", "first", "last", "steps", "sign", "rows", "a", "machine"] b_read (defScope s_read) (defBody s_read) = true := by decide +kernel
abbrev s_law_cell_at : Stmt := topS 18
theorem sc_law_cell_at : FnScope ["script", "k"] ["script", "k"] (defScope s_law_cell_at) := ⟨rfl, rfl, rfl, by decide +kernel, rfl, by decide +kernel, by decide +kernel⟩
theorem ck_law_cell_at : chkSs ["script", "k"] b_law_cell_at (defScope s_law_cell_at) (defBody s_law_cell_at) = true := by decide +kernel
abbrev s_law_low : Stmt := topS 19
theorem sc_law_low : FnScope ["top", "bottom", "a", "b", "rest"] ["top", "bottom"] (defScope s_law_low) := ⟨rfl, rfl, rfl, by decide +kernel, rfl, by decide +kernel, by decide +kernel⟩
theorem ck_law_low : chkSs ["top", "bottom", "a", "b", "rest"] b_law_low (defScope s_law_low) (defBody s_law_low) = true := by decide +kernel
abbrev s_law_fraction : Stmt := topS 23
theorem sc_law_fraction : FnScope ["cell"] ["cell"] (defScope s_law_fraction) := ⟨rfl, rfl, rfl, by decide +kernel, rfl, by decide +kernel, by decide +kernel⟩
theorem ck_law_fraction : chkSs ["cell"] b_law_fraction (defScope s_law_fraction) (defBody s_law_fraction) = true := by decide +kernel
abbrev s_law_machine : Stmt := topS 24
theorem sc_law_machine : FnScope ["cell", "rooms", "signs", "out", "k", "steps", "sign", "rows", "a", "at"] ["cell", "rooms", "signs"] (defScope s_law_machine) := ⟨rfl, rfl, rfl, by decide +kernel, rfl, by decide +kernel, by decide +kernel⟩
theorem ck_law_machine : chkSs ["cell", "rooms", "signs", "out", "k", "steps", "sign", "rows", "a", "at"] b_law_machine (defScope s_law_machine) (defBody s_law_machine) = true := by decide +kernel
abbrev s_law_part : Stmt := topS 25
theorem sc_law_part : FnScope ["part"] ["part"] (defScope s_law_part) := ⟨rfl, rfl, rfl, by decide +kernel, rfl, by decide +kernel, by decide +kernel⟩
theorem ck_law_part : chkSs ["part"] b_law_part (defScope s_law_part) (defBody s_law_part) = true := by decide +kernel
abbrev s_law_bad_word : Stmt := topS 26
theorem sc_law_bad_word : FnScope ["cell", "some"] ["cell"] (defScope s_law_bad_word) := ⟨rfl, rfl, rfl, by decide +kernel, rfl, by decide +kernel, by decide +kernel⟩
theorem ck_law_bad_word : chkSs ["cell", "some"] b_law_bad_word (defScope s_law_bad_word) (defBody s_law_bad_word) = true := by decide +kernel
abbrev s_law_bad_first : Stmt := topS 27
theorem sc_law_bad_first : FnScope ["cell", "rooms", "signs", "size", "some"] ["cell", "rooms", "signs"] (defScope s_law_bad_first) := ⟨rfl, rfl, rfl, by decide +kernel, rfl, by decide +kernel, by decide +kernel⟩
theorem ck_law_bad_first : chkSs ["cell", "rooms", "signs", "size", "some"] b_law_bad_first (defScope s_law_bad_first) (defBody s_law_bad_first) = true := by decide +kernel
abbrev s_law_spoiled_line : Stmt := topS 28
theorem sc_law_spoiled_line : FnScope ["line", "cell", "words", "count", "way", "at"] ["line", "cell"] (defScope s_law_spoiled_line) := ⟨rfl, rfl, rfl, by decide +kernel, rfl, by decide +kernel, by decide +kernel⟩
theorem ck_law_spoiled_line : chkSs ["line", "cell", "words", "count", "way", "at"] b_law_spoiled_line (defScope s_law_spoiled_line) (defBody s_law_spoiled_line) = true := by decide +kernel
abbrev s_law_blanks : Stmt := topS 29
theorem sc_law_blanks : FnScope ["line", "cell", "more", "places", "at", "k"] ["line", "cell", "more"] (defScope s_law_blanks) := ⟨rfl, rfl, rfl, by decide +kernel, rfl, by decide +kernel, by decide +kernel⟩
theorem ck_law_blanks : chkSs ["line", "cell", "more", "places", "at", "k"] b_law_blanks (defScope s_law_blanks) (defBody s_law_blanks) = true := by decide +kernel
abbrev s_law_spoiled : Stmt := topS 30
theorem sc_law_spoiled : FnScope ["lines", "rooms", "signs", "cell", "at", "way"] ["lines", "rooms", "signs", "cell"] (defScope s_law_spoiled) := ⟨rfl, rfl, rfl, by decide +kernel, rfl, by decide +kernel, by decide +kernel⟩
theorem ck_law_spoiled : chkSs ["lines", "rooms", "signs", "cell", "at", "way"] b_law_spoiled (defScope s_law_spoiled) (defBody s_law_spoiled) = true := by decide +kernel
abbrev s_law : Stmt := topS 31
theorem sc_law : FnScope ["script", "rooms", "signs", "machine", "lines", "sign", "a", "row", "text", "marks", "e", "part"] ["script"] (defScope s_law) := ⟨rfl, rfl, rfl, by decide +kernel, rfl, by decide +kernel, by decide +kernel⟩
theorem ck_law : chkSs ["script", "rooms", "signs", "machine", "lines", "sign", "a", "row", "text", "marks", "e", "part"] b_law (defScope s_law) (defBody s_law) = true := by decide +kernel
def spLaw (K : PySem.W.Frag) : Sp := fun vs H Q _ => ∃ (a : Addr) (ns : List Int), vs = [.ref a] ∧ SqL K H a (ns.map V.int) ∧ ns.length ≤ 63 ∧ ∀ H', Q (.bl true) H'
set_option maxHeartbeats 0 in
theorem all_mk {l : PySem.W.OpenLaw} {w : World} {K : PySem.W.Frag} {h : Heap} {mg : Str → Option Value} {fa : Addr} {f1 f2 f3 f4 f5 f6 f7 f8 f9 f10 f11 f12 f13 f14 f15 f16 f17 f18 : Addr} (X : K.In h) (G : h.Ns mainGlobals mg) (hfa : mg "law" = some (.ref fa))
    {od1 an1 : Option Addr} {sl1 : Array (Option Value)} {oc1 kV1 dc1 pm1 cd1 ct1 : Value}
    (a1 : PySem.W.nsIn K mainGlobals "lowest" = some (some (.ref f1)))
    (l1 : K.lookup f1 = some ⟨oc1, od1, .func (PySem.W.fnOf "lowest" "lowest" (defArgs s_lowest) (defBody s_lowest) (defScope s_lowest) .none kV1 dc1 pm1 an1 cd1 ct1), sl1⟩)
    (c1 : PySem.W.codeIn K cd1 "lowest" = true) (k1 : PySem.W.keepIn K (.ref f1) = true)
    {od2 an2 : Option Addr} {sl2 : Array (Option Value)} {oc2 kV2 dc2 pm2 cd2 ct2 : Value}
    (a2 : PySem.W.nsIn K mainGlobals "looked" = some (some (.ref f2)))
    (l2 : K.lookup f2 = some ⟨oc2, od2, .func (PySem.W.fnOf "looked" "looked" (defArgs s_looked) (defBody s_looked) (defScope s_looked) .none kV2 dc2 pm2 an2 cd2 ct2), sl2⟩)
    (c2 : PySem.W.codeIn K cd2 "looked" = true) (k2 : PySem.W.keepIn K (.ref f2) = true)
    {od3 an3 : Option Addr} {sl3 : Array (Option Value)} {oc3 kV3 dc3 pm3 cd3 ct3 : Value}
    (a3 : PySem.W.nsIn K mainGlobals "number_of" = some (some (.ref f3)))
    (l3 : K.lookup f3 = some ⟨oc3, od3, .func (PySem.W.fnOf "number_of" "number_of" (defArgs s_number_of) (defBody s_number_of) (defScope s_number_of) .none kV3 dc3 pm3 an3 cd3 ct3), sl3⟩)
    (c3 : PySem.W.codeIn K cd3 "number_of" = true) (k3 : PySem.W.keepIn K (.ref f3) = true)
    {od4 an4 : Option Addr} {sl4 : Array (Option Value)} {oc4 kV4 dc4 pm4 cd4 ct4 : Value}
    (a4 : PySem.W.nsIn K mainGlobals "top_of" = some (some (.ref f4)))
    (l4 : K.lookup f4 = some ⟨oc4, od4, .func (PySem.W.fnOf "top_of" "top_of" (defArgs s_top_of) (defBody s_top_of) (defScope s_top_of) .none kV4 dc4 pm4 an4 cd4 ct4), sl4⟩)
    (c4 : PySem.W.codeIn K cd4 "top_of" = true) (k4 : PySem.W.keepIn K (.ref f4) = true)
    {od5 an5 : Option Addr} {sl5 : Array (Option Value)} {oc5 kV5 dc5 pm5 cd5 ct5 : Value}
    (a5 : PySem.W.nsIn K mainGlobals "fraction_of" = some (some (.ref f5)))
    (l5 : K.lookup f5 = some ⟨oc5, od5, .func (PySem.W.fnOf "fraction_of" "fraction_of" (defArgs s_fraction_of) (defBody s_fraction_of) (defScope s_fraction_of) .none kV5 dc5 pm5 an5 cd5 ct5), sl5⟩)
    (c5 : PySem.W.codeIn K cd5 "fraction_of" = true) (k5 : PySem.W.keepIn K (.ref f5) = true)
    {od6 an6 : Option Addr} {sl6 : Array (Option Value)} {oc6 kV6 dc6 pm6 cd6 ct6 : Value}
    (a6 : PySem.W.nsIn K mainGlobals "row_of" = some (some (.ref f6)))
    (l6 : K.lookup f6 = some ⟨oc6, od6, .func (PySem.W.fnOf "row_of" "row_of" (defArgs s_row_of) (defBody s_row_of) (defScope s_row_of) .none kV6 dc6 pm6 an6 cd6 ct6), sl6⟩)
    (c6 : PySem.W.codeIn K cd6 "row_of" = true) (k6 : PySem.W.keepIn K (.ref f6) = true)
    {od7 an7 : Option Addr} {sl7 : Array (Option Value)} {oc7 kV7 dc7 pm7 cd7 ct7 : Value}
    (a7 : PySem.W.nsIn K mainGlobals "read" = some (some (.ref f7)))
    (l7 : K.lookup f7 = some ⟨oc7, od7, .func (PySem.W.fnOf "read" "read" (defArgs s_read) (defBody s_read) (defScope s_read) .none kV7 dc7 pm7 an7 cd7 ct7), sl7⟩)
    (c7 : PySem.W.codeIn K cd7 "read" = true) (k7 : PySem.W.keepIn K (.ref f7) = true)
    {od8 an8 : Option Addr} {sl8 : Array (Option Value)} {oc8 kV8 dc8 pm8 cd8 ct8 : Value}
    (a8 : PySem.W.nsIn K mainGlobals "_law_cell_at" = some (some (.ref f8)))
    (l8 : K.lookup f8 = some ⟨oc8, od8, .func (PySem.W.fnOf "_law_cell_at" "_law_cell_at" (defArgs s_law_cell_at) (defBody s_law_cell_at) (defScope s_law_cell_at) .none kV8 dc8 pm8 an8 cd8 ct8), sl8⟩)
    (c8 : PySem.W.codeIn K cd8 "_law_cell_at" = true) (k8 : PySem.W.keepIn K (.ref f8) = true)
    {od9 an9 : Option Addr} {sl9 : Array (Option Value)} {oc9 kV9 dc9 pm9 cd9 ct9 : Value}
    (a9 : PySem.W.nsIn K mainGlobals "_law_low" = some (some (.ref f9)))
    (l9 : K.lookup f9 = some ⟨oc9, od9, .func (PySem.W.fnOf "_law_low" "_law_low" (defArgs s_law_low) (defBody s_law_low) (defScope s_law_low) .none kV9 dc9 pm9 an9 cd9 ct9), sl9⟩)
    (c9 : PySem.W.codeIn K cd9 "_law_low" = true) (k9 : PySem.W.keepIn K (.ref f9) = true)
    {od10 an10 : Option Addr} {sl10 : Array (Option Value)} {oc10 kV10 dc10 pm10 cd10 ct10 : Value}
    (a10 : PySem.W.nsIn K mainGlobals "_law_fraction" = some (some (.ref f10)))
    (l10 : K.lookup f10 = some ⟨oc10, od10, .func (PySem.W.fnOf "_law_fraction" "_law_fraction" (defArgs s_law_fraction) (defBody s_law_fraction) (defScope s_law_fraction) .none kV10 dc10 pm10 an10 cd10 ct10), sl10⟩)
    (c10 : PySem.W.codeIn K cd10 "_law_fraction" = true) (k10 : PySem.W.keepIn K (.ref f10) = true)
    {od11 an11 : Option Addr} {sl11 : Array (Option Value)} {oc11 kV11 dc11 pm11 cd11 ct11 : Value}
    (a11 : PySem.W.nsIn K mainGlobals "_law_machine" = some (some (.ref f11)))
    (l11 : K.lookup f11 = some ⟨oc11, od11, .func (PySem.W.fnOf "_law_machine" "_law_machine" (defArgs s_law_machine) (defBody s_law_machine) (defScope s_law_machine) .none kV11 dc11 pm11 an11 cd11 ct11), sl11⟩)
    (c11 : PySem.W.codeIn K cd11 "_law_machine" = true) (k11 : PySem.W.keepIn K (.ref f11) = true)
    {od12 an12 : Option Addr} {sl12 : Array (Option Value)} {oc12 kV12 dc12 pm12 cd12 ct12 : Value}
    (a12 : PySem.W.nsIn K mainGlobals "_law_part" = some (some (.ref f12)))
    (l12 : K.lookup f12 = some ⟨oc12, od12, .func (PySem.W.fnOf "_law_part" "_law_part" (defArgs s_law_part) (defBody s_law_part) (defScope s_law_part) .none kV12 dc12 pm12 an12 cd12 ct12), sl12⟩)
    (c12 : PySem.W.codeIn K cd12 "_law_part" = true) (k12 : PySem.W.keepIn K (.ref f12) = true)
    {od13 an13 : Option Addr} {sl13 : Array (Option Value)} {oc13 kV13 dc13 pm13 cd13 ct13 : Value}
    (a13 : PySem.W.nsIn K mainGlobals "_law_bad_word" = some (some (.ref f13)))
    (l13 : K.lookup f13 = some ⟨oc13, od13, .func (PySem.W.fnOf "_law_bad_word" "_law_bad_word" (defArgs s_law_bad_word) (defBody s_law_bad_word) (defScope s_law_bad_word) .none kV13 dc13 pm13 an13 cd13 ct13), sl13⟩)
    (c13 : PySem.W.codeIn K cd13 "_law_bad_word" = true) (k13 : PySem.W.keepIn K (.ref f13) = true)
    {od14 an14 : Option Addr} {sl14 : Array (Option Value)} {oc14 kV14 dc14 pm14 cd14 ct14 : Value}
    (a14 : PySem.W.nsIn K mainGlobals "_law_bad_first" = some (some (.ref f14)))
    (l14 : K.lookup f14 = some ⟨oc14, od14, .func (PySem.W.fnOf "_law_bad_first" "_law_bad_first" (defArgs s_law_bad_first) (defBody s_law_bad_first) (defScope s_law_bad_first) .none kV14 dc14 pm14 an14 cd14 ct14), sl14⟩)
    (c14 : PySem.W.codeIn K cd14 "_law_bad_first" = true) (k14 : PySem.W.keepIn K (.ref f14) = true)
    {od15 an15 : Option Addr} {sl15 : Array (Option Value)} {oc15 kV15 dc15 pm15 cd15 ct15 : Value}
    (a15 : PySem.W.nsIn K mainGlobals "_law_spoiled_line" = some (some (.ref f15)))
    (l15 : K.lookup f15 = some ⟨oc15, od15, .func (PySem.W.fnOf "_law_spoiled_line" "_law_spoiled_line" (defArgs s_law_spoiled_line) (defBody s_law_spoiled_line) (defScope s_law_spoiled_line) .none kV15 dc15 pm15 an15 cd15 ct15), sl15⟩)
    (c15 : PySem.W.codeIn K cd15 "_law_spoiled_line" = true) (k15 : PySem.W.keepIn K (.ref f15) = true)
    {od16 an16 : Option Addr} {sl16 : Array (Option Value)} {oc16 kV16 dc16 pm16 cd16 ct16 : Value}
    (a16 : PySem.W.nsIn K mainGlobals "_law_blanks" = some (some (.ref f16)))
    (l16 : K.lookup f16 = some ⟨oc16, od16, .func (PySem.W.fnOf "_law_blanks" "_law_blanks" (defArgs s_law_blanks) (defBody s_law_blanks) (defScope s_law_blanks) .none kV16 dc16 pm16 an16 cd16 ct16), sl16⟩)
    (c16 : PySem.W.codeIn K cd16 "_law_blanks" = true) (k16 : PySem.W.keepIn K (.ref f16) = true)
    {od17 an17 : Option Addr} {sl17 : Array (Option Value)} {oc17 kV17 dc17 pm17 cd17 ct17 : Value}
    (a17 : PySem.W.nsIn K mainGlobals "_law_spoiled" = some (some (.ref f17)))
    (l17 : K.lookup f17 = some ⟨oc17, od17, .func (PySem.W.fnOf "_law_spoiled" "_law_spoiled" (defArgs s_law_spoiled) (defBody s_law_spoiled) (defScope s_law_spoiled) .none kV17 dc17 pm17 an17 cd17 ct17), sl17⟩)
    (c17 : PySem.W.codeIn K cd17 "_law_spoiled" = true) (k17 : PySem.W.keepIn K (.ref f17) = true)
    {od18 an18 : Option Addr} {sl18 : Array (Option Value)} {oc18 kV18 dc18 pm18 cd18 ct18 : Value}
    (a18 : PySem.W.nsIn K mainGlobals "law" = some (some (.ref f18)))
    (l18 : K.lookup f18 = some ⟨oc18, od18, .func (PySem.W.fnOf "law" "law" (defArgs s_law) (defBody s_law) (defScope s_law) .none kV18 dc18 pm18 an18 cd18 ct18), sl18⟩)
    (c18 : PySem.W.codeIn K cd18 "law" = true) (k18 : PySem.W.keepIn K (.ref f18) = true)
    (z_len : PySem.W.nsIn K mainGlobals "len" = some none)
    (z_abs : PySem.W.nsIn K mainGlobals "abs" = some none)
    (z_list : PySem.W.nsIn K mainGlobals "list" = some none)
    (z_tuple : PySem.W.nsIn K mainGlobals "tuple" = some none)
    (z_str : PySem.W.nsIn K mainGlobals "str" = some none)
    (z_int : PySem.W.nsIn K mainGlobals "int" = some none)
    (z_bool : PySem.W.nsIn K mainGlobals "bool" = some none)
    (z_max : PySem.W.nsIn K mainGlobals "max" = some none)
    (z_min : PySem.W.nsIn K mainGlobals "min" = some none)
    (z_isinstance : PySem.W.nsIn K mainGlobals "isinstance" = some none)
    (z_range : PySem.W.nsIn K mainGlobals "range" = some none)
    (z_reversed : PySem.W.nsIn K mainGlobals "reversed" = some none)
    {t_FIGURES : Tok} (y_FIGURES : PySem.W.nsIn K mainGlobals "FIGURES" = some (some (.str "0123456789" t_FIGURES)))
    {t_MOST_ROOMS : Tok} (y_MOST_ROOMS : PySem.W.nsIn K mainGlobals "MOST_ROOMS" = some (some (.int 24 t_MOST_ROOMS)))
    {t_MOST_SIGNS : Tok} (y_MOST_SIGNS : PySem.W.nsIn K mainGlobals "MOST_SIGNS" = some (some (.int 4 t_MOST_SIGNS)))
    {e_BadNote : Addr} (x_BadNote : PySem.W.nsIn K mainGlobals "BadNote" = some (some (.ref e_BadNote)))
    {e_NoMachine : Addr} (x_NoMachine : PySem.W.nsIn K mainGlobals "NoMachine" = some (some (.ref e_NoMachine)))
    {e_WeighError : Addr} (x_WeighError : PySem.W.nsIn K mainGlobals "WeighError" = some (some (.ref e_WeighError)))
    (xe_BadNote : PySem.W.excIn K e_BadNote [.type "ValueError", .type "Exception", .type "BaseException", .type "object"] "ValueError.__new__" = true) (xk_BadNote : PySem.W.keepIn K (.ref e_BadNote) = true)
    (xe_NoMachine : PySem.W.excIn K e_NoMachine [.type "ValueError", .type "Exception", .type "BaseException", .type "object"] "ValueError.__new__" = true) (xk_NoMachine : PySem.W.keepIn K (.ref e_NoMachine) = true)
    (xs_BadNote : PySem.W.subIn K (.ref e_BadNote) (.type "BaseException") = some true) (xt_BadNote : PySem.W.typeIn K (.ref e_BadNote) = some (.type "type"))
    (xs_NoMachine : PySem.W.subIn K (.ref e_NoMachine) (.type "BaseException") = some true) (xt_NoMachine : PySem.W.typeIn K (.ref e_NoMachine) = some (.type "type"))
    (xs_WeighError : PySem.W.subIn K (.ref e_WeighError) (.type "BaseException") = some true) (xt_WeighError : PySem.W.typeIn K (.ref e_WeighError) = some (.type "type"))
    (xd_NoMachine : PySem.W.hasDictIn K e_NoMachine = true)
    (xd_WeighError : PySem.W.hasDictIn K e_WeighError = true)
    (xm_NoMachine_WeighError : PySem.W.subIn K (.ref e_NoMachine) (.ref e_WeighError) = some true)
    (y1_NoMachine : PySem.W.findIn K (.ref e_NoMachine) "__getattribute__" = some (some (.builtin "BaseException.__getattribute__"))) (y2_NoMachine : PySem.W.findIn K (.ref e_NoMachine) "__getattr__" = some none) (y3_NoMachine : PySem.W.subIn K (.ref e_NoMachine) (.type "BaseException") = some true) (y4_NoMachine : PySem.W.hasDictIn K e_NoMachine = true)
    (y5_NoMachine : PySem.W.findIn K (.ref e_NoMachine) "__class__" = some (some (.builtin "object.__class__"))) (y6_NoMachine : PySem.W.specialIn K (.builtin "object.__class__") "__get__" = some (some (.builtin "getset_descriptor.__get__"))) (y7_NoMachine : PySem.W.takesIn K (.builtin "object.__class__") = some true) (y8_NoMachine : PySem.W.mroIn K e_NoMachine (.type "object") = some true)
    (kt_NoMachine_BadNote : PySem.W.kitOne K (.ref e_NoMachine) (.ref e_BadNote) = some false)
    (kt_NoMachine_ValueError : PySem.W.kitOne K (.ref e_NoMachine) (.type "ValueError") = some true)
    (kt_NoMachine_NoMachine : PySem.W.kitOne K (.ref e_NoMachine) (.ref e_NoMachine) = some true)
    (xm_BadNote_WeighError : PySem.W.subIn K (.ref e_BadNote) (.ref e_WeighError) = some true)
    (y1_BadNote : PySem.W.findIn K (.ref e_BadNote) "__getattribute__" = some (some (.builtin "BaseException.__getattribute__"))) (y2_BadNote : PySem.W.findIn K (.ref e_BadNote) "__getattr__" = some none) (y3_BadNote : PySem.W.subIn K (.ref e_BadNote) (.type "BaseException") = some true) (y4_BadNote : PySem.W.hasDictIn K e_BadNote = true)
    (y5_BadNote : PySem.W.findIn K (.ref e_BadNote) "__class__" = some (some (.builtin "object.__class__"))) (y6_BadNote : PySem.W.specialIn K (.builtin "object.__class__") "__get__" = some (some (.builtin "getset_descriptor.__get__"))) (y7_BadNote : PySem.W.takesIn K (.builtin "object.__class__") = some true) (y8_BadNote : PySem.W.mroIn K e_BadNote (.type "object") = some true)
    (kt_BadNote_BadNote : PySem.W.kitOne K (.ref e_BadNote) (.ref e_BadNote) = some true)
    (kt_BadNote_ValueError : PySem.W.kitOne K (.ref e_BadNote) (.type "ValueError") = some true)
    (kt_BadNote_NoMachine : PySem.W.kitOne K (.ref e_BadNote) (.ref e_NoMachine) = some false)
    (z_ValueError : PySem.W.nsIn K mainGlobals "ValueError" = some none) :
    ∃ fd : FuncData, (∀ (s : Shared) (v : Value), BindsTo s fd ⟨[v], []⟩ [("script", v)]) ∧ ∀ base : Heap, K.In base → base.Ns mainGlobals mg → FnOk l.prog w K mg base (L2.CX l.prog w) 6 fa fd ["script"] (spLaw K) := by
  have e := hfa.symm.trans (PySem.W.mg_of X G a18)
  cases e
  have hb : BltOk mg := ⟨PySem.W.mg_none_of X G z_len, PySem.W.mg_none_of X G z_abs, PySem.W.mg_none_of X G z_list, PySem.W.mg_none_of X G z_tuple, PySem.W.mg_none_of X G z_str, PySem.W.mg_none_of X G z_int, PySem.W.mg_none_of X G z_bool, PySem.W.mg_none_of X G z_max, PySem.W.mg_none_of X G z_min, PySem.W.mg_none_of X G z_isinstance, PySem.W.mg_none_of X G z_range, PySem.W.mg_none_of X G z_reversed⟩
  refine ⟨PySem.W.fnOf "law" "law" (defArgs s_law) (defBody s_law) (defScope s_law) .none kV18 dc18 pm18 an18 cd18 ct18, fun s v => .of_eq rfl, fun base _ _ => ?_⟩
  generalize hcl : (fun c : Str => (mg c).getD .none) = cl
  have gl_FIGURES : GoodGl K mg ("FIGURES", (.str "0123456789")) := ⟨.str "0123456789", _, PySem.W.mg_of X G y_FIGURES, ⟨_, rfl⟩, fun _ => .str _⟩
  have gl_MOST_ROOMS : GoodGl K mg ("MOST_ROOMS", (.int 24)) := ⟨.int 24, _, PySem.W.mg_of X G y_MOST_ROOMS, ⟨_, rfl⟩, fun _ => .int _⟩
  have gl_MOST_SIGNS : GoodGl K mg ("MOST_SIGNS", (.int 4)) := ⟨.int 4, _, PySem.W.mg_of X G y_MOST_SIGNS, ⟨_, rfl⟩, fun _ => .int _⟩
  have ge_BadNote : GoodEx K mg cl (.rais "BadNote") := ⟨e_BadNote, by rw [← hcl]; show (mg "BadNote").getD .none = _; rw [PySem.W.mg_of X G x_BadNote]; rfl, PySem.W.mg_of X G x_BadNote, xe_BadNote, xk_BadNote, xs_BadNote, xt_BadNote⟩
  have ge_NoMachine : GoodEx K mg cl (.rais "NoMachine") := ⟨e_NoMachine, by rw [← hcl]; show (mg "NoMachine").getD .none = _; rw [PySem.W.mg_of X G x_NoMachine]; rfl, PySem.W.mg_of X G x_NoMachine, xe_NoMachine, xk_NoMachine, xs_NoMachine, xt_NoMachine⟩
  have gt_0 : GoodEx K mg cl (.tri "NoMachine" [] []) := ⟨.ref e_NoMachine, PySem.W.mg_of X G x_NoMachine, trivial⟩
  have gt_1 : GoodEx K mg cl (.tri "WeighError" ["BadNote", "ValueError", "NoMachine"] [("NoMachine", [false, true, true]), ("BadNote", [true, true, false])]) := ⟨.ref e_WeighError, PySem.W.mg_of X G x_WeighError, ⟨⟨e_NoMachine, (by rw [← hcl]; show (mg "NoMachine").getD .none = _; rw [PySem.W.mg_of X G x_NoMachine]; rfl), PySem.W.exm_ref xs_WeighError xd_WeighError xt_WeighError xm_NoMachine_WeighError, ⟨y1_NoMachine, y2_NoMachine, y3_NoMachine, y4_NoMachine, y5_NoMachine, y6_NoMachine, y7_NoMachine, y8_NoMachine⟩, ⟨⟨_, _, .inl ⟨e_BadNote, PySem.W.mg_of X G x_BadNote, rfl, rfl⟩, kt_NoMachine_BadNote⟩, ⟨⟨_, _, .inr ⟨rfl, PySem.W.mg_none_of X G z_ValueError, rfl, rfl⟩, kt_NoMachine_ValueError⟩, ⟨⟨_, _, .inl ⟨e_NoMachine, PySem.W.mg_of X G x_NoMachine, rfl, rfl⟩, kt_NoMachine_NoMachine⟩, trivial⟩⟩⟩⟩, ⟨⟨e_BadNote, (by rw [← hcl]; show (mg "BadNote").getD .none = _; rw [PySem.W.mg_of X G x_BadNote]; rfl), PySem.W.exm_ref xs_WeighError xd_WeighError xt_WeighError xm_BadNote_WeighError, ⟨y1_BadNote, y2_BadNote, y3_BadNote, y4_BadNote, y5_BadNote, y6_BadNote, y7_BadNote, y8_BadNote⟩, ⟨⟨_, _, .inl ⟨e_BadNote, PySem.W.mg_of X G x_BadNote, rfl, rfl⟩, kt_BadNote_BadNote⟩, ⟨⟨_, _, .inr ⟨rfl, PySem.W.mg_none_of X G z_ValueError, rfl, rfl⟩, kt_BadNote_ValueError⟩, ⟨⟨_, _, .inl ⟨e_NoMachine, PySem.W.mg_of X G x_NoMachine, rfl, rfl⟩, kt_BadNote_NoMachine⟩, trivial⟩⟩⟩⟩, trivial⟩⟩⟩
  have g_lowest : GoodFn l.prog w K mg base cl 1 (.fn "lowest" 2 m_lowest) := ⟨f1, _, _, PySem.W.mg_of X G a1, fn_sound (fun_mk (st := s_lowest) l1 c1 k1) sc_lowest hb ck_lowest trivial trivial trivial, k1, (fun_mk (st := s_lowest) l1 c1 k1).binds (ps := ["top", "bottom"]) fun _ _ _ _ _ _ us hl => match us, hl with | [_, _], _ => rfl⟩
  have g_looked : GoodFn l.prog w K mg base cl 1 (.fn "looked" 1 m_looked) := ⟨f2, _, _, PySem.W.mg_of X G a2, fn_sound (fun_mk (st := s_looked) l2 c2 k2) sc_looked hb ck_looked trivial ⟨gl_MOST_ROOMS, gl_MOST_SIGNS, trivial⟩ ⟨ge_NoMachine, ge_NoMachine, ge_NoMachine, trivial⟩, k2, (fun_mk (st := s_looked) l2 c2 k2).binds (ps := ["machine"]) fun _ _ _ _ _ _ us hl => match us, hl with | [_], _ => rfl⟩
  have g_number_of : GoodFn l.prog w K mg base cl 1 (.fn "number_of" 1 m_number_of) := ⟨f3, _, _, PySem.W.mg_of X G a3, fn_sound (fun_mk (st := s_number_of) l3 c3 k3) sc_number_of hb ck_number_of trivial ⟨gl_FIGURES, trivial⟩ ⟨ge_BadNote, ge_BadNote, trivial⟩, k3, (fun_mk (st := s_number_of) l3 c3 k3).binds (ps := ["word"]) fun _ _ _ _ _ _ us hl => match us, hl with | [_], _ => rfl⟩
  have g_top_of : GoodFn l.prog w K mg base cl 2 (.fn "top_of" 1 m_top_of) := ⟨f4, _, _, PySem.W.mg_of X G a4, fn_sound (fun_mk (st := s_top_of) l4 c4 k4) sc_top_of hb ck_top_of ⟨g_number_of.up (by decide), g_number_of.up (by decide), trivial⟩ trivial ⟨ge_BadNote, trivial⟩, k4, (fun_mk (st := s_top_of) l4 c4 k4).binds (ps := ["word"]) fun _ _ _ _ _ _ us hl => match us, hl with | [_], _ => rfl⟩
  have g_fraction_of : GoodFn l.prog w K mg base cl 3 (.fn "fraction_of" 1 m_fraction_of) := ⟨f5, _, _, PySem.W.mg_of X G a5, fn_sound (fun_mk (st := s_fraction_of) l5 c5 k5) sc_fraction_of hb ck_fraction_of ⟨g_top_of.up (by decide), g_number_of.up (by decide), g_lowest.up (by decide), trivial⟩ trivial ⟨ge_BadNote, ge_BadNote, trivial⟩, k5, (fun_mk (st := s_fraction_of) l5 c5 k5).binds (ps := ["word"]) fun _ _ _ _ _ _ us hl => match us, hl with | [_], _ => rfl⟩
  have g_row_of : GoodFn l.prog w K mg base cl 4 (.fn "row_of" 3 m_row_of) := ⟨f6, _, _, PySem.W.mg_of X G a6, fn_sound (fun_mk (st := s_row_of) l6 c6 k6) sc_row_of hb ck_row_of ⟨g_fraction_of.up (by decide), trivial⟩ trivial ⟨ge_BadNote, trivial⟩, k6, (fun_mk (st := s_row_of) l6 c6 k6).binds (ps := ["line", "words", "many"]) fun _ _ _ _ _ _ us hl => match us, hl with | [_, _, _], _ => rfl⟩
  have g_read : GoodFn l.prog w K mg base cl 5 (.fn "read" 1 m_read) := ⟨f7, _, _, PySem.W.mg_of X G a7, fn_sound (fun_mk (st := s_read) l7 c7 k7) sc_read hb ck_read ⟨g_number_of.up (by decide), g_number_of.up (by decide), g_row_of.up (by decide), g_row_of.up (by decide), g_row_of.up (by decide), g_looked.up (by decide), trivial⟩ trivial ⟨ge_BadNote, ge_BadNote, gt_0, trivial⟩, k7, (fun_mk (st := s_read) l7 c7 k7).binds (ps := ["text"]) fun _ _ _ _ _ _ us hl => match us, hl with | [_], _ => rfl⟩
  have g_law_cell_at : GoodFn l.prog w K mg base cl 1 (.fn "_law_cell_at" 2 m_law_cell_at) := ⟨f8, _, _, PySem.W.mg_of X G a8, fn_sound (fun_mk (st := s_law_cell_at) l8 c8 k8) sc_law_cell_at hb ck_law_cell_at trivial trivial trivial, k8, (fun_mk (st := s_law_cell_at) l8 c8 k8).binds (ps := ["script", "k"]) fun _ _ _ _ _ _ us hl => match us, hl with | [_, _], _ => rfl⟩
  have g_law_low : GoodFn l.prog w K mg base cl 1 (.fn "_law_low" 2 m_law_low) := ⟨f9, _, _, PySem.W.mg_of X G a9, fn_sound (fun_mk (st := s_law_low) l9 c9 k9) sc_law_low hb ck_law_low trivial trivial trivial, k9, (fun_mk (st := s_law_low) l9 c9 k9).binds (ps := ["top", "bottom"]) fun _ _ _ _ _ _ us hl => match us, hl with | [_, _], _ => rfl⟩
  have g_law_fraction : GoodFn l.prog w K mg base cl 2 (.fn "_law_fraction" 1 m_law_fraction) := ⟨f10, _, _, PySem.W.mg_of X G a10, fn_sound (fun_mk (st := s_law_fraction) l10 c10 k10) sc_law_fraction hb ck_law_fraction ⟨g_law_low.up (by decide), trivial⟩ trivial trivial, k10, (fun_mk (st := s_law_fraction) l10 c10 k10).binds (ps := ["cell"]) fun _ _ _ _ _ _ us hl => match us, hl with | [_], _ => rfl⟩
  have g_law_machine : GoodFn l.prog w K mg base cl 3 (.fn "_law_machine" 3 m_law_machine) := ⟨f11, _, _, PySem.W.mg_of X G a11, fn_sound (fun_mk (st := s_law_machine) l11 c11 k11) sc_law_machine hb ck_law_machine ⟨g_law_fraction.up (by decide), trivial⟩ trivial trivial, k11, (fun_mk (st := s_law_machine) l11 c11 k11).binds (ps := ["cell", "rooms", "signs"]) fun _ _ _ _ _ _ us hl => match us, hl with | [_, _, _], _ => rfl⟩
  have g_law_part : GoodFn l.prog w K mg base cl 1 (.fn "_law_part" 1 m_law_part) := ⟨f12, _, _, PySem.W.mg_of X G a12, fn_sound (fun_mk (st := s_law_part) l12 c12 k12) sc_law_part hb ck_law_part trivial trivial trivial, k12, (fun_mk (st := s_law_part) l12 c12 k12).binds (ps := ["part"]) fun _ _ _ _ _ _ us hl => match us, hl with | [_], _ => rfl⟩
  have g_law_bad_word : GoodFn l.prog w K mg base cl 1 (.fn "_law_bad_word" 1 m_law_bad_word) := ⟨f13, _, _, PySem.W.mg_of X G a13, fn_sound (fun_mk (st := s_law_bad_word) l13 c13 k13) sc_law_bad_word hb ck_law_bad_word trivial trivial trivial, k13, (fun_mk (st := s_law_bad_word) l13 c13 k13).binds (ps := ["cell"]) fun _ _ _ _ _ _ us hl => match us, hl with | [_], _ => rfl⟩
  have g_law_bad_first : GoodFn l.prog w K mg base cl 1 (.fn "_law_bad_first" 3 m_law_bad_first) := ⟨f14, _, _, PySem.W.mg_of X G a14, fn_sound (fun_mk (st := s_law_bad_first) l14 c14 k14) sc_law_bad_first hb ck_law_bad_first trivial trivial trivial, k14, (fun_mk (st := s_law_bad_first) l14 c14 k14).binds (ps := ["cell", "rooms", "signs"]) fun _ _ _ _ _ _ us hl => match us, hl with | [_, _, _], _ => rfl⟩
  have g_law_spoiled_line : GoodFn l.prog w K mg base cl 2 (.fn "_law_spoiled_line" 2 m_law_spoiled_line) := ⟨f15, _, _, PySem.W.mg_of X G a15, fn_sound (fun_mk (st := s_law_spoiled_line) l15 c15 k15) sc_law_spoiled_line hb ck_law_spoiled_line ⟨g_law_bad_word.up (by decide), trivial⟩ trivial trivial, k15, (fun_mk (st := s_law_spoiled_line) l15 c15 k15).binds (ps := ["line", "cell"]) fun _ _ _ _ _ _ us hl => match us, hl with | [_, _], _ => rfl⟩
  have g_law_blanks : GoodFn l.prog w K mg base cl 1 (.fn "_law_blanks" 3 m_law_blanks) := ⟨f16, _, _, PySem.W.mg_of X G a16, fn_sound (fun_mk (st := s_law_blanks) l16 c16 k16) sc_law_blanks hb ck_law_blanks trivial trivial trivial, k16, (fun_mk (st := s_law_blanks) l16 c16 k16).binds (ps := ["line", "cell", "more"]) fun _ _ _ _ _ _ us hl => match us, hl with | [_, _, _], _ => rfl⟩
  have g_law_spoiled : GoodFn l.prog w K mg base cl 3 (.fn "_law_spoiled" 4 m_law_spoiled) := ⟨f17, _, _, PySem.W.mg_of X G a17, fn_sound (fun_mk (st := s_law_spoiled) l17 c17 k17) sc_law_spoiled hb ck_law_spoiled ⟨g_law_blanks.up (by decide), g_law_bad_first.up (by decide), g_law_spoiled_line.up (by decide), trivial⟩ trivial trivial, k17, (fun_mk (st := s_law_spoiled) l17 c17 k17).binds (ps := ["lines", "rooms", "signs", "cell"]) fun _ _ _ _ _ _ us hl => match us, hl with | [_, _, _, _], _ => rfl⟩
  refine (fn_sound (n := fuel) (cl := cl) (fun_mk (st := s_law) l18 c18 k18) sc_law hb ck_law ⟨g_law_cell_at.up (by decide), g_law_cell_at.up (by decide), g_law_machine.up (by decide), g_law_cell_at.up (by decide), g_law_part.up (by decide), g_law_part.up (by decide), g_law_part.up (by decide), g_law_cell_at.up (by decide), g_law_spoiled.up (by decide), g_law_cell_at.up (by decide), g_read.up (by decide), trivial⟩ trivial ⟨gt_1, trivial⟩).imp fun vs H Q E h => ?_
  obtain ⟨a, ns, rfl, hS, hlen, q⟩ := h
  refine ⟨rfl, H, [.scr ns], Same.refl _, .cons (.scr hS) .nil, ?_⟩
  have z := law_true ns hlen
  unfold m_law at z
  show (match MP.mirror 12 fuel b_law [.scr ns] with | .ok r => _ | .exc c => _ | .stuck => _)
  rw [z]
  intro v G' H' E' r
  cases (show Rep K G' v (.bl true) from r)
  exact q H'
theorem walk {l : PySem.W.OpenLaw} {q : Program} {loose : List Str} {XP : (Str → Option Value) → Heap → Prop} {YP : World → Heap → Prop} {d : DefRec} {K : Params → PySem.W.Frag} (hn : l.most = some 63) (hdf : d.params.defaults = [])
    (hY : ∀ (w : World) (h : Heap), YP w h → (K w.params).In h)
    (F : ∀ (w : World) (mg : Str → Option Value) (fa : Addr) (h : Heap), (K w.params).In h → h.Ns mainGlobals mg → mg d.name = some (.ref fa) →
      ∃ fd : FuncData, (∀ (s : Shared) (u : Value), BindsTo s fd ⟨[u], []⟩ [("script", u)]) ∧ ∀ base : Heap, (K w.params).In base → base.Ns mainGlobals mg → FnOk l.prog w (K w.params) mg base (L2.CX l.prog w) 6 fa fd ["script"] (spLaw (K w.params))) :
    PySem.W.WalkO q loose XP YP l.row.toRowW d [] (fun f vs => PySem.call f vs) :=
  L2.walk_of (n := 63) (k := 6) (x := "script") (CX := fun w => L2.CX l.prog w) (sp := fun w => spLaw (K w.params)) hn (by decide) hdf ⟨rfl, by decide, by decide⟩ hY F (fun _ _ a ns hl _ hS => ⟨a, ns, rfl, hS, hl, fun _ => rfl⟩) fun _ _ _ _ _ z => by
    obtain ⟨_, _, _, _, _, _, _, _, _, _, _, _, z⟩ := z
    exact z
end WS
open PySem PySem.W PyProof.Rows
set_option maxRecDepth 100000 in
set_option maxHeartbeats 0 in
theorem PySem.Challenge.cw_wordscales_k16_notes_refused_holds : PySem.Challenge.rw_wordscales_k16_notes_refused.Holds := by
  w_on; o_law; k_head; (case hw => w_witness2)
  k_fill
  refine WS.walk (l := PySem.Challenge.rw_wordscales_k16_notes_refused) rfl rfl (fun w h Y => PySem.W.kIn_of Y) ?F
  case F =>
    intro w mg fa h KX G hmg
    refine' WS.all_mk KX G hmg ?a1 ?l1 ?c1 ?k1 ?a2 ?l2 ?c2 ?k2 ?a3 ?l3 ?c3 ?k3 ?a4 ?l4 ?c4 ?k4 ?a5 ?l5 ?c5 ?k5 ?a6 ?l6 ?c6 ?k6 ?a7 ?l7 ?c7 ?k7 ?a8 ?l8 ?c8 ?k8 ?a9 ?l9 ?c9 ?k9 ?a10 ?l10 ?c10 ?k10 ?a11 ?l11 ?c11 ?k11 ?a12 ?l12 ?c12 ?k12 ?a13 ?l13 ?c13 ?k13 ?a14 ?l14 ?c14 ?k14 ?a15 ?l15 ?c15 ?k15 ?a16 ?l16 ?c16 ?k16 ?a17 ?l17 ?c17 ?k17 ?a18 ?l18 ?c18 ?k18 ?z_len ?z_abs ?z_list ?z_tuple ?z_str ?z_int ?z_bool ?z_max ?z_min ?z_isinstance ?z_range ?z_reversed ?y_FIGURES ?y_MOST_ROOMS ?y_MOST_SIGNS ?x_BadNote ?x_NoMachine ?x_WeighError ?xe_BadNote ?xk_BadNote ?xe_NoMachine ?xk_NoMachine ?xs_BadNote ?xt_BadNote ?xs_NoMachine ?xt_NoMachine ?xs_WeighError ?xt_WeighError ?xd_NoMachine ?xd_WeighError ?xm_NoMachine_WeighError ?y1_NoMachine ?y2_NoMachine ?y3_NoMachine ?y4_NoMachine ?y5_NoMachine ?y6_NoMachine ?y7_NoMachine ?y8_NoMachine ?kt_NoMachine_BadNote ?kt_NoMachine_ValueError ?kt_NoMachine_NoMachine ?xm_BadNote_WeighError ?y1_BadNote ?y2_BadNote ?y3_BadNote ?y4_BadNote ?y5_BadNote ?y6_BadNote ?y7_BadNote ?y8_BadNote ?kt_BadNote_BadNote ?kt_BadNote_ValueError ?kt_BadNote_NoMachine ?z_ValueError
    (case a1 => k_is)
    (case l1 => k_is)
    (case c1 => k_is)
    (case k1 => k_is)
    (case a2 => k_is)
    (case l2 => k_is)
    (case c2 => k_is)
    (case k2 => k_is)
    (case a3 => k_is)
    (case l3 => k_is)
    (case c3 => k_is)
    (case k3 => k_is)
    (case a4 => k_is)
    (case l4 => k_is)
    (case c4 => k_is)
    (case k4 => k_is)
    (case a5 => k_is)
    (case l5 => k_is)
    (case c5 => k_is)
    (case k5 => k_is)
    (case a6 => k_is)
    (case l6 => k_is)
    (case c6 => k_is)
    (case k6 => k_is)
    (case a7 => k_is)
    (case l7 => k_is)
    (case c7 => k_is)
    (case k7 => k_is)
    (case a8 => k_is)
    (case l8 => k_is)
    (case c8 => k_is)
    (case k8 => k_is)
    (case a9 => k_is)
    (case l9 => k_is)
    (case c9 => k_is)
    (case k9 => k_is)
    (case a10 => k_is)
    (case l10 => k_is)
    (case c10 => k_is)
    (case k10 => k_is)
    (case a11 => k_is)
    (case l11 => k_is)
    (case c11 => k_is)
    (case k11 => k_is)
    (case a12 => k_is)
    (case l12 => k_is)
    (case c12 => k_is)
    (case k12 => k_is)
    (case a13 => k_is)
    (case l13 => k_is)
    (case c13 => k_is)
    (case k13 => k_is)
    (case a14 => k_is)
    (case l14 => k_is)
    (case c14 => k_is)
    (case k14 => k_is)
    (case a15 => k_is)
    (case l15 => k_is)
    (case c15 => k_is)
    (case k15 => k_is)
    (case a16 => k_is)
    (case l16 => k_is)
    (case c16 => k_is)
    (case k16 => k_is)
    (case a17 => k_is)
    (case l17 => k_is)
    (case c17 => k_is)
    (case k17 => k_is)
    (case a18 => k_is)
    (case l18 => k_is)
    (case c18 => k_is)
    (case k18 => k_is)
    (case z_len => k_is)
    (case z_abs => k_is)
    (case z_list => k_is)
    (case z_tuple => k_is)
    (case z_str => k_is)
    (case z_int => k_is)
    (case z_bool => k_is)
    (case z_max => k_is)
    (case z_min => k_is)
    (case z_isinstance => k_is)
    (case z_range => k_is)
    (case z_reversed => k_is)
    (case y_FIGURES => k_is)
    (case y_MOST_ROOMS => k_is)
    (case y_MOST_SIGNS => k_is)
    (case x_BadNote => k_is)
    (case x_NoMachine => k_is)
    (case x_WeighError => k_is)
    (case xe_BadNote => k_exc)
    (case xk_BadNote => k_is)
    (case xe_NoMachine => k_exc)
    (case xk_NoMachine => k_is)
    (case xs_BadNote => k_is)
    (case xt_BadNote => k_is)
    (case xs_NoMachine => k_is)
    (case xt_NoMachine => k_is)
    (case xs_WeighError => k_is)
    (case xt_WeighError => k_is)
    (case xd_NoMachine => k_is)
    (case xd_WeighError => k_is)
    (case xm_NoMachine_WeighError => k_is)
    (case y1_NoMachine => k_is)
    (case y2_NoMachine => k_is)
    (case y3_NoMachine => k_is)
    (case y4_NoMachine => k_is)
    (case y5_NoMachine => k_is)
    (case y6_NoMachine => k_is)
    (case y7_NoMachine => k_is)
    (case y8_NoMachine => k_is)
    (case kt_NoMachine_BadNote => kit_is)
    (case kt_NoMachine_ValueError => kit_is)
    (case kt_NoMachine_NoMachine => kit_is)
    (case xm_BadNote_WeighError => k_is)
    (case y1_BadNote => k_is)
    (case y2_BadNote => k_is)
    (case y3_BadNote => k_is)
    (case y4_BadNote => k_is)
    (case y5_BadNote => k_is)
    (case y6_BadNote => k_is)
    (case y7_BadNote => k_is)
    (case y8_BadNote => k_is)
    (case kt_BadNote_BadNote => kit_is)
    (case kt_BadNote_ValueError => kit_is)
    (case kt_BadNote_NoMachine => kit_is)
    (case z_ValueError => k_is)

