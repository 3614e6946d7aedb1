import PyProof.Rows.All
import Wide.All
import OpenK.AllK
import Wide.FinOn
import PyProof.Rows.StrOr
import KE.KIntText
import KE.KxText
import HandS.ForExc
import HandS.Comp
import HandS.Dict
import HandS.Iter
import HandS.Text
import HandS.FStr
import HandS.Codes
import PyProof.RangeIter
import HandS.Hot
import HandS.HotCalls
import HandS.OwnEq
import HandS.ExcIs
import KE.KExcIs
import HandS.ExcField
import KE.KTryMore
import HandS.ExcCtx
import PyProof.RulesAs
import HandS.Lambda
import HandS.ExcInit
import HandS.ExcInitHot
import HandS.Gcd
import HandS.IsInst
import HandS.TupAny
import HandS.Words
import HandS.Defaults
import HandS.Walk
import HandS.WideBits
import HandS.ExcBuiltin
import PyProof.StrOps2
import KE.KStateDown
import KE.KNest
import KE.KNestM
import HandS.Head0
import HandS.Head1
import HandS.Head2
import HandS.Head3
import HandS.HeadHook1
import HandS.HeadHook2
import HandS.HeadHook3
import HandS.HeadHook4
import HandS.HeadWalk
import PySem.Challenge.RW_waysacross_k17_numbers
import KE.IntTextText
import HandS.Conv
set_option Elab.async false
set_option linter.all false
set_option maxRecDepth 100000
set_option maxHeartbeats 4000000
/-! LayA: ints written and read up to 4,300 digits -/
namespace Lay
open PySem PySem.Spec PyProof.Rows L2
/-- nobody has set another limit of digits -/
def DigK (K : PySem.W.Frag) : Prop := PySem.W.nsIn K cStatics "sys.int_max_str_digits" = some none
theorem ns_gone {K : PySem.W.Frag} {h : Heap} {a : Addr} {m : Str → Option Value} {n : Str} (kin : K.In h) (g : h.Ns a m) (e : PySem.W.nsIn K a n = some none) : m n = none := by
  obtain ⟨ob, ens, epo, h1, h2, _, look⟩ := g
  rw [← look n]
  unfold PySem.W.nsIn at e
  cases q : K.lookup a with
  | none => rw [q] at e; cases e
  | some o2 =>
    have same := kin _ _ q
    rw [h1] at same
    obtain rfl := Option.some.inj same
    obtain ⟨c, d, dt, sl⟩ := ob
    obtain rfl : dt = .dict ens epo := h2
    rw [q] at e
    have e2 : (match ens.toList.find? (·.key.isStr n) with
      | some en => some (some en.val)
      | none => if ens.toList.any (·.refKey) then none else some none) = some none := e
    cases z : ens.toList.find? (·.key.isStr n) with
    | some en => rw [z] at e2; cases e2
    | none =>
      unfold nsFind findBy
      rw [← Array.find?_toList, z]
      rfl
section
variable {X : Cx} {pins : List (Addr × Obj)} {σ : L2.St} {H : Hp} {s : Shared}
theorem no_digits (I : Inv X pins σ H s) (d : DigK X.K) : s.heap.NoDigits := by
  obtain ⟨mc, h1, _⟩ := I.nolimit
  exact ⟨mc, h1, ns_gone I.kIn h1 d⟩
/-- ints below 10 ^ 4300 are written -/
def Short (i : Int) : Prop := i.natAbs < 10 ^ 4300
theorem call_strBig (hc : X.calm = true) (d : DigK X.K) : CallR X (.type "str") (fun xs H Q => ∃ i, xs = [.int i] ∧ Short i ∧ Q (.str (toString i)) H) := by
  intro pins s σ H xs us Q I r h
  obtain ⟨i, rfl, hi, q⟩ := h
  obtain ⟨u, rfl, t, rfl⟩ := vals1 r
  exact str_of_int_or (I.ok.hd hc) (no_digits I d) (fun _ => ⟨.str _, H, I.tok _, ⟨_, rfl⟩, q⟩) fun big => absurd hi (Nat.not_lt.mpr big)
/-- {x}: a text or such an int -/
def tFmtB (te : TE) : TE := fun σ H Q => te σ H fun x H1 => (∃ y : Str, x = .str y ∧ y.length ≤ sizeLine ∧ Q (.str y) H1) ∨ ∃ i : Int, x = .int i ∧ Short i ∧ Q (.str (toString i)) H1
theorem pe_fmtB {e : Expr} {te : TE} {pos : Pos} (hc : X.calm = true) (d : DigK X.K) (he : PE X e te) : PE X (.FormattedValue e (-1) none pos) (tFmtB te) := by
  constructor
  intro pins s σ H Q I h
  refine wpAny_FormattedValue_plain (thn (he.run pins s σ H _ I h) fun v s1 hv => ?_)
  obtain ⟨x, H1, I1, r1, q⟩ := hv
  rcases q with ⟨y, rfl, hz, q⟩ | ⟨i, rfl, hi, q⟩
  · obtain ⟨t, rfl⟩ := r1
    exact wpAny_formatField_str ⟨.str y, H1, I1, ⟨t, rfl⟩, q⟩ ⟨.str y, H1, I1.tok _, ⟨_, rfl⟩, q⟩ hz
  · obtain ⟨t, rfl⟩ := r1
    exact formatField_int (I.ok.hd hc) (no_digits I1 d) (fun _ => ⟨.str (toString i), H1, I1.tok _, ⟨_, rfl⟩, q⟩) fun big => absurd hi (Nat.not_lt.mpr big)
end
end Lay

set_option Elab.async false
set_option linter.all false
set_option maxRecDepth 100000
set_option maxHeartbeats 4000000
namespace Lay
open PySem PySem.Spec PyProof.Rows L2 PySem.NumText
theorem lim_is {M : Model} {A : Around} {E : Value → Shared → Prop} {s : Shared} {Q : Nat → Shared → Prop} (hn : s.heap.NoDigits) (h : Q 4300 s) : wpAny M A Builtin.intMaxStrDigits Q E s := by
  obtain ⟨mc, hns, hz⟩ := hn
  unfold Builtin.intMaxStrDigits
  refine wpAny_bind (wpAny_nsGet hns ?_)
  rw [hz]
  exact wpAny_pure h
theorem text_long {M : Model} {A : Around} {E : Value → Shared → Prop} {s : Shared} {Q : Value → Shared → Prop} {v : Value} {text : List Nat} {n : Int} (hn : s.heap.NoDigits)
    (hs : ¬ (text.takeWhile (· != 0)).length ≤ 640) (hr : (int_private% "readNumeral") 4300 10 (text.takeWhile (· != 0)) = (int_private% "Numeral.value") n)
    (ha : ((text.takeWhile (· != 0)).length == text.length) = true) (h : Q (.int n s.toks) { s with toks := s.toks + 1 }) :
    wpAny M A ((int_private% "intFromText") v text 10) Q E s := by
  obtain ⟨hp, g, d, tk, os⟩ := s
  have gone : wpAny M A Builtin.intMaxStrDigits (fun k s' => k = 4300 ∧ s' = ⟨hp, g, d, tk, os⟩) E ⟨hp, g, d, tk, os⟩ := lim_is hn ⟨rfl, rfl⟩
  repeat (any_goals (first
    | assumption
    | (with_reducible refine wpAny_ite_false (decide_eq_false hs) ?_)
    | (with_reducible refine wpAny_mono gone ?_ (fun _ _ z => z); rintro k s' ⟨rfl, rfl⟩)
    | (with_reducible refine wpAny_ite_true (decide_eq_true ha) ?_)
    | wp_step))
  all_goals (try rw [hr])
  all_goals (try dsimp only)
  repeat (any_goals (first
    | assumption
    | (with_reducible refine wpAny_ite_true (decide_eq_true ha) ?_)
    | wp_step))
/-- what int(text) asks of the text -/
structure Txt10 (x : PySem.Str) (n : Int) : Prop where
  whole : ((numSeenOf x).length == (numTextOf x).length) = true
  sh : (numSeenOf x).length ≤ 640 → (int_private% "readNumeral") 0 10 (numSeenOf x) = (int_private% "Numeral.value") n
  lo : ¬ (numSeenOf x).length ≤ 640 → (int_private% "readNumeral") 4300 10 (numSeenOf x) = (int_private% "Numeral.value") n
theorem txt10 {x : PySem.Str} {n : Int} (hl : x.length ≤ 4300) (hn : PySem.intText? x = some n) : Txt10 x n := by
  have fits : x.length ≤ sizeLine := Nat.le_trans hl (by decide)
  rcases read4300 x fits with ⟨m, h1, h2, h3⟩ | ⟨h1, _⟩
  · rw [hn] at h1
    obtain rfl := Option.some.inj h1
    refine ⟨h2, fun hs => ?_, fun _ => h3⟩
    rcases read0 x hs with ⟨m', k1, k2, k3⟩ | ⟨k1, _⟩
    · rw [hn] at k1
      obtain rfl := Option.some.inj k1
      exact k3
    · rw [hn] at k1
      cases k1
  · rw [hn] at h1
    cases h1
theorem text_any {M : Model} {A : Around} {E : Value → Shared → Prop} {s : Shared} {Q : Value → Shared → Prop} {v : Value} {x : PySem.Str} {n : Int} (hn : s.heap.NoDigits) (t : Txt10 x n)
    (h : Q (.int n s.toks) { s with toks := s.toks + 1 }) : wpAny M A ((int_private% "intFromText") v (numTextOf x) 10) Q E s := by
  by_cases hs : (numSeenOf x).length ≤ 640
  · exact PySem.W.KIN.wp_text hs (t.sh hs) t.whole h
  · exact text_long hn hs (t.lo hs) t.whole h
structure Hide (p : Prop) : Prop where
  out : p
theorem meets_text {x : PySem.Str} {u : Tok} {n : Int} (t : Txt10 x n) :
    Meets (Builtin.«int.__new__» ⟨[.type "int", .str x u], []⟩) (fun _ R s => s.heap.NoDigits ∧ R (.ok (.ret (.int n s.toks))) { s with toks := s.toks + 1 }) := by
  intro prog w A R s ⟨hn, h⟩
  obtain ⟨hp, g, d, tk, os⟩ := s
  have f1 := F.conv_sub_int
  have f2 := F.madeHere_int
  have f3 := PySem.W.KIN.str_int
  have f4 := PySem.W.KIN.str_idx
  have f5 := PySem.W.KIN.str_trunc
  have f6 : typeOf (.str x u) = pure (.type "str") := rfl
  have hk := Hide.mk (And.intro hn t)
  clear hn t
  repeat (any_goals (first
    | assumption
    | ((with_reducible show wpAny _ _ ((int_private% "intFromText") _ _ _) _ _ _); refine text_any hk.out.1 hk.out.2 ?_)
    | wp_step))
  all_goals first | exact h | skip
section
variable {X : Cx}
/-- int(text) of at most 4,300 signs -/
theorem call_intTxt (d : DigK X.K) : CallR X (.type "int") (fun xs H Q => ∃ a n, xs = [.str a] ∧ PySem.intText? a = some n ∧ a.length ≤ 4300 ∧ Q (.int n) H) := by
  intro pins s σ H xs us Q I r h
  obtain ⟨a, n, rfl, hn, hl, q⟩ := h
  obtain ⟨u, rfl, t, rfl⟩ := vals1 r
  refine call_int_1 (meets_text (txt10 hl hn)) ⟨no_digits I d, ?_⟩
  exact ⟨typeIs_int _ _ _, ⟨.int n, H, I.tok _, ⟨_, rfl⟩, q⟩⟩
end
end Lay

set_option Elab.async false
set_option linter.all false
set_option maxRecDepth 100000
set_option maxHeartbeats 4000000
/-! LayC: iterators end, tuples are taken apart, whether an exception is handled or not -/
namespace Lay
open PySem PySem.Spec PyProof.Rows L2 HotX
section
variable {prog : Program} {w : World} {A : Around} {E : Value → Shared → Prop} {s : Shared}
/-- nothing is handled, or an exception whose context is None -/
def Hand (A : Around) (h : Heap) : Prop := A.handled = none ∨ ∃ x1, HotAt A x1 h
theorem hot_up {x1 : Addr} {h h' : Heap} (a : HotAt A x1 h) (k : ∀ o vs, h.get? x1 = some o → o.data = .fields vs → vs[2]? = some .none → h'.get? x1 = some o) : HotAt A x1 h' := by
  obtain ⟨hh, o, vs, e1, e2, e3⟩ := a
  exact ⟨hh, o, vs, k o vs e1 e2 e3, e2, e3⟩
/-- a StopIteration is made and raised where one is handled -/
theorem stop_hot {α : Type} {x1 : Addr} {Q : α → Shared → Prop} (hot : HotAt A x1 s.heap)
    (hE : ∀ (a : Addr) (h' : Heap), (∀ b o, s.heap.get? b = some o → h'.get? b = some o) → (∃ o, h'.get? a = some o ∧ o.cls = .type "StopIteration") → E (.ref a) { s with heap := h' }) :
    wpAny (model prog w) A (newExc (.type "StopIteration") [] >>= fun e => (raiseNew e : Sem α)) Q E s := by
  refine wpAny_bind ?_
  simp only [newExc, newTuple]
  refine wpAny_bind (wpAny_newObj_type ?_ (by size_fits))
  refine wpAny_bind (m := firstArgMember _ _) (wpAny_of_eq (a := Value.none) (by first | rfl | (simp only [firstArgMember]; rfl)) ?_)
  refine wpAny_newObj_type ?_ (by size_fits)
  have up : ∀ (o1 o2 : Obj) b o, s.heap.get? b = some o → ((s.heap.push o1).push o2).get? b = some o := fun _ _ b o e => Heap.get?_push_of_some _ (Heap.get?_push_of_some _ e)
  obtain ⟨hh, o1, vs1, e1, e2, e3⟩ := hot
  refine raiseNew_hot ⟨hh, o1, vs1, up _ _ _ _ e1, e2, e3⟩ (Nat.ne_of_lt (Heap.lt_size (Heap.get?_push_of_some _ e1))) (Heap.get?_push_size _ rfl) rfl (by first | (simp; done) | (simp; omega) | (simp only [Array.size_append]; simp; omega)) ?_
  refine hE _ _ (fun b o e => ?_) ⟨_, Heap.get?_update_self _ (Heap.get?_push_size _ rfl) rfl, rfl⟩
  rw [Heap.get?_update_other _ _ (Nat.ne_of_gt (Heap.lt_size (Heap.get?_push_of_some _ e)))]
  exact up _ _ _ _ e
theorem list_end_hot {it l x1 : Addr} {i : Nat} {items} {Q : Option Value → Shared → Prop} (hot : HotAt A x1 s.heap) (hit : s.heap.IsListIter it l i) (hl : s.heap.IsList l items) (hx : items[i]? = none)
    (hQ : ∀ h', Heap.ExtBut it s.heap h' → Q none { s with heap := h' }) : wpAny (model prog w) A (pyNext (.ref it)) Q E s := by
  obtain ⟨o, ho, hc, hd⟩ := id hit
  obtain ⟨ol, hol, _, nl, hdl⟩ := hl
  have hne : x1 ≠ it := by
    rintro rfl
    obtain ⟨_, o1, vs1, e1, e2, e3⟩ := hot
    rw [ho] at e1
    obtain rfl := Option.some.inj e1
    rw [hd] at e2
    cases e2
    simp at e3
  unfold pyNext
  refine wpAny_bind (wpAny_attempt (wpAny_callSpecial?_slot (name := Str.ofString "__next__") hit.typeIs slot_listiter_next (wpAny_call_entry slot_listiter_next hit.typeIs entry_listiter_next ?_ (args_listiter_next _))))
  show wpAny _ _ (field (.ref it) 0 >>= _) _ _ s
  refine wpAny_bind (wpAny_field ho hd (x := .ref l) rfl ?_)
  show wpAny _ _ (ite _ _ _) _ _ s
  rw [if_neg (show ¬ ((Value.ref l == Value.none) = true) from Bool.false_ne_true)]
  show wpAny _ _ (field (.ref it) 1 >>= _) _ _ s
  refine wpAny_bind (wpAny_field ho hd (x := .int i 0) rfl ?_)
  show wpAny _ _ (seqItems? (.ref l) >>= _) _ _ s
  refine wpAny_bind (wpAny_seqItems hol hdl ?_)
  simp only [Int.toNat_natCast, hx]
  refine wpAny_bind (wpAny_rule (wpAny_bind (wpAny_setField ho hd (by simp) ?_)))
  refine stop_hot (x1 := x1) (hot_up hot fun o1 _ e _ _ => (Heap.get?_update_other _ _ (Ne.symm hne)).trans e) fun a h' k t => ?_
  refine wpAny_bind (wpAny_isInstance (T := "StopIteration") (b := true) t isSubtype_stop ?_)
  exact wpAny_pure (hQ _ fun b ob hb e => k b ob ((Heap.get?_update_other _ _ (Ne.symm hb)).trans e))
theorem tup_end_hot {it t x1 : Addr} {i : Nat} {items} {Q : Option Value → Shared → Prop} (hot : HotAt A x1 s.heap) (hit : IsTupIter s.heap it t i) (ht : IsTup s.heap t items) (hx : items[i]? = none)
    (hQ : ∀ h', Heap.ExtBut it s.heap h' → Q none { s with heap := h' }) : wpAny (model prog w) A (pyNext (.ref it)) Q E s := by
  obtain ⟨o, ho, hc, hd⟩ := id hit
  obtain ⟨ot, hot', _, nt, hdt⟩ := ht
  have hne : x1 ≠ it := by
    rintro rfl
    obtain ⟨_, o1, vs1, e1, e2, e3⟩ := hot
    rw [ho] at e1
    obtain rfl := Option.some.inj e1
    rw [hd] at e2
    cases e2
    simp at e3
  unfold pyNext
  refine wpAny_bind (wpAny_attempt (wpAny_callSpecial?_slot (name := Str.ofString "__next__") hit.typeIs slot_tupleiter_next (wpAny_call_entry slot_tupleiter_next hit.typeIs entry_tupleiter_next ?_ (args_tupleiter_next _))))
  show wpAny _ _ (field (.ref it) 0 >>= _) _ _ s
  refine wpAny_bind (wpAny_field ho hd (x := .ref t) rfl ?_)
  show wpAny _ _ (ite _ _ _) _ _ s
  rw [if_neg (show ¬ ((Value.ref t == Value.none) = true) from Bool.false_ne_true)]
  show wpAny _ _ (field (.ref it) 1 >>= _) _ _ s
  refine wpAny_bind (wpAny_field ho hd (x := .int i 0) rfl ?_)
  show wpAny _ _ (seqItems? (.ref t) >>= _) _ _ s
  refine wpAny_bind (wpAny_seqItems hot' hdt ?_)
  simp only [Int.toNat_natCast, hx]
  refine wpAny_bind (wpAny_rule (wpAny_bind (wpAny_setField ho hd (by simp) ?_)))
  refine stop_hot (x1 := x1) (hot_up hot fun o1 _ e _ _ => (Heap.get?_update_other _ _ (Ne.symm hne)).trans e) fun a h' k t => ?_
  refine wpAny_bind (wpAny_isInstance (T := "StopIteration") (b := true) t isSubtype_stop ?_)
  exact wpAny_pure (hQ _ fun b ob hb e => k b ob ((Heap.get?_update_other _ _ (Ne.symm hb)).trans e))
theorem list_end_any {it l : Addr} {i : Nat} {items} {Q : Option Value → Shared → Prop} (hand : Hand A s.heap) (hit : s.heap.IsListIter it l i) (hl : s.heap.IsList l items) (hx : items[i]? = none)
    (hQ : ∀ h', Heap.ExtBut it s.heap h' → Q none { s with heap := h' }) : wpAny (model prog w) A (pyNext (.ref it)) Q E s := by
  rcases hand with hh | ⟨x1, hot⟩
  · exact wpAny_pyNext_list_end hh hit hl hx hQ
  · exact list_end_hot hot hit hl hx hQ
theorem tup_end_any {it t : Addr} {i : Nat} {items} {Q : Option Value → Shared → Prop} (hand : Hand A s.heap) (hit : IsTupIter s.heap it t i) (ht : IsTup s.heap t items) (hx : items[i]? = none)
    (hQ : ∀ h', Heap.ExtBut it s.heap h' → Q none { s with heap := h' }) : wpAny (model prog w) A (pyNext (.ref it)) Q E s := by
  rcases hand with hh | ⟨x1, hot⟩
  · exact next_tuple_end hh hit ht hx hQ
  · exact tup_end_hot hot hit ht hx hQ
theorem hand_up {h h' : Heap} (a : Hand A h) (k : ∀ b o vs, h.get? b = some o → o.data = .fields vs → 3 ≤ vs.size → h'.get? b = some o) : Hand A h' := by
  rcases a with hh | ⟨x1, hot⟩
  · exact .inl hh
  · refine .inr ⟨x1, hot_up hot fun o vs e1 e2 e3 => k x1 o vs e1 e2 ?_⟩
    exact (Array.getElem?_eq_some_iff.mp e3).1
/-- a, b, .. = a tuple -/
theorem unpack_any {t : Addr} {items : Array Value} {Q : List Value → Shared → Prop} (hand : Hand A s.heap) (ht : IsTup s.heap t items)
    (hQ : ∀ h', Heap.ExtBut s.heap.objs.size s.heap h' → Q items.toList { s with heap := h' }) : wpAny (model prog w) A (unpackItems (.ref t) items.size none) Q E s := by
  have hlt : t ≠ s.heap.objs.size := by
    obtain ⟨o, ho, _⟩ := ht
    exact Nat.ne_of_lt (Heap.lt_size ho)
  unfold unpackItems
  refine wpAny_bind ?_
  unfold notIterableAtAll
  refine wpAny_bind (wpAny_specialOf ht.typeIs slot_tuple_iter.lookup (wpAny_pure ?_))
  simp only [Bool.false_eq_true, if_false]
  refine wpAny_bind (wpAny_holding (iter_tuple ht ?_))
  refine wpAny_bind (wpAny_holding (draw_tuple hlt items.size 0 _ _ ⟨_, Heap.get?_push_size _ rfl, rfl, rfl⟩ (ht.push _) (by omega) fun h₁ hit₁ hs₁ => ?_))
  have hall : List.take items.size (List.drop 0 items.toList) = items.toList := by
    rw [List.drop_zero]
    exact List.take_of_length_le (by simp)
  rw [hall, if_neg (by simp)]
  have ht₁ : IsTup h₁ t items := (ht.push _).extBut hs₁.extBut hlt
  have up : ∀ b o, s.heap.get? b = some o → h₁.get? b = some o := fun b o e => hs₁.extBut b o (Nat.ne_of_lt (Heap.lt_size e)) (Heap.get?_push_of_some _ e)
  refine wpAny_bind (wpAny_holding (tup_end_any (s := { s with heap := h₁ }) (hand_up hand fun b o _ e _ _ => up b o e) hit₁ ht₁ (by simp) fun h₂ he₂ => ?_))
  simp only [Option.isSome_none, Bool.false_eq_true, if_false]
  exact wpAny_pure (hQ h₂ fun b o hb e => he₂ b o hb (up b o e))
end
/-- the context's own word for it -/
def HandX (X : Cx) : Prop := ∀ (pins : List (Addr × Obj)) (σ : L2.St) (H : Hp) (s : Shared), Inv X pins σ H s → Hand X.A s.heap
theorem handX_calm {X : Cx} (hc : X.calm = true) : HandX X := fun _ _ _ _ I => .inl (I.ok.hd hc)
theorem handX_hot {X : Cx} (hc : L2H.HotC X) : HandX X := fun _ _ _ _ I => .inr (hc.at I)
section
variable {X : Cx} {pos : Pos}
theorem pg_tupH {es : List Expr} {k : Nat} {t : TGs} {n : Nat} (hc : HandX X) (h : PGs X es t)
    (hn : (assignEach es X.env).length = n := by rfl) (hst : (assignEach es X.env).findIdx? (·.1) = none := by rfl) : PG X (.Tuple es k pos) (gTup X.K n t) := by
  constructor
  intro pins s σ H v u Q I r hw
  obtain ⟨a, xs, rfl, hq, hl, hw⟩ := hw
  cases r
  obtain ⟨its, rv, ht, hz⟩ := I.tuple hq
  have hlen : (assignEach es X.env).length = its.toArray.size := by simp [hn, ← hl, rv.length]
  rw [assign_Tuple]
  refine wpAny_bind (wpAny_standAt ?_)
  unfold unpack
  rw [hlen, hst]
  refine wpAny_bind (wpAny_holding (unpack_any (hc _ _ _ _ I) ht fun h' hx => ?_))
  have I1 : Inv X pins σ H { s with heap := h' } := I.kept (t' := s.toks) fun b o e => hx b o (Nat.ne_of_lt (Heap.lt_size e)) e
  exact h.run pins _ σ H xs _ Q I1 (by simpa using rv) hw
end
end Lay

set_option Elab.async false
set_option linter.all false
set_option maxRecDepth 100000
set_option maxHeartbeats 4000000
/-! LayD: a list comprehension whose turns leave the heap alone, also where an exception is handled -/
namespace Lay
open PySem PySem.Spec PyProof.Rows L2 HotX
/-- calm, or one known exception is handled -/
def Warm (X : Cx) : Prop := X.calm = true ∨ L2H.HotC X
theorem Warm.hand {X : Cx} (w : Warm X) : HandX X := w.elim handX_calm handX_hot
/-- the block's context that keeps the pinned exception in sight -/
abbrev blkP (X : Cx) (s : Shared) (H : Hp) (scope : Scope) (cenv : Env) (fp : List Addr) : Cx := (X.blk s H scope cenv fp).tr X.pn (fun _ _ => False)
theorem Warm.blk {X : Cx} (w : Warm X) {s : Shared} {H : Hp} {scope : Scope} {cenv : Env} {fp : List Addr} : Warm (blkP X s H scope cenv fp) := w
def tLcW (K : PySem.W.Frag) (tl : TE) (g : TG) (tt : TT) (te : TE) (vs : List Nat) : TE := fun σ H Q => tl σ H fun x H1 => ∃ a xs, ∃ f : V → Option V, x = .ref a ∧ SqL K H1 a xs ∧
  (∀ D acc y, H1 D = none → y ∈ xs → g y (wipe σ vs) (upd H1 D (.lst acc)) fun σ2 H2 => H2 = upd H1 D (.lst acc) ∧ wipe σ2 vs = wipe σ vs ∧ tt σ2 H2 fun b H3 => H3 = H2 ∧
    match f y with
    | none => b = false
    | some z => b = true ∧ te σ2 H2 fun z' H4 => H4 = H2 ∧ z' = z) ∧
  ∀ D, H1 D = none → Q (.ref D) (upd H1 D (.lst (xs.filterMap f)))
section
variable {X : Cx}
theorem pe_lcW {elt tg l : Expr} {ifs : List Expr} {scope : Scope} {own : List (Str × Nat)} {pos : Pos} {tl : TE} {g : TG} {tt : TT} {te : TE} (hw : Warm X) (hN : X.N.Nodup) (hl : PE X l tl) (ok : BlkOk X.N X.env.scope scope own)
    (hg : ∀ s H C cl fp, PG (blkP X s H scope (compEnvC scope cl C X.env) fp) tg g) (ht : ∀ s H C cl fp, PTs (blkP X s H scope (compEnvC scope cl C X.env) fp) ifs tt)
    (he : ∀ s H C cl fp, PE (blkP X s H scope (compEnvC scope cl C X.env) fp) elt te) (hs : ∀ x, foldedSetIterable l X.env x = pure x := by intro _; rfl) :
    PE X (.ListComp elt [⟨tg, l, ifs, 0⟩] scope pos) (tLcW X.K tl g tt te (own.map (·.2))) := by
  refine ⟨fun pins s σ H Q I h => ?_⟩
  rw [eval_ListComp]
  have caught : ∀ y ∈ scope.names, y.2 = .free → ∃ c, X.env.cells.lookup y.1 = some c := fun y hy e => I.ok.has _ ((ok.free y hy e).imp id id)
  refine wpAny_comprehension_free (use := none) rfl hs (closure_ok caught) ok.kind (fun y hy e => by rw [ok.uniq y hy, e]) (thn (hl.run pins s σ H _ I h) ?_)
  rintro u s1 ⟨x, H1, I1, r1, a, xs, f, rfl, sq, step, fin⟩
  cases r1
  obtain ⟨its, rv, isl, hz⟩ := I1.list sq
  refine wpAny_pyIter_list isl.isList ?_
  generalize hit : s1.heap.objs.size = it
  generalize e2 : ({ heap := s1.heap.push { cls := Value.type "list_iterator", data := Data.fields #[Value.ref a, Value.int 0 0] }, gens := s1.gens, drawn := s1.drawn, toks := s1.toks, os := s1.os } : Shared) = s2
  have w2 : s2.heap = s1.heap.push { cls := Value.type "list_iterator", data := Data.fields #[Value.ref a, Value.int 0 0] } := by rw [← e2]
  have keep12 : ∀ b o, s1.heap.get? b = some o → s2.heap.get? b = some o := fun b o e => by rw [w2]; exact Heap.get?_push_of_some _ e
  have I2 : L2.Inv X pins σ H1 s2 := e2 ▸ I1.kept (t' := s1.toks) fun b o e => Heap.get?_push_of_some _ e
  have li2 : s2.heap.IsListIter it a 0 := ⟨_, by rw [w2, ← hit]; exact Heap.get?_push_size _ rfl, rfl, rfl⟩
  refine wpAny_newObj_type (newEnv_comp ?_) (by show 0 ≤ sizeLine; decide)
  generalize hD : s2.heap.objs.size = D
  have noD : H1 D = none := I2.hok.fresh (Nat.le_of_eq hD)
  have itD : it ≠ D := by
    obtain ⟨o, e, _⟩ := li2
    rw [← hD]
    exact Nat.ne_of_lt (Heap.lt_size e)
  generalize e3 : ({ s2 with heap := s2.heap.push { cls := .type "list", data := .seq ([] : List Value).toArray } } : Shared) = s3
  have w3 : s3.heap = s2.heap.push { cls := .type "list", data := .seq ([] : List Value).toArray } := by rw [← e3]
  have keep23 : ∀ b o, s2.heap.get? b = some o → s3.heap.get? b = some o := fun b o e => by rw [w3]; exact Heap.get?_push_of_some _ e
  have I3 : L2.Inv X pins σ (upd H1 D (.lst [])) s3 := by
    have newL : ObjOk X.prog X.w (upd H1 D (.lst [])) (s2.heap.push { cls := .type "list", data := .seq ([] : List Value).toArray }) D (.lst []) := ⟨Nat.zero_le _, [], 0, .nil, by rw [← hD]; exact Heap.get?_push_size _ rfl⟩
    exact e3 ▸ I2.laid (t' := s2.toks) (fun b o e => Heap.get?_push_of_some _ e) (Nat.le_of_eq hD) newL
  have li3 : s3.heap.IsListIter it a 0 := li2.at fun o e => keep23 it o e
  have fresh_it : ∀ {H' : Hp}, H' it = none → FpOk X pins H' it := fun n => I1.fpOk (Nat.le_of_eq hit) n
  have nit : H1 it = none := I1.hok.fresh (Nat.le_of_eq hit)
  have B := block_start (fp := [it]) I3 ok hN (fun b hb => by
    obtain rfl : b = it := by simpa using hb
    obtain ⟨o, e, _⟩ := li3
    exact ⟨fresh_it (by rw [upd_ne itD]; exact nit), Heap.lt_size e⟩)
  have pg := hg s3 (upd H1 D (.lst [])) s3.heap.objs.size (cellsFrom (s3.heap.objs.size + 1) scope.names (cloFrom X.env.cells scope.names [])) [it]
  have pt := ht s3 (upd H1 D (.lst [])) s3.heap.objs.size (cellsFrom (s3.heap.objs.size + 1) scope.names (cloFrom X.env.cells scope.names [])) [it]
  have pe := he s3 (upd H1 D (.lst [])) s3.heap.objs.size (cellsFrom (s3.heap.objs.size + 1) scope.names (cloFrom X.env.cells scope.names [])) [it]
  show codeAny _ _ (.compStart (.ListComp elt [⟨tg, l, ifs, 0⟩] scope pos) 0 (.ref it) (.ref D) (compEnvC scope (cellsFrom (s3.heap.objs.size + 1) scope.names (cloFrom X.env.cells scope.names [])) s3.heap.objs.size X.env))
    (compPost (model X.prog X.w) X.A X.xe none (EP X pins σ Q) (.ref D) s3.heap.objs.size) { s3 with heap := pushCells (s3.heap.push { cls := .type "dict", data := .dict #[] }) scope.names }
  generalize hce : compEnvC scope (cellsFrom (s3.heap.objs.size + 1) scope.names (cloFrom X.env.cells scope.names [])) s3.heap.objs.size X.env = ce at B pg pt pe ⊢
  have ceL : ce.locals = s3.heap.objs.size := by rw [← hce]; rfl
  generalize e4 : ({ s3 with heap := pushCells (s3.heap.push { cls := .type "dict", data := .dict #[] }) scope.names } : Shared) = s4 at B ⊢
  have keep34 : ∀ b o, s3.heap.get? b = some o → s4.heap.get? b = some o := fun b o e => by rw [← e4]; exact pushCells_keeps _ _ _ _ (Heap.get?_push_of_some _ e)
  have li4 : s4.heap.IsListIter it a 0 := li3.at fun o e => keep34 it o e
  have J4 : L2.Inv (blkP X s3 (upd H1 D (.lst [])) scope ce [it]) [] (wipe σ (own.map (·.2))) (upd H1 D (.lst [])) s4 := by
    refine ⟨B.ok.toTry _ _, B.os, B.bare, B.base, B.loc, B.cell, B.free, B.freeC, fun p hp => ?_, B.hok, B.len⟩
    have hp' : p ∈ X.pn := by simpa using hp
    obtain ⟨p1, p2, p3, p4, p5⟩ := I3.pin p (List.mem_append_left _ hp')
    refine ⟨keep34 _ _ p1, p2, ?_, fun z => ?_, p5⟩
    · show p.1 ≠ ce.locals
      rw [ceL]
      exact Nat.ne_of_lt (Heap.lt_size p1)
    · rcases List.mem_cons.mp (I3.stkSub _ z) with z | z
      · exact p3 z
      · exact p4 z
  have sqD : ∀ acc, SqL X.K (upd H1 D (.lst acc)) a xs := fun acc => SqL.ext sq (Ext.upd noD)
  -- the loop
  have loop : codeAny (model X.prog X.w) X.A (.compLoop (.ListComp elt [⟨tg, l, ifs, 0⟩] scope pos) 0 (.ref it) (.ref D) ce) (compPost (model X.prog X.w) X.A X.xe none (EP X pins σ Q) (.ref D) s3.heap.objs.size) s4 := by
    refine compLoop_any (fun n s' => ∃ i, i ≤ xs.length ∧ n = xs.length - i ∧ L2.Inv (blkP X s3 (upd H1 D (.lst [])) scope ce [it]) [] (wipe σ (own.map (·.2))) (upd H1 D (.lst ((xs.take i).filterMap f))) s' ∧ s'.heap.IsListIter it a i) ?_ xs.length
      ⟨0, Nat.zero_le _, rfl, by rw [List.take_zero]; exact J4, li4⟩
    rintro n s5 ⟨i, hi, rfl, I5, li5⟩
    obtain ⟨its5, rv5, isl5, hz5⟩ := I5.list (sqD ((xs.take i).filterMap f))
    have len5 := rv5.length
    have fine : ∀ {s' : Shared} {H' : Hp} {σ' : L2.St}, L2.Inv (blkP X s3 (upd H1 D (.lst [])) scope ce [it]) [] σ' H' s' → H' it = none → FpOk (blkP X s3 (upd H1 D (.lst [])) scope ce [it]) [] H' it := fun I' n' => by
      refine ⟨n', (I'.ok.exf it (List.mem_singleton.mpr rfl)).1, I'.ok.exfs it (List.mem_singleton.mpr rfl), .inl (List.mem_singleton.mpr rfl), fun x c e => (I'.ok.exf it (List.mem_singleton.mpr rfl)).2 x c e, fun p hp z => ?_⟩
      have hp' : p ∈ X.pn := by simpa using hp
      have q := (I1.pin p (List.mem_append_left _ hp')).1
      rw [z, ← hit] at q
      exact absurd (Heap.lt_size q) (Nat.lt_irrefl _)
    have n5 : ∀ acc, upd H1 D (.lst acc) it = none := fun acc => by rw [upd_ne itD]; exact nit
    obtain ⟨f0, f1, f2, f3, f4, f5⟩ := fine I5 (n5 _)
    by_cases hlt : i < xs.length
    · have hx : xs[i]? = some xs[i] := List.getElem?_eq_getElem hlt
      obtain ⟨u, hu, ru⟩ := rv5.get hx
      refine thnF (wpAny_pyNext_list_item (Q := fun r s' => r = some u ∧ ∃ h', s' = { s5 with heap := h' } ∧ h'.IsListIter it a (i + 1) ∧ Heap.SameBut it s5.heap h') li5 isl5.isList (x := u) (by simpa using hu) fun h' st' sb => ⟨rfl, h', rfl, st', sb⟩) ?_
      rintro r s6 ⟨rfl, h', rfl, st', sb⟩
      have I6 : L2.Inv (blkP X s3 (upd H1 D (.lst [])) scope ce [it]) [] (wipe σ (own.map (·.2))) (upd H1 D (.lst ((xs.take i).filterMap f))) { s5 with heap := h' } := I5.turned (t' := s5.toks) (fun b o hb e => (sb.2 b hb).trans e) f0 f1 f3 f4 f5
      obtain ⟨oi, ei, ci, di⟩ := id st'
      refine thnF (go_of (Q := fun _ s' => s' = { s5 with heap := h' }) (s := { s5 with heap := h' }) ei ci di (by decide) rfl) ?_
      rintro _ s7 rfl
      have I7 := I6.pinned (fp := [it]) (fun b hb => by obtain rfl : b = it := by simpa using hb
                                                        exact fine I6 (n5 _)) (fun b hb => by obtain rfl : b = it := by simpa using hb
                                                                                              exact ⟨oi, ei, fun v z => by rw [di] at z; cases z⟩)
      refine thnF (pg.run _ _ _ _ xs[i] u _ I7 ru (step D _ xs[i] noD (List.getElem_mem hlt))) ?_
      rintro _ s8 ⟨σ8, H8, I8, rfl, w8, q8⟩
      refine thnF (pt.run _ s8 σ8 _ _ I8 q8) ?_
      rintro b s9 ⟨H9, I9, rfl, q9⟩
      -- the end of a turn
      have next : ∀ {s' : Shared}, L2.Inv (blkP X s3 (upd H1 D (.lst [])) scope ce [it]) ([] ++ pinsAt [it] h') σ8 (upd H1 D (.lst ((xs.take (i + 1)).filterMap f))) s' →
          ∃ m, m < xs.length - i ∧ ∃ i', i' ≤ xs.length ∧ m = xs.length - i' ∧ L2.Inv (blkP X s3 (upd H1 D (.lst [])) scope ce [it]) [] (wipe σ (own.map (·.2))) (upd H1 D (.lst ((xs.take i').filterMap f))) s' ∧ s'.heap.IsListIter it a i' := fun {s'} I' => by
        have q := (I'.pin (it, oi) (List.mem_append_right _ (List.mem_append_right _ (mem_pinsAt (by simp) ei)))).1
        refine ⟨xs.length - (i + 1), by omega, i + 1, hlt, rfl, (I'.unpinned (pins := [])).weak (by rw [← w8, wipe_length]) fun j v e => ?_, ⟨oi, q, ci, di⟩⟩
        rw [← w8] at e
        exact (wipe_some e).1
      have tk : (xs.take (i + 1)).filterMap f = (xs.take i).filterMap f ++ [xs[i]].filterMap f := by rw [List.take_succ_eq_append_getElem hlt, List.filterMap_append]
      have few : ((xs.take i).filterMap f).length < sizeLine := by
        have a1 := List.length_filterMap_le f (xs.take i)
        rw [List.length_take] at a1
        omega
      cases hf : f xs[i] with
      | none =>
        rw [hf] at q9
        obtain rfl : b = false := q9
        have e : (xs.take (i + 1)).filterMap f = (xs.take i).filterMap f := by rw [tk]; simp [hf]
        rw [if_neg Bool.false_ne_true]
        exact next (e ▸ I9)
      | some z =>
        rw [hf] at q9
        obtain ⟨rfl, q9⟩ := q9
        have e : (xs.take (i + 1)).filterMap f = (xs.take i).filterMap f ++ [z] := by rw [tk]; simp [hf]
        rw [if_pos rfl]
        refine thnF (pe.run _ s9 σ8 _ _ I9 q9) ?_
        rintro v s10 ⟨z', H10, I10, r10, rfl, rfl⟩
        refine app_ok (X := blkP X s3 (upd H1 D (.lst [])) scope ce [it]) I10 upd_same few r10 fun s11 I11 => next ?_
        rw [upd_upd] at I11
        rw [e]
        exact I11
    · have last : i = xs.length := by omega
      subst last
      have hand := (hw.blk (X := X) (s := s3) (H := upd H1 D (.lst [])) (scope := scope) (cenv := ce) (fp := [it])).hand _ _ _ _ I5
      refine thnF (list_end_any (Q := fun r s' => r = none ∧ ∃ h', s' = { s5 with heap := h' } ∧ Heap.ExtBut it s5.heap h') hand li5 isl5.isList (by simp; omega) fun h' eb => ⟨rfl, h', rfl, eb⟩) ?_
      rintro r s6 ⟨rfl, h', rfl, eb⟩
      have I6 : L2.Inv (blkP X s3 (upd H1 D (.lst [])) scope ce [it]) [] (wipe σ (own.map (·.2))) (upd H1 D (.lst ((xs.take xs.length).filterMap f))) { s5 with heap := h' } := I5.turned (t' := s5.toks) (fun b o hb e => eb b o hb e) f0 f1 f3 f4 f5
      rw [List.take_length] at I6
      have back : L2.Inv X pins σ (upd H1 D (.lst (xs.filterMap f))) { s5 with heap := h' } := I3.call' (ch := [it]) I6.os I6.base I6.hok I6.bare fun b hb => by
        obtain rfl : b = it := by simpa using hb
        have g := fresh_it (H' := upd H1 D (.lst [])) (n5 _)
        exact ⟨g.2.2.2.1, g.2.1, g.2.2.2.2.1, g.2.2.2.2.2⟩
      have nC : upd H1 D (.lst (xs.filterMap f)) s3.heap.objs.size = none := ceL ▸ I6.free
      obtain ⟨m, hn, _⟩ := I6.loc
      have hn : Heap.Ns h' s3.heap.objs.size m := ceL ▸ hn
      refine ⟨m, hn, fun h'' sb => ?_⟩
      obtain ⟨g0, g1, g2, g3, g4, g5⟩ := I3.fpOk (Nat.le_refl _) nC
      exact ⟨.ref D, _, back.turned (t' := s5.toks) (fun b o hb e => (sb.2 b hb).trans e) g0 g1 g3 g4 g5, rfl, fin D noD⟩
  exact codeAny_compStart_list loop (wpAny_pyIter_listiter li4 loop)
end
end Lay

set_option Elab.async false
set_option linter.all false
set_option maxRecDepth 100000
set_option maxHeartbeats 4000000
/-! LayE: defs that are handed the exception which is being handled -/
namespace Lay
open PySem PySem.Spec PyProof.Rows L2 HotX L2H
/-- what a def promises where p is handled; the promise may name p -/
structure FnE (P : Program) (w : World) (K : PySem.W.Frag) (mg : Str → Option Value) (base : Heap) (CX : CXT) (k : Nat) (f : Addr) (fd : FuncData) (ps : List Str) (sp : Addr × Obj → Sp) : Prop where
  many : ∀ p vs H Q E, sp p vs H Q E → vs.length = ps.length
  runs : ∀ (p : Addr × Obj) (A : Around) (outer : List Env) (s : Shared) (H : Hp) (args : Args) (us : List Value) (vs : List V) (Q : VK) (E : XK), RoomH k A ∧ Hot1 A p ∧ PinOk outer H s p → Env0 P w K mg base A outer s H → BindsTo s fd args (ps.zip us) → Vals vs us →
    sp p vs H Q E → codeAny (model P w) A (.call (.ref f) args) (CR CX outer P w H s Q E) s
theorem fn_ofE {CX : CXT} {P : Program} {w : World} {K : PySem.W.Frag} {mg : Str → Option Value} {base : Heap} {k : Nat} {f : Addr} {name qual : Str} {params : Arguments} {body : List Stmt} {scope : Scope} {dV kV doc pm cdv ct oc : Value} {an od : Option Addr}
    {osl : Array (Option Value)} {N ps : List Str} {sp : Addr × Obj → Sp} (lk : K.lookup f = some ⟨oc, od, .func (PySem.W.fnOf name qual params body scope dV kV doc pm an cdv ct), osl⟩) (cd : PySem.W.codeIn K cdv qual = true) (S : FnScope N ps scope)
    (many : ∀ p vs H Q E, sp p vs H Q E → vs.length = ps.length)
    (inside : ∀ (p : Addr × Obj) (A : Around) (outer : List Env) (s : Shared) (H : Hp) (vs : List V) (Q : VK) (E : XK), Hot1 A p → RoomH k (A.deeper (envOfC qual scope s.heap.objs.size f cdv)) → sp p vs H Q E →
      ∃ t, PSs (cxH CX P w K mg base N qual scope f cdv A outer s H E p) body t ∧ t { nx := fun _ H' => Q .non H', rt := Q } (L2.start N vs) H) :
    FnE P w K mg base CX (k + 1) f (PySem.W.fnOf name qual params body scope dV kV doc pm an cdv ct) ps sp := by
  constructor
  · exact many
  · rintro p A outer s H args us vs Q E ⟨room, hot, pin⟩ env0 binds rel prom
    have number := many _ _ _ _ _ prom
    have kept : K.In s.heap := env0.mod.kin.keeps fun b o z => (env0.bs b o z).1
    have unlim : s.heap.NoLimit := env0.mod.nolimit.keeps fun b o z => (env0.bs b o z).1
    have kinds : ∀ y ∈ ps.zip us, scope.names.lookup y.1 = some .local ∨ (scope.names.lookup y.1 = some .cell ∧ ((cellsFrom (s.heap.objs.size + 1) scope.names []).lookup y.1).isSome = true) := by
      rintro ⟨n, v⟩ hy
      exact (S.par n (List.of_mem_zip hy).1).imp id fun q => ⟨q, PySem.W.cellsFrom_some _ _ _ (.inl q)⟩
    refine codeAny_call_function room.depth (kept _ _ lk) rfl S.co S.gen rfl (PySem.W.codeRec_of kept cd) (binds _ _ _ _ (wpAny_newFunctionEnv_cells S.kind kinds ?_))
    rintro env rfl s1 into
    refine ⟨unlim.keeps into.toInCall.keep, codeAny_func ?_⟩
    obtain ⟨t, walk, post⟩ := inside p A outer s H vs Q E hot (room.deeper _) prom
    refine wpAny_mono (walk.run [] s1 (L2.start N vs) H _ (inv_startH S pin env0 number rel into) post) ?_ fun _ _ z => z
    rintro (_ | _ | _ | u) s' out
    all_goals first
      | (obtain ⟨σ', H', J, q⟩ := out; exact ⟨V.non, H', J.os, J.bare, J.base, J.hok, (rfl : Value.none = Value.none), q⟩)
      | (obtain ⟨_, _, _, q⟩ := out; exact q.elim)
      | (obtain ⟨v, σ', H', J, rv, q⟩ := out; exact ⟨v, H', J.os, J.bare, J.base, J.hok, rv, q⟩)
/-- X handles p -/
structure HasP (X : Cx) (p : Addr × Obj) : Prop where
  hot : Hot1 X.A p
  mem : p ∈ X.pn
theorem HasP.warm {X : Cx} {p : Addr × Obj} (h : HasP X p) : Warm X := .inr ⟨p, h.hot, h.mem⟩
theorem HasP.hotC {X : Cx} {p : Addr × Obj} (h : HasP X p) : L2H.HotC X := ⟨p, h.hot, h.mem⟩
section
variable {X : Cx} {CX : CXT} {k : Nat} {f : Addr} {fd : FuncData} {ps : List Str} {sp : Addr × Obj → Sp} {E : L2.St → XK} {x : Str} {q pos : Pos} {e : Expr} {es : List Expr} {t : TA} {p : Addr × Obj}
theorem pe_callE (F : FnE X.prog X.w X.K X.mg X.base CX k f fd ps sp) (room : RoomH k X.A) (hp : HasP X p) (hg : Gl X x) (hm : X.mg x = some (.ref f)) (hk : PySem.W.keepIn X.K (.ref f) = true) (hb : Binds X.K fd ps []) (hx : ∀ σ, PassesAt CX X σ (E σ))
    (ha : PA X (e :: es) t) (hdb : (x == ("__debug__" : Str)) = false := by decide) (he : starEach (e :: es) X.env = (false, eval e X.env) :: starEach es X.env := by rfl) (hpl : (backTo pos (starEach es X.env)).any (·.1) = false := by rfl) :
    PE X (.Call (.Name x q) (e :: es) [] pos) (tCallS (sp p) E t) := by
  constructor
  intro pins s σ H Q I h
  refine wpAny_Call_Name_kw (ld_glob I hg hm ?_ hdb)
  refine PySem.W.callWith_K (h₀ := X.base) I.ok.mod.kin hk (thn (ha.run pos pins s σ H _ I h) ?_) he hpl
  rintro us s1 ⟨vs, H1, I1, r, prom⟩
  refine ⟨I1.kIn, ?_⟩
  have number : us.length = ps.length := r.length.symm.trans (F.many _ _ _ _ _ prom)
  have bound := hb s1 us I1.kIn (by rw [List.append_nil]; exact number)
  rw [List.append_nil] at bound
  obtain ⟨g1, g2, g3, g4, g5⟩ := I1.pin p (List.mem_append_left _ hp.mem)
  have pin : PinOk X.stack H1 s1 p := ⟨g1, g2, fun z => (List.mem_cons.mp (I1.stkSub p.1 z)).elim g3 g4, g5⟩
  refine wpAny_call (codeAny_mono (F.runs p X.A X.stack s1 H1 ⟨us, []⟩ us vs Q (E σ) ⟨room, hp.hot, pin⟩ I1.env0 bound r prom) ?_)
  rintro (er | _ | _ | _ | u) s' out
  all_goals first
    | exact hx σ pins H1 s1 _ s' I1 out
    | exact I1.after out
    | exact False.elim out
/-- the exception's dict stands, if it has one -/
def DictP (H : Hp) (o : Obj) : Prop := o.dict = none ∨ ∃ (dd : Addr) (fs : List (Str × V)), o.dict = some dd ∧ H dd = some (.xd fs)
theorem inst_p {pins : List (Addr × Obj)} {σ : L2.St} {H : Hp} {s : Shared} {D : Addr} (I : L2.Inv X pins σ H s) (hp : p ∈ X.pn) (hc : p.2.cls = .ref D) (hf : ∃ vs, p.2.data = .fields vs) (hd : DictP H p.2) : ∃ od, PySem.W.InstAt s.heap p.1 p.2 D od := by
  obtain ⟨here, _⟩ := I.pin p (List.mem_append_left _ hp)
  obtain ⟨a, oc, od, oda, osl⟩ := p
  obtain ⟨vs, hv⟩ := hf
  dsimp only at hc hv here ⊢
  subst hc hv
  rcases hd with z | ⟨dd, fs, z, t⟩
  · dsimp only at z
    subst z
    exact ⟨none, here, rfl, rfl, trivial⟩
  · dsimp only at z
    subst z
    obtain ⟨mA, ns, _⟩ := (show ObjOk X.prog X.w H s.heap dd (.xd fs) from I.hok dd _ t)
    obtain ⟨o2, h2, _⟩ := lookIn_ns ns
    exact ⟨some o2, here, rfl, rfl, h2⟩
/-- isinstance(e, c), e an exception that stands pinned -/
def rIsP (K : PySem.W.Frag) (D : Addr) (p : Addr × Obj) : List V → Hp → VK → Prop := fun xs H Q => ∃ (c : V) (cv : Value) (b : Bool), xs = [.ref p.1, c] ∧ (∀ u, RelV c u → u = cv) ∧ PySem.W.kitOne K (.ref D) cv = some b ∧ DictP H p.2 ∧ Q (.bl b) H
theorem call_isP {D : Addr} (hp : p ∈ X.pn) (C : ExcC X.K D) (hc : p.2.cls = .ref D) (hf : ∃ vs, p.2.data = .fields vs) : CallR X (.builtin "isinstance") (rIsP X.K D p) := by
  intro pins s σ H xs us Q I r h
  obtain ⟨c, cv, b, rfl, hcv, e, dp, q⟩ := h
  cases r with
  | cons rx rr =>
    cases rr with
    | cons rt rr =>
      cases rr
      cases rx
      obtain rfl := hcv _ rt
      have cl : (PySem.W.clsIn X.K D).isSome = true := by
        obtain ⟨cd, hcd, _⟩ := PySem.W.any_some C.hd
        rw [hcd]; rfl
      obtain ⟨od', J⟩ := inst_p I hp hc hf dp
      exact PySem.W.kia_one (PySem.W.kitx_exc cl C.hg C.hk C.hs C.ha C.hn C.ht C.hm) I.kIn J e (fun z => nomatch z) fun tk => ⟨.bl b, H, I.kept (t' := tk) fun _ _ z => z, rfl, q⟩
/-- e.f -/
def tXp (C : Addr) (p : Addr × Obj) (f : Str) (te : TE) : TE := fun σ H Q => te σ H fun x H1 => x = .ref p.1 ∧ p.2.cls = .ref C ∧ ∃ (dd : Addr) (fs : List (Str × V)) (v : V), p.2.dict = some dd ∧ H1 dd = some (.xd fs) ∧ fs.lookup f = some v ∧ Q v H1
theorem pe_xp {C : Addr} {te : TE} {n : Str} (hp : p ∈ X.pn) (T : XfC X.K C) (hno : PySem.W.findIn X.K (.ref C) n = some none) (hf : ∃ vs, p.2.data = .fields vs) (he : PE X e te) (hb : attributeBase e n X.env (eval e X.env) = eval e X.env := by rfl) :
    PE X (.Attribute e n pos) (tXp C p n te) := by
  constructor
  intro pins s σ H Q I h
  refine attr_of hb (thn (he.run pins s σ H _ I h) ?_)
  rintro u s1 ⟨x, H1, I1, rx, rfl, hc, dd, fs, v, ed, ea, look, q⟩
  obtain rfl : u = Value.ref p.1 := rx
  obtain ⟨here, _⟩ := I1.pin p (List.mem_append_left _ hp)
  obtain ⟨a, oc, od, oda, osl⟩ := p
  obtain ⟨vs, hv⟩ := hf
  dsimp only at hc hv here ed ⊢
  subst hc hv ed
  obtain ⟨mA, ns, rel⟩ := (show ObjOk X.prog X.w H1 s1.heap dd (.xd fs) from I1.hok dd _ ea)
  obtain ⟨o2, h2, hl⟩ := lookIn_ns ns
  obtain ⟨u, hu, ru⟩ := RelO.some_of (v := v) (o := mA n) (by rw [← look]; exact rel n)
  exact HandSPX.exc_get I1.kIn ⟨here, rfl, rfl, h2⟩ T.ga T.gg T.exC (PySem.W.findObj_own T.hdC hno rfl (by rw [hl, hu])) (handed_of ru) ⟨v, H1, I1.tok _, ru, q⟩
end
end Lay

set_option Elab.async false
set_option linter.all false
set_option maxRecDepth 100000
set_option maxHeartbeats 4000000
/-! LayF: try with many clauses, each of them with the same name behind as -/
namespace Lay
open PySem PySem.Spec PyProof.Rows L2 HotX L2H
/-- a clause's test answers m of the exception's class -/
def Tst (X : Cx) (test : Expr) (m : Value → Option Bool) : Prop :=
  ∀ (p : Addr × Obj) (pn pins : List (Addr × Obj)) (σ : L2.St) (H : Hp) (s : Shared) (b : Bool) (Q : Bool → Shared → Prop) (E : Value → Shared → Prop), L2.Inv (X.suite p.1 (p :: pn)) pins σ H s → m p.2.cls = some b →
    (∀ h' tk', (∀ c o, s.heap.get? c = some o → h'.get? c = some o) → Q b { s with heap := h', toks := tk' }) →
    wpAny (model X.prog X.w) (X.A.mark (some (.ref p.1))) (eval test X.env) (fun c s1 => wpAny (model X.prog X.w) (X.A.mark (some (.ref p.1))) (excMatches (.ref p.1) c) Q E s1) E s
theorem tst_name {X : Cx} {x : Str} {c : Value} {np : Pos} (hc : Names X x c) : Tst X (.Name x np) (fun cls => PySem.W.exmOne X.K cls c) := by
  intro p pn pins σ H s b Q E I hm h
  have at_p := (I.pin p (List.mem_append_left _ List.mem_cons_self)).1
  have ty : PySem.W.Looks (model X.prog X.w) s.heap (typeOf (.ref p.1)) p.2.cls := fun A Q E s k q => wpAny_typeOf_ref (k _ _ at_p) q
  have ans := PySem.W.exm_one (M := model X.prog X.w) I.kIn ty hm
  have go : wpAny (model X.prog X.w) (X.A.mark (some (.ref p.1))) (excMatches (.ref p.1) c) Q E s := ans.here (h s.heap s.toks fun _ _ z => z)
  obtain ⟨hg, hdbg, hm | ⟨hm, hv, hnn⟩⟩ := hc
  · exact ld_glob (X := X.suite p.1 (p :: pn)) I hg hm go hdbg
  · exact ld_blt (X := X.suite p.1 (p :: pn)) I hg hm hv go hnn hdbg
/-- the ends of a suite whose name goes -/
def goneD (i : Nat) (D : Ends) : Ends := { nx := fun σ H => D.nx (σ.set i none) H, rt := D.rt, bk := fun σ H => D.bk (σ.set i none) H, ct := fun σ H => D.ct (σ.set i none) H }
abbrev Clause := (Value → Option Bool) × (Addr × Obj → TS)
def wAll (i : Nat) (Wout : WX) (D : Ends) : List Clause → WX
  | [] => Wout
  | (m, ts) :: r => fun cls d σ H => ∃ b, m cls = some b ∧ (b = true → ∀ p : Addr × Obj, p.2.cls = cls → p.2.dict = d → (∃ vs, p.2.data = .fields vs) → H p.1 = none → ts p (goneD i D) (σ.set i (some (.ref p.1))) H) ∧ (b = false → wAll i Wout D r cls d σ H)
inductive HdsA (X : Cx) (n : Str) : List ExceptHandler → List Clause → Prop
  | nil : HdsA X n [] []
  | cons {test : Expr} {m : Value → Option Bool} {ts : Addr × Obj → TS} {b₀ : Stmt} {suite : List Stmt} {pos' : Pos} {hds : List ExceptHandler} {l : List Clause} (ht : Tst X test m)
      (hsu : ∀ (p : Addr × Obj) (pn : List (Addr × Obj)), HasP (X.suite p.1 (p :: pn)) p → (∃ vs, p.2.data = .fields vs) → PSs (X.suite p.1 (p :: pn)) (b₀ :: suite) (ts p)) (r : HdsA X n hds l) :
      HdsA X n (.ExceptHandler (some test) (some n) (b₀ :: suite) pos' :: hds) ((m, ts) :: l)
theorem flying_grow {B h h' : Heap} {outer : List Env} {a : Addr} {Z : Obj → Prop} (f : HandSPX.FlyingZ B outer a Z h) (k : ∀ c o, h.get? c = some o → h'.get? c = some o) : HandSPX.FlyingZ B outer a Z h' := by
  obtain ⟨f1, f2, f3, oe, vs, T, oT, ts, g1, g2, g3, g4, g5, g6, g7, g8, g9⟩ := f
  exact ⟨fun b o z => k b o (f1 b o z), f2, f3.of_keeps fun b o z _ => ⟨o, k b o z, rfl⟩, oe, vs, T, oT, ts, k _ _ g1, g2, g3, g4, g5, g6, k _ _ g7, g8, g9⟩
section
variable {X : Cx} {n : Str} {i : Nat} {body : List Stmt} {h₀ : ExceptHandler} {hds : List ExceptHandler} {l : List Clause} {pos : Pos} {tb : WX → TS} {Wout : WX}
theorem ps_try_all (hs : X.stack = X.env :: X.outer) (hf : X.env.frame = some X.env.locals) (hN : X.N.Nodup) (hi : X.N[i]? = some n) (hln : X.env.kindOf n = some .local) (tk : L2N.Takes X Wout)
    (hb : ∀ (W : WX) (pn : List (Addr × Obj)) (xe : Value → Shared → Prop), L2N.Takes (X.tr pn xe) W → PassesOwn (model X.prog X.w) X.A X.env xe → PSs (X.tr pn xe) body (tb W)) (hh : HdsA X n (h₀ :: hds) l) :
    PS X (.Try body (h₀ :: hds) [] [] pos) (fun D σ H => tb (wAll i Wout D l) D σ H) := by
  constructor
  intro pins s σ H D I h
  have ok := I.ok
  have frm : X.A.frames = some (X.env :: X.outer) := by rw [ok.frames, hs]
  refine wpAny_Try_except (wpAny_mono ((hb (wAll i Wout D l) (X.pn ++ pins) (fun e s₁ => wpAny (model X.prog X.w) X.A (noteFrame e X.env) (fun _ s₂ => wpAny (model X.prog X.w) X.A (setFlight e none)
    (fun _ s₃ => wpAny (model X.prog X.w) X.A (handleBy e X.env (h₀ :: hds)) (SP X pins D) X.xe s₃) X.xe s₂) X.xe s₁) ?_ PassesOwn.looking).run [] s σ H D (I.toTry _) h) ?_ fun e s1 he => he)
  · -- caught
    rintro u s' ⟨a, B, sI, pins', σ', H', cls, d, rfl, J0, nb, up, sky, na, os, ag, wish⟩
    have J := J0.ofTry ok
    have sky2 : Sky B (X.env :: X.outer) a (L2N.Zn cls d) X.env.locals s'.heap := by rw [← hs]; exact sky
    refine L2N.Sky.land L2N.Zn.steady frm hf sky2 fun h3 fl3 up3 => ?_
    -- by the clauses, whatever the tests have laid
    have walk : ∀ {hds' : List ExceptHandler} {l' : List Clause}, HdsA X n hds' l' → wAll i Wout D l' cls d σ' H' → ∀ (h5 : Heap) (t5 : Nat), HandSPX.FlyingZ B (X.env :: X.outer) a (L2N.Zn cls d) h5 → s'.heap.UpToSlots h5 →
        wpAny (model X.prog X.w) X.A (handleBy (.ref a) X.env hds') (SP X pins D) X.xe { s' with heap := h5, toks := t5 } := by
      intro hds' l' hk
      induction hk with
      | nil =>
        intro w h5 t5 fl up5
        refine wpAny_handleBy_nil ?_
        obtain ⟨_, _, _, oe, vs, T, oT, ts', he, hz, hd, h1, hr⟩ := id fl
        have out : wpAny (model X.prog X.w) X.A (setFlight (.ref a) X.env.frame) (fun _ s4 => wpAny (model X.prog X.w) X.A (throw (.ref a) : Sem Flow) (SP X pins D) X.xe s4) X.xe { s' with heap := h5, toks := t5 } := by
          rw [hf]
          refine HandSPX.setFlight_upZ fl fun h6 held up6 => wpAny_throw (tk _ _ ?_)
          exact ⟨a, B, sI, pins, σ', H', cls, d, rfl, J, nb, (up.trans up5).trans up6, .inr (.inr (by rw [hs]; exact held)), na, os, ag, w⟩
        unfold PySem.passOn
        refine wpAny_bind (wpAny_field he hd h1 ?_)
        rw [if_neg (show ¬ ((Value.ref T == Value.none) = true) from by simp)]
        first
          | exact wpAny_bind (wpAny_pure (wpAny_bind out))
          | exact wpAny_bind out
      | @cons test m ts b₀ suite pos' hds2 l2 ht hsu r ih =>
        rintro ⟨b, mb, yes, no⟩ h5 t5 fl up5
        obtain ⟨oe, vs, he, hz, hd⟩ := fl.there
        have sec : ∀ {h6 : Heap} {o : Obj} {vs : Array Value}, HandSPX.FlyingZ B (X.env :: X.outer) a (L2N.Zn cls d) h6 → h6.get? a = some o → o.data = .fields vs → a ≠ X.env.locals ∧ a ∉ X.fs := fun {h6 o vs} f6 e dd => by
          have away : a ∉ frs (X.env :: X.outer) := fun z => by
            obtain ⟨_, o', e', nf⟩ := f6.2.2.1.mem z
            rw [e] at e'
            cases e'
            exact nf _ dd
          refine ⟨fun z => away (List.mem_filterMap.mpr ⟨X.env, List.mem_cons_self, by rw [hf, z]⟩), fun z => ?_⟩
          obtain ⟨ev, hev, q⟩ := List.mem_filterMap.mp z
          exact away (List.mem_filterMap.mpr ⟨ev, List.mem_cons_of_mem _ hev, q⟩)
        have J5 : L2.Inv X pins σ' H' { s' with heap := h5, toks := t5 } := J.landed nb fl.1 (up.trans up5) os ag
        have S5 := J5.suite he hd na (sec fl he hd).1 (sec fl he hd).2
        refine wpAny_handleBy_cons (codeAny_handlers_test ?_) (by intro q; cases q)
        refine ht (a, oe) (X.pn ++ pins) [] σ' H' _ b _ _ S5 (by show m oe.cls = _; rw [hz.1]; exact mb) fun h6 t6 k6 => ?_
        have fl6 := flying_grow fl k6
        have up6 : s'.heap.UpToSlots h6 := up5.trans (Heap.UpToSlots.of_keeps k6)
        cases b with
        | false => exact ih (no rfl) h6 t6 fl6 up6
        | true =>
          refine codeAny_handlers_suite_as (HandSPX.lands_againZ fl6 fun h7 fl7 up7 => ?_)
          obtain ⟨oe7, vs7, he7, hz7, hd7⟩ := fl7.there
          have J7 : L2.Inv X pins σ' H' { s' with heap := h7, toks := t6 } := J.landed nb fl7.1 ((up.trans up6).trans up7) os ag
          have S7 := J7.suite he7 hd7 na (sec fl7 he7 hd7).1 (sec fl7 he7 hd7).2
          have has : HasP (X.suite a ((a, oe7) :: (X.pn ++ pins))) (a, oe7) := ⟨⟨rfl, vs7, hd7, hz7.2.2 vs7 hd7⟩, List.mem_cons_self⟩
          refine store_ok (X := X.suite a ((a, oe7) :: (X.pn ++ pins))) (v := .ref a) S7 hN hi (.inl hln) rfl (fun s8 S8 => ?_) (.inr hln)
          refine wpAny_mono ((hsu (a, oe7) (X.pn ++ pins) has ⟨_, hd7⟩).run [] s8 _ H' _ S8 (yes rfl (a, oe7) hz7.1 hz7.2.1 ⟨_, hd7⟩ na)) ?_ fun _ _ z => z.elim
          intro f s9 out
          have ends : ∀ {σ9 : L2.St} {H9 : Hp} {Q : Shared → Prop}, L2.Inv (X.suite a ((a, oe7) :: (X.pn ++ pins))) [] σ9 H9 s9 → (∀ s10, L2.Inv X pins (σ9.set i none) H9 s10 → Q s10) →
              wpAny (model X.prog X.w) X.A (do bindName X.env n .none; unbindBehindTheSuite X.env n pos') (fun _ s10 => Q s10) X.xe s9 := fun S9 hq => gone_ok (S9.unsuite ok) hN hi hln hq
          cases f with
          | ret u =>
            obtain ⟨v9, σ9, H9, S9, r9, q9⟩ := out
            exact ends S9 fun _ J9 => ⟨_, _, _, J9, r9, q9⟩
          | next =>
            obtain ⟨σ9, H9, S9, q9⟩ := out
            exact ends S9 fun _ J9 => ⟨_, _, J9, q9⟩
          | brk =>
            obtain ⟨σ9, H9, S9, q9⟩ := out
            exact ends S9 fun _ J9 => ⟨_, _, J9, q9⟩
          | cont =>
            obtain ⟨σ9, H9, S9, q9⟩ := out
            exact ends S9 fun _ J9 => ⟨_, _, J9, q9⟩
    exact walk hh wish h3 s'.toks fl3 up3
  · rintro (_ | _ | _ | u) s1 out
    · obtain ⟨σ1, H1, J1, q⟩ := out
      exact wpAny_execs_nil ⟨σ1, H1, J1.ofTry ok, q⟩
    · obtain ⟨σ1, H1, J1, q⟩ := out
      exact ⟨σ1, H1, J1.ofTry ok, q⟩
    · obtain ⟨σ1, H1, J1, q⟩ := out
      exact ⟨σ1, H1, J1.ofTry ok, q⟩
    · obtain ⟨v, σ1, H1, J1, r, q⟩ := out
      exact ⟨v, σ1, H1, J1.ofTry ok, r, q⟩
end
end Lay

set_option Elab.async false
set_option linter.all false
set_option maxRecDepth 100000
set_option maxHeartbeats 4000000
/-! LayG: lambdas without parameters handed to defs, by any kind of exceptions -/
namespace Lay
open PySem PySem.Spec PyProof.Rows L2 LamX
/-- from the state at (H, s) on: f may be called; spL is what it promises. fs: the frames of those who stand above it -/
def LamOk (P : Program) (w : World) (K : PySem.W.Frag) (mg : Str → Option Value) (base : Heap) (CX : CXT) (j : Nat) (fs : List Addr) (s : Shared) (H : Hp) (f : Addr) (spL : Hp → VK → XK → Prop) : Prop :=
  ∀ (A : Around) (outer : List Env) (s' : Shared) (H' : Hp) (Q : VK) (E : XK), Room j A → Env0 P w K mg base A outer s' H' → Un fs [] H H' s.heap s'.heap → spL H' Q E →
    PySem.W.FnAt f s'.heap ∧ codeAny (model P w) A (.call (.ref f) ⟨[], []⟩) (CR CX outer P w H' s' Q E) s'
theorem un_under {fs fs1 : List Addr} {H0 H1 H2 : Hp} {h0 h1 h2 : Heap} (a : Un fs [] H0 H1 h0 h1) (b : Un fs1 [] H1 H2 h1 h2) (hf : ∀ c ∈ fs1, c ∈ fs ∨ h0.get? c = none) : Un fs [] H0 H2 h0 h2 where
  keep := fun c o e n nf _ => b.keep c o (a.keep c o e n nf (by simp)) (a.free c o e n (by simp)) (fun z => (hf c z).elim nf fun q => by rw [e] at q; cases q) (by simp)
  slot := fun c o e n yf _ => by
    obtain ⟨sl, e1⟩ := a.slot c o e n yf (by simp)
    obtain ⟨sl2, e2⟩ := b.any e1 (a.free c o e n (by simp)) (by simp)
    exact ⟨sl2, e2⟩
  free := fun c o e n _ => by
    obtain ⟨sl, e1⟩ := a.any e n (by simp)
    exact b.free c _ e1 (a.free c o e n (by simp)) (by simp)
  there := fun c o e _ => by
    obtain ⟨o1, e1⟩ := a.there c o e (by simp)
    exact b.there c o1 e1 (by simp)
  tups := fun c xs e => b.tups c xs (a.tups c xs e)
  frzs := fun c o u e => b.frzs c o u (a.frzs c o u e)
  tbls := fun c ps e => by
    obtain ⟨m1, e1⟩ := a.tbls c ps e
    obtain ⟨m2, e2⟩ := b.tbls c _ e1
    exact ⟨m1 ++ m2, by rw [e2, Array.append_assoc]⟩
/-- known at a def's entry, so at any place of its body -/
theorem lam_inner {X : Cx} {pins : List (Addr × Obj)} {σ : L2.St} {H : Hp} {s : Shared} {CX : CXT} {j : Nat} {f : Addr} {spL : Hp → VK → XK → Prop} (hx : X.ex = []) (I : L2.Inv X pins σ H s) (l : LamOk X.prog X.w X.K X.mg X.base CX j X.fs X.s_0 X.H_0 f spL) :
    LamOk X.prog X.w X.K X.mg X.base CX j (frs X.stack) s H f spL := by
  intro A outer s' H' Q E room e0 un prom
  have below := I.base
  rw [hx] at below
  refine l A outer s' H' Q E room e0 (un_under below un fun c z => ?_) prom
  rcases List.mem_cons.mp (I.stkSub c z) with q | q
  · refine .inr ?_
    cases g : X.s_0.heap.get? c with
    | none => rfl
    | some o =>
      have := Heap.lt_size g
      rw [q] at this
      exact absurd (Nat.lt_of_lt_of_le this I.ok.above) (Nat.lt_irrefl _)
  · exact .inl q
/-- the context of the lambda's body, its exceptions by CX -/
def lamCxN (CX : CXT) (X : Cx) (A : Around) (outer : List Env) (s : Shared) (H : Hp) (E : XK) (scope : Scope) (f c' : Addr) : Cx :=
  (lamCx X A outer s H E scope f c').tr [] fun e s' => wpAny (model X.prog X.w) (A.deeper (lamEnv X scope s.heap.objs.size f c')) (leaving (lamEnv X scope s.heap.objs.size f c') e) (fun _ s'' => CX outer H s E e s'') (fun e' s'' => CX outer H s E e' s'') s'
section
variable {X : Cx} {CX : CXT}
theorem lam_ok {pins : List (Addr × Obj)} {σ : L2.St} {H : Hp} {s : Shared} {f c' : Addr} {pm ctv : Value} {params : Arguments} {body : Expr} {scope : Scope} {k : Nat} {t : XK → TE} (I : L2.Inv X pins σ H s) (L : LamS X.env.scope scope)
    (hf : s.heap.get? f = some (PySem.W.kla_obj "<lambda>" (X.env.qual ++ "<lambda>") params body scope (cloFrom X.env.cells scope.names []) pm c' ctv)) (hfn : H f = none) (hfr : f ∉ frs X.stack)
    (hbind : bindArgs (PySem.W.kla_fn "<lambda>" (X.env.qual ++ "<lambda>") params body scope (cloFrom X.env.cells scope.names []) pm (.ref c') ctv) ⟨[], []⟩ = pure [])
    (hbody : ∀ (A : Around) (outer : List Env) (s : Shared) (H : Hp) (E : XK), Room k (A.deeper (lamEnv X scope s.heap.objs.size f c')) → PE (lamCxN CX X A outer s H E scope f c') body (t E)) :
    LamOk X.prog X.w X.K X.mg X.base CX (k + 1) (frs X.stack) s H f (fun H' Q E => H' c' = some (CodeO c' (X.env.qual ++ "<lambda>")) ∧ t E σ H' Q) := by
  rintro A outer s1 H1 Q E room e0 un ⟨hc, prom⟩
  have there : s1.heap.get? f = some (PySem.W.kla_obj "<lambda>" (X.env.qual ++ "<lambda>") params body scope (cloFrom X.env.cells scope.names []) pm c' ctv) := un.keep f _ hf hfn hfr (by simp)
  refine ⟨⟨_, _, _, _, there⟩, ?_⟩
  obtain ⟨⟨oc, vs, t0, hoc, hdc, hvc⟩, _, _⟩ := e0.hok c' _ hc
  have lim : s1.heap.NoLimit := e0.mod.nolimit.keeps fun b o e => (e0.bs b o e).1
  refine PySem.W.kla_callFunE room.depth there rfl L.co L.gen rfl ⟨c', oc, vs, t0, rfl, hoc, hdc, hvc⟩ ?_
  rw [hbind]
  refine wpAny_pure (wpAny_newFunctionEnv (fun y hy => (L.own y hy).2) (fun y hy => absurd hy (by simp)) (fun h₁ hns hsb => ⟨lim.fresh _ hsb, ?_⟩) L.kind)
  show codeAny _ _ (.expr body (lamEnv X scope s1.heap.objs.size f c')) _ _
  have kp : ∀ b o, s1.heap.get? b = some o → h₁.get? b = some o := fun b o e => hsb.extBut b o (Nat.ne_of_lt (Heap.lt_size e)) (Heap.get?_push_of_some _ e)
  have J0 := lam_start2 (E := E) (f := f) (c' := c') (tk := s1.toks + ([] : List (Str × Value)).length) I L e0 room.hd un hns kp
  have J : L2.Inv (lamCxN CX X A outer s1 H1 E scope f c') [] σ H1 { s1 with heap := h₁, toks := s1.toks + ([] : List (Str × Value)).length } :=
    ⟨J0.ok.toTry _ _, J0.os, J0.bare, J0.base, J0.loc, J0.cell, J0.free, J0.freeC, fun p hp => absurd (show p ∈ ([] : List (Addr × Obj)) ++ [] from hp) (by simp), J0.hok, J0.len⟩
  refine PySem.W.kla_codeExpr (wpAny_mono ((hbody A outer s1 H1 E (room.deeper _)).run [] _ _ H1 Q J prom) ?_ fun e s' hq => hq)
  rintro v s' ⟨x, H', J', rv, q⟩
  exact ⟨x, H', J'.os, J'.bare, J'.base, J'.hok, rv, q⟩
/-- a(), a the local that bears the lambda -/
theorem pe_actN {j i : Nat} {a : Str} {f : Addr} {spL : Hp → VK → XK → Prop} {E : L2.St → XK} {p1 p2 : Pos} (hex : X.ex = []) (l : LamOk X.prog X.w X.K X.mg X.base CX j X.fs X.s_0 X.H_0 f spL) (room : Room j X.A) (hx : ∀ σ, PassesAt CX X σ (E σ))
    (hN : X.N[i]? = some a) (hv : Vis X.env.scope a) (hd : (a == ("__debug__" : Str)) = false := by decide) (hcd : (a == ("__classdict__" : Str)) = false := by decide) :
    PE X (.Call (.Name a p1) [] [] p2) (fun σ H Q => σ[i]? = some (some (.ref f)) ∧ spL H Q (E σ)) := by
  constructor
  rintro pins s σ H Q I ⟨hs, prom⟩
  refine wpAny_Call_Name_kw (thn ((pe_var (pos := p1) (i := i) hN hv hd hcd).run pins s σ H (fun v H1 => v = .ref f ∧ H1 = H) I ⟨.ref f, hs, rfl, rfl⟩) ?_)
  rintro u s1 ⟨v, H1, I1, r1, rfl, rfl⟩
  obtain rfl : u = Value.ref f := r1
  obtain ⟨at_f, runs⟩ := lam_inner hex I1 l X.A X.stack s1 H1 Q (E σ) room I1.env0 Un.refl prom
  refine PySem.W.callWith_F0 at_f (wpAny_call (codeAny_mono runs ?_))
  rintro (er | _ | _ | _ | w) s' out
  all_goals first
    | exact hx σ pins H1 s1 _ s' I1 out
    | exact I1.after out
    | exact False.elim out
/-- a def whose first argument is such a lambda -/
structure FnL (P : Program) (w : World) (K : PySem.W.Frag) (mg : Str → Option Value) (base : Heap) (CX CXL : CXT) (k j : Nat) (f : Addr) (fd : FuncData) (ps : List Str) (SP : (Hp → VK → XK → Prop) → Sp) : Prop where
  many : ∀ spL vs H Q E, SP spL vs H Q E → vs.length + 1 = ps.length
  runs : ∀ (A : Around) (outer : List Env) (s : Shared) (H : Hp) (args : Args) (us : List Value) (vs : List V) (fl : Addr) (spL : Hp → VK → XK → Prop) (Q : VK) (E : XK), Room k A → Env0 P w K mg base A outer s H → BindsTo s fd args (ps.zip (.ref fl :: us)) → Vals vs us →
    LamOk P w K mg base CXL j (frs outer) s H fl spL → SP spL vs H Q E → codeAny (model P w) A (.call (.ref f) args) (CR CX outer P w H s Q E) s
theorem fn_ofL {CXL : CXT} {P : Program} {w : World} {K : PySem.W.Frag} {mg : Str → Option Value} {base : Heap} {k j : Nat} {f : Addr} {name qual : Str} {params : Arguments} {body : List Stmt} {scope : Scope} {dV kV doc pm cdv ct oc : Value} {an od : Option Addr}
    {osl : Array (Option Value)} {N ps : List Str} {SP : (Hp → VK → XK → Prop) → Sp} (lk : K.lookup f = some ⟨oc, od, .func (PySem.W.fnOf name qual params body scope dV kV doc pm an cdv ct), osl⟩) (cd : PySem.W.codeIn K cdv qual = true) (S : FnScope N ps scope)
    (many : ∀ spL vs H Q E, SP spL vs H Q E → vs.length + 1 = ps.length)
    (inside : ∀ (A : Around) (outer : List Env) (s : Shared) (H : Hp) (vs : List V) (fl : Addr) (spL : Hp → VK → XK → Prop) (Q : VK) (E : XK), Room k (A.deeper (envOfC qual scope s.heap.objs.size f cdv)) → LamOk P w K mg base CXL j (frs outer) s H fl spL → SP spL vs H Q E →
      ∃ t, PSs (cxOf CX P w K mg base N qual scope f cdv A outer s H E) body t ∧ t { nx := fun _ H' => Q .non H', rt := Q } (L2.start N (.ref fl :: vs)) H) :
    FnL P w K mg base CX CXL (k + 1) j f (PySem.W.fnOf name qual params body scope dV kV doc pm an cdv ct) ps SP := by
  refine ⟨many, fun A outer s H args us vs fl spL Q E room e0 hb r l prom => ?_⟩
  exact run_ofS (us := .ref fl :: us) (vs := .ref fl :: vs) lk cd S room e0 hb (.cons rfl r) (by rw [List.length_cons]; exact many _ _ _ _ _ prom) fun room' => inside A outer s H vs fl spL Q E room' l prom
theorem run_fnL {CXL : CXT} {k j : Nat} {f fl : Addr} {fd : FuncData} {ps : List Str} {SP : (Hp → VK → XK → Prop) → Sp} {pins : List (Addr × Obj)} {σ : L2.St} {H : Hp} {s : Shared} {Q : VK} {E : XK} {us : List Value} {vs : List V} {spL : Hp → VK → XK → Prop}
    (F : FnL X.prog X.w X.K X.mg X.base CX CXL k j f fd ps SP) (room : Room k X.A) (hb : Binds X.K fd ps []) (hx : PassesAt CX X σ E) (I : L2.Inv X pins σ H s) (r : Vals vs us) (l : LamOk X.prog X.w X.K X.mg X.base CXL j (frs X.stack) s H fl spL) (h : SP spL vs H Q E) :
    wpAny (model X.prog X.w) X.A (call (.ref f) (.ref fl :: us)) (EP X pins σ Q) X.xe s := by
  have bound := hb s (.ref fl :: us) I.kIn (by rw [List.append_nil, List.length_cons, ← r.length]; exact F.many _ _ _ _ _ h)
  rw [List.append_nil] at bound
  refine wpAny_call (codeAny_mono (F.runs X.A X.stack s H ⟨.ref fl :: us, []⟩ us vs fl spL Q E room I.env0 bound r l h) ?_)
  rintro (er | _ | _ | _ | w) s' out
  all_goals first
    | exact hx pins H s _ s' I out
    | exact I.after out
    | exact False.elim out
/-- x(a, ..), a the local that bears the lambda -/
theorem pe_passL {CXL : CXT} {k j i : Nat} {f fl : Addr} {fd : FuncData} {ps : List Str} {SP : (Hp → VK → XK → Prop) → Sp} {spL : Hp → VK → XK → Prop} {E : L2.St → XK} {x a : Str} {es : List Expr} {t : TA} {q p1 pos : Pos}
    (F : FnL X.prog X.w X.K X.mg X.base CX CXL k j f fd ps SP) (hex : X.ex = []) (l : LamOk X.prog X.w X.K X.mg X.base CXL j X.fs X.s_0 X.H_0 fl spL) (room : Room k X.A) (hg : Gl X x) (hm : X.mg x = some (.ref f)) (hk : PySem.W.keepIn X.K (.ref f) = true) (hb : Binds X.K fd ps []) (hx : ∀ σ, PassesAt CX X σ (E σ))
    (hN : X.N[i]? = some a) (hv : Vis X.env.scope a) (ha : PA X es t) (hd : (a == ("__debug__" : Str)) = false := by decide) (hcd : (a == ("__classdict__" : Str)) = false := by decide) (hdb : (x == ("__debug__" : Str)) = false := by decide)
    (he : starEach (.Name a p1 :: es) X.env = (false, eval (.Name a p1) X.env) :: starEach es X.env := by rfl) (hpl : (backTo pos (starEach es X.env)).any (·.1) = false := by rfl) :
    PE X (.Call (.Name x q) (.Name a p1 :: es) [] pos) (fun σ H Q => σ[i]? = some (some (.ref fl)) ∧ t σ H fun vs H1 => SP spL vs H1 Q (E σ)) := by
  constructor
  rintro pins s σ H Q I ⟨hs, h⟩
  refine wpAny_Call_Name_kw (ld_glob I hg hm ?_ hdb)
  refine PySem.W.callWith_K (h₀ := X.base) I.ok.mod.kin hk ?_ he hpl
  refine Calls.spliced_cons (thn ((pe_var (pos := p1) (i := i) hN hv hd hcd).run pins s σ H (fun v H1 => v = .ref fl ∧ H1 = H) I ⟨.ref fl, hs, rfl, rfl⟩) ?_)
  rintro u s1 ⟨v, H1, I1, r1, rfl, rfl⟩
  obtain rfl : u = Value.ref fl := r1
  refine thn (ha.run pos pins s1 σ H1 _ I1 h) ?_
  rintro us s2 ⟨vs, H2, I2, r, prom⟩
  exact ⟨I2.kIn, run_fnL F room hb (hx σ) I2 r (lam_inner hex I2 l) prom⟩
/-- the reading of x(lambda: body, ..) -/
def tLamN (T : List (Addr × Str)) (q : Str) (SP : (Hp → VK → XK → Prop) → Sp) (E : L2.St → XK) (tb : XK → TE) (t : TA) : TE := fun σ H Q => Tabs T H ∧ ∀ H1 c', ExtN H H1 → Tabs T H1 → H1 c' = some (CodeO c' q) →
  t σ H1 fun vs H2 => SP (fun H' Q' E' => H' c' = some (CodeO c' q) ∧ tb E' σ H' Q') vs H2 Q (E σ)
theorem pe_lamN {CXL : CXT} {T : List (Addr × Str)} {SP : (Hp → VK → XK → Prop) → Sp} {E : L2.St → XK} {x : Str} {g c P : Addr} {k j : Nat} {fd : FuncData} {ps : List Str} {params : Arguments} {body : Expr} {scope : Scope} {tb : XK → TE} {es : List Expr} {t : TA} {p lpos pos : Pos}
    (F : FnL X.prog X.w X.K X.mg X.base CX CXL k (j + 1) g fd ps SP) (room : Room k X.A) (hg : Gl X x) (hm : X.mg x = some (.ref g)) (hk : PySem.W.keepIn X.K (.ref g) = true) (hb : Binds X.K fd ps []) (hx : ∀ σ, PassesAt CX X σ (E σ))
    (TB : TabB X.base X.mg c P) (hcode : X.env.code = .ref c) (hmT : (P, X.env.qual ++ "<lambda>") ∈ T) (hu : ∀ p ∈ T, p.1 = P → p.2 = X.env.qual ++ "<lambda>") (L : LamS X.env.scope scope) (hdef : defaultsOf params X.env = ([], []))
    (hbind : ∀ (q : Str) (cl : List (Str × Addr)) (pm cv ctv : Value), bindArgs (PySem.W.kla_fn "<lambda>" q params body scope cl pm cv ctv) ⟨[], []⟩ = pure [])
    (hbody : ∀ (A : Around) (outer : List Env) (s : Shared) (H : Hp) (E : XK) (f c' : Addr), Room j (A.deeper (lamEnv X scope s.heap.objs.size f c')) → PE (lamCxN CXL X A outer s H E scope f c') body (tb E)) (ha : PA X es t)
    (hdb : (x == ("__debug__" : Str)) = false := by decide) (he : starEach (.Lambda params body scope lpos :: es) X.env = (false, eval (.Lambda params body scope lpos) X.env) :: starEach es X.env := by rfl) (hpl : (backTo pos (starEach es X.env)).any (·.1) = false := by rfl) :
    PE X (.Call (.Name x p) (.Lambda params body scope lpos :: es) [] pos) (tLamN T (X.env.qual ++ "<lambda>") SP E tb t) := by
  constructor
  rintro pins s σ H Q I ⟨hT, h⟩
  refine wpAny_Call_Name_kw (ld_glob I hg hm ?_ hdb)
  refine PySem.W.callWith_K (h₀ := X.base) I.ok.mod.kin hk ?_ he hpl
  refine Calls.spliced_cons (lam_make2 I TB hcode hmT hu hT hdef (L.has I.ok) fun f c' pm' ctv H1 s' I1 eN T1 hf hfn hfr hco => ?_)
  have I2 : L2.Inv X (pins ++ [(f, PySem.W.kla_obj "<lambda>" (X.env.qual ++ "<lambda>") params body scope (cloFrom X.env.cells scope.names []) pm' c' ctv)]) σ H1 s' := I1.pins_of fun p hp => by
    rcases List.mem_append.mp hp with z | z
    · exact I1.pin p (List.mem_append_right _ z)
    · obtain rfl := List.mem_singleton.mp z
      refine ⟨hf, hfn, fun y => ?_, fun y => hfr ?_, fun v y => by cases y⟩
      · obtain ⟨m, ⟨o', es', ep, ho', hd', _⟩, _⟩ := I1.loc
        have y : f = X.env.locals := y
        rw [← y, hf] at ho'
        cases ho'
        cases hd'
      · rcases I1.ok.stk with q | ⟨q, _⟩
        · rw [q]; exact y
        · rw [q]
          have : ∀ (e : Env) (l : List Env), f ∈ frs l → f ∈ frs (e :: l) := fun e l m => by
            obtain ⟨e', he', q'⟩ := List.mem_filterMap.mp m
            exact List.mem_filterMap.mpr ⟨e', List.mem_cons_of_mem _ he', q'⟩
          exact this _ _ y
  refine thn (ha.run pos _ s' σ H1 _ I2 (h H1 c' eN T1 hco)) ?_
  rintro us s2 ⟨vs, H2, I3, r, prom⟩
  refine ⟨I3.kIn, ?_⟩
  obtain ⟨f1, f2, _⟩ := I3.pin _ (List.mem_append_right _ (List.mem_append_right _ (List.mem_singleton.mpr rfl)))
  have l := lam_ok (CX := CXL) I3 L f1 f2 hfr (hbind _ _ _ _ _) fun A outer s H E room' => hbody A outer s H E f c' room'
  refine thn (run_fnL F room hb (hx σ) I3 r l prom) ?_
  rintro v s3 ⟨y, H3, I4, rv, q⟩
  exact ⟨y, H3, I4.unpinned, rv, q⟩
end
end Lay

set_option Elab.async false
set_option linter.all false
set_option maxRecDepth 100000
set_option maxHeartbeats 4000000
/-! LayH: an own exception with an own __init__ is made where nothing is handled; its context is known to be None -/
namespace Lay
open PySem PySem.Spec PyProof.Rows L2
section
variable {X : Cx}
theorem pmk_oexN {CX : CXT} {x : Str} {C fI : Addr} {k : Nat} {fd : FuncData} {ps : List Str} {sp : Sp} {e : Expr} {es : List Expr} {ta : TA} {p pos : Pos} (T : OexC X.K C) (iC : PySem.W.findIn X.K (.ref C) "__init__" = some (some (.ref fI)))
    (tI : PySem.W.typeIn X.K (.ref fI) = some (.type "function")) (F1 : FnOk X.prog X.w X.K X.mg X.base CX k fI fd ps sp) (room : Room (k + 1) X.A) (hb : Binds X.K fd ps []) (hx : Passes CX X (fun _ _ _ => False)) (hg : Gl X x) (hm : X.mg x = some (.ref C)) (ha : PA X (e :: es) ta)
    (hdb : (x == ("__debug__" : Str)) = false := by decide) (he : starEach (e :: es) X.env = (false, eval e X.env) :: starEach es X.env := by rfl) (hpl : (backTo pos (starEach es X.env)).any (·.1) = false := by rfl) :
    L2N.PMk X (.Call (.Name x p) (e :: es) [] pos) (tMkO C sp [] ta) := by
  intro pins s σ H Q I h
  obtain ⟨nm, q, N, bs, bm, sn, sub, ab, col, dd, k0, k1, k2, k3, k5, hC, hbm⟩ := T.cls
  refine wpAny_Call_Name_kw (ld_glob I hg hm ?_ hdb)
  refine PySem.W.callWith_K (h₀ := X.base) I.ok.mod.kin T.kC (thn (ha.run pos pins s σ H _ I h) ?_) he hpl
  rintro us ⟨hp, g, dr, tk, os⟩ ⟨vs, H1, I1, r1, few, wish⟩
  refine ⟨I1.kIn, ?_⟩
  show wpAny _ _ (call (.ref C) us) _ _ _
  -- the new object stands behind the tuple of its arguments
  generalize ea : hp.objs.size + 1 = a at *
  have up : hp.objs.size ≤ a := by rw [← ea]; exact Nat.le_succ _
  have prom := wish a (I1.hok.fresh up)
  rw [List.append_nil] at prom
  have grow : ∀ b o, hp.get? b = some o → ((hp.push (PySem.W.kdv_tup us)).push (PySem.HandSPX.excO C hp.objs.size)).get? b = some o := fun b o z => Heap.get?_push_of_some _ (Heap.get?_push_of_some _ z)
  have here : ((hp.push (PySem.W.kdv_tup us)).push (PySem.HandSPX.excO C hp.objs.size)).get? a = some (PySem.HandSPX.excO C hp.objs.size) := by rw [← ea]; heap_get
  have I2 := I1.laid (t' := tk) (a := a) (o := exo a C none) (h' := (hp.push (PySem.W.kdv_tup us)).push (PySem.HandSPX.excO C hp.objs.size)) grow up (exo_ok here)
  have r2 : Vals (V.ref a :: vs) (Value.ref a :: us) := .cons rfl r1
  have number : (Value.ref a :: us ++ []).length = ps.length := by rw [List.append_nil, ← r2.length]; exact F1.len _ _ _ _ prom
  have bound := hb ⟨(hp.push (PySem.W.kdv_tup us)).push (PySem.HandSPX.excO C hp.objs.size), g, dr, tk, os⟩ (Value.ref a :: us) I2.kIn number
  rw [List.append_nil] at bound
  have short : us.length ≤ sizeLine := by rw [← Paired.length r1, sizeLine_eq]; omega
  subst ea
  refine wpAny_call (PySem.HandSPX.call_own F.excBase_ValueError (fun Y => PySem.HandSPX.refsVE_contains Y bm hbm) (I1.kIn _ _ hC) (PySem.W.looks_findIn I1.kIn iC) (fun self => PySem.W.bind_fn I1.kIn self tI) short
    (codeAny_mono (F1.run _ X.stack _ _ ⟨Value.ref (hp.objs.size + 1) :: us, []⟩ (Value.ref (hp.objs.size + 1) :: us) _ _ (fun _ _ _ => False) (room.make C us []) (I2.env0.make C us []) bound r2 prom) ?_))
  rintro (er | _ | _ | _ | u) s' out
  case error => exact hx pins σ _ _ er s' I2 out
  case ok.ret =>
    obtain ⟨v, H2, os2, bare2, un2, hok2, rv, rfl, d, fs, ea, ed, hd1, q2⟩ := out
    obtain ⟨h2, g2, d2, t2, os'⟩ := s'
    obtain ⟨t0, G, J, sub2, gone, obj, free⟩ := mk_end0 (d2 := d2) (t2 := t2) I1 up grow un2 hok2 os2 bare2 ea ed hd1
    refine ⟨rv, hp.objs.size + 1, _, _, ⟨G, g2, d2, t2, os'⟩, _, .ref C, some d, rfl, J, sub2, gone, obj, ⟨rfl, rfl, fun vs hv => ?_⟩, rfl, rfl, free, rfl, bare2, raises_own T.exC T.tyC, q2⟩
    cases hv
    rfl
  all_goals exact False.elim out
end
end Lay

set_option Elab.async false
set_option linter.all false
set_option maxRecDepth 100000
set_option maxHeartbeats 4000000
/-! LayI: words for the walks -/
namespace Lay
open PySem PySem.Spec PyProof.Rows L2
open C8 (Cal)
theorem pown {M : Model} {A : Around} {env : Env} : PassesOwn M A env (fun _ _ => False) := PassesOwn.never
/-- a def that raises nothing, by its body -/
theorem calD {P : Program} {w : World} {K : PySem.W.Frag} {mg : Str → Option Value} {base : Heap} {x : Str} {params : Arguments} {body : List Stmt} {scope : Scope} {f : Addr} {fd : FuncData} {N ps : List Str} {k : Nat} {sp : Sp}
    (F : FunD K x x params body scope [] [] f fd) (g : mg x = some (.ref f)) (S : FnScope N ps scope)
    (b : ∀ (kV doc pm : Value) (an : Option Addr) (cdv ct : Value) (us : List Value), us.length = ps.length → bindArgs (PySem.W.fnOf x x params body scope .none kV doc pm an cdv ct) ⟨us, []⟩ = pure (ps.zip us)) (len : ∀ vs H Q E, sp vs H Q E → vs.length = ps.length)
    (inside : ∀ (cdv : Value) (A : Around) (outer : List Env) (s : Shared) (H : Hp) (vs : List V) (Q : VK) (E : XK), Room k (A.deeper (envOfC x scope s.heap.objs.size f cdv)) → sp vs H Q E →
      ∃ t, PSs (cxOf C8.CX0 P w K mg base N x scope f cdv A outer s H E).nox body t ∧ t { nx := fun _ H' => Q .non H', rt := Q } (L2.start N vs) H) : Cal P w K mg base (k + 1) x sp [] := by
  refine ⟨f, fd, ps, [], F.ok S len fun cdv A outer s H vs Q E room prom => ?_, g, F.kp, F.bindsN b, .nil⟩
  obtain ⟨t, walk, q⟩ := inside cdv A outer s H vs Q E room prom
  exact ⟨t, walk.nox, q⟩
/-! isinstance with a built-in class -/
def kinds : List String := ["int", "bool", "str", "NoneType", "list", "tuple", "dict"]
def isaB (t T : String) : Bool := t == T || (t == "bool" && T == "int")
theorem kit_kinds : ∀ t ∈ kinds, ∀ T ∈ kinds, kitB t T = some (isaB t T) := by decide +kernel
/-- x is of the kind t -/
def Kd (K : PySem.W.Frag) (H : Hp) (x : V) (t : String) : Prop := t ∈ kinds ∧ TyX K H x (.type t)
def rIsB (K : PySem.W.Frag) : List V → Hp → VK → Prop := fun xs H Q => ∃ x T, xs = [x, .ty T] ∧ T ∈ kinds ∧ ∃ t, Kd K H x t ∧ Q (.bl (isaB t T)) H
theorem call_isB {X : Cx} : CallR X (.builtin "isinstance") (rIsB X.K) := by
  rintro pins s σ H xs us Q I r ⟨x, T, rfl, hT, t, ⟨ht, ty⟩, q⟩
  exact call_isi pins s σ H _ us Q I r ⟨x, .ty T, .type t, .type T, isaB t T, rfl, .ty T, ty, kit_ty (kit_kinds t ht T hT), q⟩
theorem rIsB_iff {K : PySem.W.Frag} {x : V} {T : String} {H : Hp} {Q : VK} (hT : T ∈ kinds) : rIsB K [x, .ty T] H Q ↔ ∃ t, Kd K H x t ∧ Q (.bl (isaB t T)) H := by
  constructor
  · rintro ⟨_, _, e, _, h⟩
    cases e
    exact h
  · rintro h
    exact ⟨_, _, rfl, hT, h⟩
theorem rIsB_i {K : PySem.W.Frag} {x : V} {T : String} {H : Hp} {Q : VK} {t : String} (k : Kd K H x t) (h : Q (.bl (isaB t T)) H) (hT : T ∈ kinds := by decide) : rIsB K [x, .ty T] H Q := ⟨_, _, rfl, hT, t, k, h⟩
end Lay

set_option Elab.async false
set_option linter.all false
set_option maxRecDepth 100000
set_option maxHeartbeats 4000000
/-! LayJ: small facts of texts and lists, for the readings -/
namespace Lay
open PySem PySem.Spec PyProof.Rows L2
open SX (S S_len S_cat S_tl S_inj)
theorem at_zero {α : Type} {c : α} {r : List α} : atI (c :: r) 0 = some c := by simp [atI, ixN]
theorem at_nat {α : Type} {xs : List α} {i : Nat} {x : α} (h : xs[i]? = some x) : atI xs (i : Int) = some x := by
  have lt : i < xs.length := (List.getElem?_eq_some_iff.mp h).1
  have e : ixN xs.length (i : Int) = some i := by
    unfold ixN
    rw [if_pos (by omega), if_pos (by omega)]
    simp
  unfold atI
  rw [e]
  exact h
theorem ixn {n i : Nat} (h : i < n) : ixN n (i : Int) = some i := by
  unfold ixN
  rw [if_pos (by omega), if_pos (by omega)]
  simp
theorem str_is {a b : List Nat} {z : Str} (h : z = S b) : (V.str (S a) = V.str z) = (a = b) := by
  subst h
  apply propext
  constructor
  · intro e
    exact S_inj (V.str.inj e)
  · intro e
    rw [e]
theorem len_S {K : PySem.W.Frag} {a : List Nat} {H : Hp} (h : a.length ≤ sizeLine) : LenV K (V.str (S a)) H a.length := ⟨by rw [S_len]; exact h, by rw [S_len]⟩
theorem small {n : Nat} (h : n ≤ 16777216) : n ≤ sizeLine := by rw [sizeLine_eq]; exact h
theorem same_new {H : Hp} {p : Addr} {o : HO} (h : H p = none) : Same H (upd H p o) := fun b x e => by
  rw [upd_ne (ne_of_none e h)]
  exact e
theorem Kd.same {K : PySem.W.Frag} {H H' : Hp} {x : V} {t : String} (k : Kd K H x t) (e : Same H H') : Kd K H' x t := by
  refine ⟨k.1, ?_⟩
  cases k.2 with
  | base h =>
    cases h with
    | non => exact .base .non
    | bl y => exact .base (.bl y)
    | int i => exact .base (.int i)
    | str y => exact .base (.str y)
    | flt y => exact .base (.flt y)
    | lst h => exact .base (.lst (e _ _ h))
    | frz h => exact .base (.frz (e _ _ h))
    | tup h => exact .base (.tup (e _ _ h))
    | dK h => exact .base (.dK (e _ _ h))
    | dT h => exact .base (.dT (e _ _ h))
  | byt y => exact .byt y
  | set h => exact .set (e _ _ h)
  | kList h c => exact .kList h c
  | kTuple h c => exact .kTuple h c
  | kDict h c => exact .kDict h c
  | fTuple h => exact .fTuple (e _ _ h)
  | fDict h => exact .fDict (e _ _ h)
theorem kd_int {K : PySem.W.Frag} {H : Hp} {i : Int} : Kd K H (.int i) "int" := ⟨by decide, .base (.int i)⟩
theorem kd_bl {K : PySem.W.Frag} {H : Hp} {b : Bool} : Kd K H (.bl b) "bool" := ⟨by decide, .base (.bl b)⟩
theorem kd_str {K : PySem.W.Frag} {H : Hp} {b : Str} : Kd K H (.str b) "str" := ⟨by decide, .base (.str b)⟩
theorem kd_non {K : PySem.W.Frag} {H : Hp} : Kd K H .non "NoneType" := ⟨by decide, .base .non⟩
theorem kd_lst {K : PySem.W.Frag} {H : Hp} {a : Addr} {xs : List V} (h : H a = some (.lst xs)) : Kd K H (.ref a) "list" := ⟨by decide, .base (.lst h)⟩
theorem kd_tup {K : PySem.W.Frag} {H : Hp} {a : Addr} {xs : List V} (h : H a = some (.tup xs)) : Kd K H (.ref a) "tuple" := ⟨by decide, .base (.tup h)⟩
theorem kd_dK {K : PySem.W.Frag} {H : Hp} {a : Addr} {xs : List (Key × V)} (h : H a = some (.dK xs)) : Kd K H (.ref a) "dict" := ⟨by decide, .base (.dK h)⟩
theorem sqT_of {K : PySem.W.Frag} {H : Hp} {t : Addr} {xs : List V} (h : H t = some (.tup xs)) : SqT K H t xs := .inl (.inl h)
theorem ixT {K : PySem.W.Frag} {H : Hp} {t : Addr} {xs : List V} {v : V} {R : VK} (h : H t = some (.tup xs)) (i : Nat) (e : xs[i]? = some v) (k : R v H) : rIxT K (V.ref t) (V.int (i : Int)) H R := ⟨t, xs, (i : Int), v, rfl, rfl, sqT_of h, at_nat e, k⟩
theorem ixL {K : PySem.W.Frag} {H : Hp} {t : Addr} {xs : List V} {v : V} {R : VK} (h : SqL K H t xs) (i : Nat) (e : xs[i]? = some v) (k : R v H) : rIxL K (V.ref t) (V.int (i : Int)) H R := ⟨t, xs, (i : Int), v, rfl, rfl, h, at_nat e, k⟩
theorem setL {H : Hp} {t : Addr} {xs : List V} {v : V} {R : Hp → Prop} (h : H t = some (.lst xs)) (i : Nat) (e : i < xs.length) (k : R (upd H t (.lst (xs.set i v)))) : rSetL (V.ref t) (V.int (i : Int)) v H R := ⟨t, xs, (i : Int), i, rfl, rfl, h, ixn e, k⟩
theorem len_T {K : PySem.W.Frag} {H : Hp} {t : Addr} {xs : List V} (h : H t = some (.tup xs)) : LenV K (V.ref t) H xs.length := .inr ⟨xs, sqT_of h, rfl⟩
theorem len_L {K : PySem.W.Frag} {H : Hp} {t : Addr} {xs : List V} (h : SqL K H t xs) : LenV K (V.ref t) H xs.length := .inl ⟨xs, h, rfl⟩
/-- an expression's reading, its value told first -/
theorem at_te {t : TE} {σ : L2.St} {H : Hp} {R : VK} (x : V) (h : ∀ R' : VK, (∀ H', Same H H' → R' x H') → t σ H R') (k : ∀ H', Same H H' → R x H') : t σ H R := h R k
theorem at_te0 {t : TE} {σ : L2.St} {H : Hp} {R : VK} (x : V) (h : ∀ R' : VK, R' x H → t σ H R') (k : R x H) : t σ H R := h R k
theorem at_tt {t : TT} {σ : L2.St} {H : Hp} {R : Bool → Hp → Prop} (b : Bool) (h : ∀ R' : Bool → Hp → Prop, (∀ H', Same H H' → R' b H') → t σ H R') (k : ∀ H', Same H H' → R b H') : t σ H R := h R k
theorem at_tt0 {t : TT} {σ : L2.St} {H : Hp} {R : Bool → Hp → Prop} (b : Bool) (h : ∀ R' : Bool → Hp → Prop, R' b H → t σ H R') (k : R b H) : t σ H R := h R k
theorem at_ta0 {t : TA} {σ : L2.St} {H : Hp} {R : List V → Hp → Prop} (xs : List V) (h : ∀ R' : List V → Hp → Prop, R' xs H → t σ H R') (k : R xs H) : t σ H R := h R k
end Lay

set_option Elab.async false
set_option linter.all false
set_option maxRecDepth 100000
set_option maxHeartbeats 4000000
/-! LayK: loops, told whole -/
namespace Lay
open PySem PySem.Spec PyProof.Rows L2
section
variable {K : PySem.W.Frag} {g : TG} {tb : TS} {D : Ends} {σ : L2.St} {H : Hp}
/-- what a walk over the list at l is to keep -/
def LoopL (K : PySem.W.Frag) (g : TG) (tb : TS) (D : Ends) (σ : L2.St) (H : Hp) (l : Addr) (xs : List V) : Prop := ∃ Pv : Nat → L2.St → Hp → Prop, Pv 0 σ H ∧ (∀ i σ' H', i ≤ xs.length → Pv i σ' H' → SqL K H' l xs) ∧
  (∀ i x σ' H', xs[i]? = some x → Pv i σ' H' → g x σ' H' fun σ2 H2 => tb { D with nx := Pv (i + 1), ct := Pv (i + 1), bk := D.nx } σ2 H2) ∧ ∀ σ' H', Pv xs.length σ' H' → D.nx σ' H'
theorem LoopL.run {l : Addr} {xs : List V} (h : LoopL K g tb D σ H l xs) : ∃ W : Nat → Nat → L2.St → Hp → Prop, (∃ m, W 0 m σ H) ∧ ∀ i m σ H, W i m σ H →
    ((Itl K l).stop i H ∧ D.nx σ H) ∨ ((Itl K l).go i H ∧ ∃ N : L2.St → Hp → Prop, (∀ σ' H', N σ' H' → ∃ m', m' < m ∧ W (i + 1) m' σ' H') ∧ ∀ x H', (Itl K l).yld i H x H' → g x σ H' fun σ2 H2 => tb { D with nx := N, ct := N, bk := D.nx } σ2 H2) := by
  obtain ⟨Pv, h0, hl, hs, hd⟩ := h
  exact for_list Pv h0 hl hs hd
/-- for x in [..] -/
theorem for_list_new {args : TA} (xs : List V) (hx : xs.length ≤ sizeLine) (h : ∀ R : List V → Hp → Prop, R xs H → args σ H R) (k : ∀ l, H l = none → LoopL K g tb D σ (upd H l (.lst xs)) l xs) : tFor (iList K (tLst args)) g tb D σ H :=
  h _ ⟨hx, fun l hl => ⟨l, rfl, ⟨xs, SqL.of upd_same⟩, (k l hl).run⟩⟩
/-- for x in a list that stands -/
theorem for_list_at {tl : TE} {l : Addr} {xs : List V} (h : ∀ R : VK, R (.ref l) H → tl σ H R) (hl : SqL K H l xs) (k : LoopL K g tb D σ H l xs) : tFor (iList K tl) g tb D σ H := h _ ⟨l, rfl, ⟨xs, hl⟩, k.run⟩
/-- for x in a list that is made on the way -/
theorem for_list_made {tl : TE} {o : Hp → Addr → Hp} {xs : List V} (h : ∀ R : VK, (∀ l, H l = none → R (.ref l) (upd H l (.lst xs))) → tl σ H R) (k : ∀ l, H l = none → LoopL K g tb D σ (upd H l (.lst xs)) l xs) : tFor (iList K tl) g tb D σ H :=
  h _ fun l hl => ⟨l, rfl, ⟨xs, SqL.of upd_same⟩, (k l hl).run⟩
/-- for k in range(n) -/
def LoopR (g : TG) (tb : TS) (D : Ends) (σ : L2.St) (H : Hp) (n : Nat) : Prop := ∃ Pv : Nat → L2.St → Hp → Prop, Pv 0 σ H ∧
  (∀ i σ' H', i < n → Pv i σ' H' → g (.int (i : Int)) σ' H' fun σ2 H2 => tb { D with nx := Pv (i + 1), ct := Pv (i + 1), bk := D.nx } σ2 H2) ∧ ∀ σ' H', Pv n σ' H' → D.nx σ' H'
theorem for_range_at {ta : TA} {n : Nat} {H1 : Hp} (hn : n < 2 ^ 62) (h : ∀ R : List V → Hp → Prop, R [.int (n : Int)] H1 → ta σ H R) (k : LoopR g tb D σ H1 n) : tFor (iRng1 ta) g tb D σ H := by
  obtain ⟨Pv, h0, hs, hd⟩ := k
  refine h _ ⟨(n : Int), rfl, by omega, by omega, ?_⟩
  rw [Int.toNat_natCast]
  exact for_range (lo := 0) Pv h0 (fun i σ' H' hi hP => by rw [Int.zero_add]; exact hs i σ' H' hi hP) hd
/-- for c in a text -/
def LoopS (g : TG) (tb : TS) (D : Ends) (σ : L2.St) (H : Hp) (a : List Nat) : Prop := ∃ Pv : Nat → L2.St → Hp → Prop, Pv 0 σ H ∧
  (∀ i c σ' H', a[i]? = some c → Pv i σ' H' → g (.str (SX.S [c])) σ' H' fun σ2 H2 => tb { D with nx := Pv (i + 1), ct := Pv (i + 1), bk := D.nx } σ2 H2) ∧ ∀ σ' H', Pv a.length σ' H' → D.nx σ' H'
theorem for_str_at {te : TE} {a : List Nat} {H1 : Hp} (h : ∀ R : VK, R (.str (SX.S a)) H1 → te σ H R) (k : LoopS g tb D σ H1 a) : tFor (iStr te) g tb D σ H := by
  obtain ⟨Pv, h0, hs, hd⟩ := k
  refine h _ ⟨SX.S a, rfl, for_it walk_str Pv h0 (fun _ _ _ _ _ => trivial) ?_ ?_⟩
  · rintro i x σ' H' H2 hi hP ⟨rfl, c, hc, rfl⟩
    exact hs i c σ' H2 (by simpa using hc) hP
  · intro σ' H' hP
    exact hd σ' H' (by simpa using hP)
end
section
variable {g : TG} {tb : TS} {D : Ends} {σ : L2.St} {H : Hp}
/-- for k in a dict that is locked -/
def LoopK (g : TG) (tb : TS) (D : Ends) (σ : L2.St) (H : Hp) (d : Addr) (o : Obj) (kvs : List (Key × V)) : Prop := ∃ Pv : Nat → L2.St → Hp → Prop, Pv 0 σ H ∧ (∀ i σ' H', i ≤ kvs.length → Pv i σ' H' → H' d = some (.frz o (.dK kvs))) ∧
  (∀ i k v σ' H', kvs[i]? = some (k, v) → Pv i σ' H' → g (kV k) σ' H' fun σ2 H2 => tb { D with nx := Pv (i + 1), ct := Pv (i + 1), bk := D.nx } σ2 H2) ∧ ∀ σ' H', Pv kvs.length σ' H' → D.nx σ' H'
theorem for_keys_at {td : TE} {d : Addr} {o : Obj} {kvs : List (Key × V)} (h : ∀ R : VK, R (.ref d) H → td σ H R) (hd : H d = some (.frz o (.dK kvs))) (k : LoopK g tb D σ H d o kvs) : tFor (iKeys td) g tb D σ H := by
  obtain ⟨Pv, h0, hl, hs, hn⟩ := k
  refine h _ ⟨d, o, rfl, .inl ⟨kvs, hd, for_it walk_keys Pv h0 hl ?_ hn⟩⟩
  rintro i x σ' H' H2 hi hP ⟨rfl, k, v, hkv, rfl⟩
  exact hs i k v σ' H2 hkv hP
end
section
variable {K : PySem.W.Frag} {x : V} {t T : String} {H : Hp} {A B : Hp → Prop}
theorem isi_t (k : Kd K H x t) (h : A H) (e : isaB t T = true := by decide) (hT : T ∈ kinds := by decide) : rIsB K [x, .ty T] H (fun z H1 => ∃ c, z = V.bl c ∧ if c = true then A H1 else B H1) :=
  rIsB_i k ⟨_, rfl, by rw [if_pos e]; exact h⟩ hT
theorem isi_f (k : Kd K H x t) (h : B H) (e : isaB t T = false := by decide) (hT : T ∈ kinds := by decide) : rIsB K [x, .ty T] H (fun z H1 => ∃ c, z = V.bl c ∧ if c = true then A H1 else B H1) :=
  rIsB_i k ⟨_, rfl, by rw [if_neg (by rw [e]; decide)]; exact h⟩ hT
theorem isi_nt (k : Kd K H x t) (h : B H) (e : isaB t T = true := by decide) (hT : T ∈ kinds := by decide) : rIsB K [x, .ty T] H (fun z H1 => ∃ c, z = V.bl c ∧ if (!c) = true then A H1 else B H1) :=
  rIsB_i k ⟨_, rfl, by rw [if_neg (by rw [e]; decide)]; exact h⟩ hT
theorem isi_nf (k : Kd K H x t) (h : A H) (e : isaB t T = false := by decide) (hT : T ∈ kinds := by decide) : rIsB K [x, .ty T] H (fun z H1 => ∃ c, z = V.bl c ∧ if (!c) = true then A H1 else B H1) :=
  rIsB_i k ⟨_, rfl, by rw [if_pos (by rw [e]; decide)]; exact h⟩ hT
end
end Lay

set_option Elab.async false
set_option linter.all false
set_option maxRecDepth 100000
set_option maxHeartbeats 4000000
/-! LayL: defs that raise own errors, called by their names -/
namespace Lay
open PySem PySem.Spec PyProof.Rows L2
structure CalN (P : Program) (w : World) (K : PySem.W.Frag) (mg : Str → Option Value) (base : Heap) (k : Nat) (x : Str) (sp : Sp) : Prop where
  ex : ∃ (f : Addr) (fd : FuncData) (ps : List Str), FnOk P w K mg base (L2N.CX P w) k f fd ps sp ∧ mg x = some (.ref f) ∧ PySem.W.keepIn K (.ref f) = true ∧ Binds K fd ps []
theorem calN {P : Program} {w : World} {K : PySem.W.Frag} {mg : Str → Option Value} {base : Heap} {x : Str} {params : Arguments} {body : List Stmt} {scope : Scope} {f : Addr} {fd : FuncData} {N ps : List Str} {k : Nat} {sp : Sp}
    (F : FunD K x x params body scope [] [] f fd) (g : mg x = some (.ref f)) (S : FnScope N ps scope)
    (b : ∀ (kV doc pm : Value) (an : Option Addr) (cdv ct : Value) (us : List Value), us.length = ps.length → bindArgs (PySem.W.fnOf x x params body scope .none kV doc pm an cdv ct) ⟨us, []⟩ = pure (ps.zip us)) (len : ∀ vs H Q E, sp vs H Q E → vs.length = ps.length)
    (inside : ∀ (cdv : Value) (A : Around) (outer : List Env) (s : Shared) (H : Hp) (vs : List V) (Q : VK) (E : XK), Room k (A.deeper (envOfC x scope s.heap.objs.size f cdv)) → sp vs H Q E →
      ∃ t, PSs (cxOf (L2N.CX P w) P w K mg base N x scope f cdv A outer s H E) body t ∧ t { nx := fun _ H' => Q .non H', rt := Q } (L2.start N vs) H) : CalN P w K mg base (k + 1) x sp :=
  ⟨f, fd, ps, F.ok S len inside, g, F.kp, F.bindsN b⟩
theorem pe_cN {X : Cx} {k j : Nat} {x : Str} {sp : Sp} {p pos : Pos} {e : Expr} {es : List Expr} {t : TA} {W : WX} (c : CalN X.prog X.w X.K X.mg X.base k x sp) (hr : Room j X.A) (hk : k ≤ j) (hg : Gl X x) (tk : L2N.Takes X W) (ha : PA X (e :: es) t)
    (hdb : (x == ("__debug__" : Str)) = false := by decide) (he : starEach (e :: es) X.env = (false, eval e X.env) :: starEach es X.env := by rfl) (hpl : (backTo pos (starEach es X.env)).any (·.1) = false := by rfl) :
    PE X (.Call (.Name x p) (e :: es) [] pos) (tCallS sp (WE W) t) := by
  obtain ⟨f, fd, ps, F, hm, kp, b⟩ := c.ex
  exact pe_callS F (hr.mono hk) hg hm kp b (fun σ => L2N.passAt tk σ) ha hdb he hpl
/-- where a def with L2N's exceptions stands -/
theorem takesN {P : Program} {w : World} {K : PySem.W.Frag} {mg : Str → Option Value} {base : Heap} {N : List Str} {qual : Str} {scope : Scope} {f : Addr} {cd : Value} {A : Around} {outer : List Env} {s : Shared} {H : Hp} {E : XK} :
    L2N.Takes (cxOf (L2N.CX P w) P w K mg base N qual scope f cd A outer s H E) (fun cls d _ H => E cls d H) := L2N.takes_of rfl rfl rfl rfl
theorem takesL {P : Program} {w : World} {X : Cx} {A : Around} {outer : List Env} {s : Shared} {H : Hp} {E : XK} {scope : Scope} {f c' : Addr} (hp : X.prog = P) (hw : X.w = w) : L2N.Takes (lamCxN (L2N.CX P w) X A outer s H E scope f c') (fun cls d _ H => E cls d H) := by
  subst hp hw
  exact L2N.takes_of rfl rfl rfl rfl
/-- defs that are handed the handled exception, by their names -/
structure CalE (P : Program) (w : World) (K : PySem.W.Frag) (mg : Str → Option Value) (base : Heap) (k : Nat) (x : Str) (sp : Addr × Obj → Sp) : Prop where
  ex : ∃ (f : Addr) (fd : FuncData) (ps : List Str), FnE P w K mg base C8.CX0 k f fd ps sp ∧ mg x = some (.ref f) ∧ PySem.W.keepIn K (.ref f) = true ∧ Binds K fd ps []
theorem calE {P : Program} {w : World} {K : PySem.W.Frag} {mg : Str → Option Value} {base : Heap} {x : Str} {params : Arguments} {body : List Stmt} {scope : Scope} {f : Addr} {fd : FuncData} {N ps : List Str} {k : Nat} {sp : Addr × Obj → Sp}
    (F : FunD K x x params body scope [] [] f fd) (g : mg x = some (.ref f)) (S : FnScope N ps scope)
    (b : ∀ (kV doc pm : Value) (an : Option Addr) (cdv ct : Value) (us : List Value), us.length = ps.length → bindArgs (PySem.W.fnOf x x params body scope .none kV doc pm an cdv ct) ⟨us, []⟩ = pure (ps.zip us)) (len : ∀ p vs H Q E, sp p vs H Q E → vs.length = ps.length)
    (inside : ∀ (p : Addr × Obj) (cdv : Value) (A : Around) (outer : List Env) (s : Shared) (H : Hp) (vs : List V) (Q : VK) (E : XK), L2H.Hot1 A p → L2H.RoomH k (A.deeper (envOfC x scope s.heap.objs.size f cdv)) → sp p vs H Q E →
      ∃ t, PSs (L2H.cxH C8.CX0 P w K mg base N x scope f cdv A outer s H E p) body t ∧ t { nx := fun _ H' => Q .non H', rt := Q } (L2.start N vs) H) : CalE P w K mg base (k + 1) x sp := by
  refine ⟨f, fd, ps, ?_, g, F.kp, F.bindsN b⟩
  obtain ⟨oc, od, dV, kV, doc, pm, an, cdv, ct, osl, rfl, lk, hcd, _, _⟩ := F.ex
  exact fn_ofE lk hcd S len fun p A outer s H vs Q E hot room prom => inside p cdv A outer s H vs Q E hot room prom
theorem hasP_cx {CX : CXT} {P : Program} {w : World} {K : PySem.W.Frag} {mg : Str → Option Value} {base : Heap} {N : List Str} {qual : Str} {scope : Scope} {f : Addr} {cd : Value} {A : Around} {outer : List Env} {s : Shared} {H : Hp} {E : XK} {p : Addr × Obj} (h : L2H.Hot1 A p) :
    HasP (L2H.cxH CX P w K mg base N qual scope f cd A outer s H E p) p := ⟨⟨h.1, h.2⟩, List.mem_singleton.mpr rfl⟩
theorem pe_cE {X : Cx} {k j : Nat} {x : Str} {sp : Addr × Obj → Sp} {q pos : Pos} {e : Expr} {es : List Expr} {t : TA} {p : Addr × Obj} (c : CalE X.prog X.w X.K X.mg X.base k x sp) (hr : L2H.RoomH j X.A) (hk : k ≤ j) (hp : HasP X p) (hg : Gl X x) (ha : PA X (e :: es) t)
    (hdb : (x == ("__debug__" : Str)) = false := by decide) (he : starEach (e :: es) X.env = (false, eval e X.env) :: starEach es X.env := by rfl) (hpl : (backTo pos (starEach es X.env)).any (·.1) = false := by rfl) :
    PE X (.Call (.Name x q) (e :: es) [] pos) (tCallS (sp p) (fun _ => C8.E0) t) := by
  obtain ⟨f, fd, ps, F, hm, kp, b⟩ := c.ex
  exact pe_callE F (hr.mono hk) hp hg hm kp b (fun σ _ _ _ _ _ _ h => h.elim) ha hdb he hpl
/-- the same for a def without an exception in its hands: FnE by what it promises anywhere -/
structure CalL (P : Program) (w : World) (K : PySem.W.Frag) (mg : Str → Option Value) (base : Heap) (k j : Nat) (x : Str) (SP : (Hp → VK → XK → Prop) → Sp) : Prop where
  ex : ∃ (f : Addr) (fd : FuncData) (ps : List Str), FnL P w K mg base C8.CX0 (L2N.CX P w) k j f fd ps SP ∧ mg x = some (.ref f) ∧ PySem.W.keepIn K (.ref f) = true ∧ Binds K fd ps []
theorem calL {P : Program} {w : World} {K : PySem.W.Frag} {mg : Str → Option Value} {base : Heap} {x : Str} {params : Arguments} {body : List Stmt} {scope : Scope} {f : Addr} {fd : FuncData} {N ps : List Str} {k j : Nat} {SP : (Hp → VK → XK → Prop) → Sp}
    (F : FunD K x x params body scope [] [] f fd) (g : mg x = some (.ref f)) (S : FnScope N ps scope)
    (b : ∀ (kV doc pm : Value) (an : Option Addr) (cdv ct : Value) (us : List Value), us.length = ps.length → bindArgs (PySem.W.fnOf x x params body scope .none kV doc pm an cdv ct) ⟨us, []⟩ = pure (ps.zip us)) (len : ∀ spL vs H Q E, SP spL vs H Q E → vs.length + 1 = ps.length)
    (inside : ∀ (cdv : Value) (A : Around) (outer : List Env) (s : Shared) (H : Hp) (vs : List V) (fl : Addr) (spL : Hp → VK → XK → Prop) (Q : VK) (E : XK), Room k (A.deeper (envOfC x scope s.heap.objs.size f cdv)) → LamOk P w K mg base (L2N.CX P w) j (frs outer) s H fl spL → SP spL vs H Q E →
      ∃ t, PSs (cxOf C8.CX0 P w K mg base N x scope f cdv A outer s H E).nox body t ∧ t { nx := fun _ H' => Q .non H', rt := Q } (L2.start N (.ref fl :: vs)) H) : CalL P w K mg base (k + 1) j x SP := by
  refine ⟨f, fd, ps, ?_, g, F.kp, F.bindsN b⟩
  obtain ⟨oc, od, dV, kV, doc, pm, an, cdv, ct, osl, rfl, lk, hcd, _, _⟩ := F.ex
  refine fn_ofL lk hcd S len fun A outer s H vs fl spL Q E room l prom => ?_
  obtain ⟨t, walk, q⟩ := inside cdv A outer s H vs fl spL Q E room l prom
  exact ⟨t, walk.nox, q⟩
/-- a(), a the local that bears the lambda; its exceptions are those that are wished here -/
def tActW (i : Nat) (fl : Addr) (spL : Hp → VK → XK → Prop) (W : WX) : TE := fun σ H Q => ∃ Ech : XK, (∀ cls d H', Ech cls d H' → W cls d σ H') ∧ σ[i]? = some (some (.ref fl)) ∧ spL H Q Ech
theorem pe_actW {X : Cx} {W : WX} {j i : Nat} {a : Str} {f : Addr} {spL : Hp → VK → XK → Prop} {p1 p2 : Pos} (hex : X.ex = []) (l : LamOk X.prog X.w X.K X.mg X.base (L2N.CX X.prog X.w) j X.fs X.s_0 X.H_0 f spL) (room : Room j X.A) (tk : L2N.Takes X W)
    (hN : X.N[i]? = some a) (hv : Vis X.env.scope a) (hd : (a == ("__debug__" : Str)) = false := by decide) (hcd : (a == ("__classdict__" : Str)) = false := by decide) :
    PE X (.Call (.Name a p1) [] [] p2) (tActW i f spL W) := by
  constructor
  rintro pins s σ H Q I ⟨Ech, hW, hs, prom⟩
  refine wpAny_Call_Name_kw (thn ((pe_var (pos := p1) (i := i) hN hv hd hcd).run pins s σ H (fun v H1 => v = .ref f ∧ H1 = H) I ⟨.ref f, hs, rfl, rfl⟩) ?_)
  rintro u s1 ⟨v, H1, I1, r1, rfl, rfl⟩
  obtain rfl : u = Value.ref f := r1
  obtain ⟨at_f, runs⟩ := lam_inner hex I1 l X.A X.stack s1 H1 Q Ech room I1.env0 Un.refl prom
  refine PySem.W.callWith_F0 at_f (wpAny_call (codeAny_mono runs ?_))
  rintro (er | _ | _ | _ | w) s' out
  all_goals first
    | exact tk _ s' (L2N.XE.of_call I1 hW out)
    | exact I1.after out
    | exact False.elim out
theorem takes_no {X : Cx} : L2N.Takes X (fun _ _ _ _ => False) := fun _ _ x => by
  obtain ⟨_, _, _, _, _, _, _, _, _, _, _, _, _, _, _, _, z⟩ := x
  exact z.elim
end Lay

set_option Elab.async false
set_option linter.all false
set_option maxRecDepth 100000
set_option maxHeartbeats 4000000
/-! LayM: one sign many times; the drawing laws' bag -/
namespace Lay
open PySem PySem.Spec PyProof.Rows L2
open SX (S S_len)
theorem fold_rep (c : Nat) : ∀ (n : Nat) (acc : Array Nat), (List.replicate n (#[c] : Array Nat)).foldl (· ++ ·) acc = acc ++ (List.replicate n c).toArray
  | 0, acc => by simp
  | n + 1, acc => by
    rw [List.replicate_succ, List.foldl_cons, fold_rep c n, List.replicate_succ]
    apply Array.ext'
    simp
/-- 'x' * n -/
def rRepS : R2 := fun x y H Q => ∃ (c : Nat) (n : Nat), x = .str (S [c]) ∧ y = .int (n : Int) ∧ 2 ≤ n ∧ n ≤ 1000000 ∧ Q (.str (S (List.replicate n c))) H
theorem op_repS {X : Cx} : OpR X (binaryOp .Mult) rRepS := by
  rintro pins s σ H x y v u Q I rx ry ⟨c, n, rfl, rfl, h2, hm, q⟩
  obtain ⟨t, rfl⟩ := rx
  obtain ⟨t', rfl⟩ := ry
  have l1 : (S [c]).length = 1 := S_len _
  refine P.mul_str ?_ ?_ ?_ ?_
  · rw [decide_eq_false (show ¬ (n : Int) < -(2 ^ 63) by omega), decide_eq_false (show ¬ (n : Int) ≥ 2 ^ 63 by omega)]
    rfl
  · intro _ _ z
    rw [l1] at z
    have : (2 : Int) ^ 63 - 1 = 9223372036854775807 := by decide
    rw [this] at z
    have e : (1 : Int) ≤ 9223372036854775807 / (n : Int) := (Int.le_ediv_iff_mul_le (by omega)).mpr (by omega)
    have z : (1 : Int) > 9223372036854775807 / (n : Int) := z
    omega
  · intro _ _
    rw [l1]
    refine decide_eq_false fun z => ?_
    have : (16777216 : Nat) < 1 * ((n : Int)).toNat := by
      have := sizeLine_eq
      omega
    omega
  · rw [if_neg (by omega), if_neg (by
      rw [l1]
      have : ((n : Int) == 1) = false := by
        rw [beq_eq_false_iff_ne]
        omega
      rw [this]
      decide)]
    have e : (⟨(List.replicate ((n : Int)).toNat (S [c]).cps).foldl (· ++ ·) #[]⟩ : Str) = S (List.replicate n c) := by
      have := fold_rep c n #[]
      rw [Int.toNat_natCast]
      show (⟨_⟩ : Str) = ⟨_⟩
      congr 1
      rw [show (S [c]).cps = (#[c] : Array Nat) from rfl, this]
      simp
    rw [e]
    refine ⟨?_, ⟨.str _, H, I.tok _, ⟨_, rfl⟩, q⟩⟩
    rw [S_len, List.length_replicate, sizeLine_eq]
    omega
/-- for k in range(e), e not known beforehand -/
theorem for_range_any {g : TG} {tb : TS} {D : Ends} {σ : L2.St} {H : Hp} {ta : TA} {Pn : Nat → Hp → Prop} (h : ∀ R : List V → Hp → Prop, (∀ n H1, Pn n H1 → R [.int (n : Int)] H1) → ta σ H R) (k : ∀ n H1, Pn n H1 → n < 2 ^ 62 ∧ LoopR g tb D σ H1 n) : tFor (iRng1 ta) g tb D σ H := by
  refine h _ fun n H1 p => ?_
  obtain ⟨hn, Pv, h0, hs, hd⟩ := k n H1 p
  refine ⟨(n : Int), rfl, by omega, by omega, ?_⟩
  rw [Int.toNat_natCast]
  exact for_range (lo := 0) Pv h0 (fun i σ' H' hi hP => by rw [Int.zero_add]; exact hs i σ' H' hi hP) hd
/-! ### the bag -/
/-- the bag at b: what is drawn from, the place in it, the number that is eaten up, the mixed number, two counts -/
def Bag (H : Hp) (b : Addr) : Prop := ∃ (l : Addr) (ns : List Int) (pos : Nat) (big mixed cnt left : Int), H b = some (.lst [.ref l, .int (pos : Int), .int big, .int mixed, .int cnt, .int left]) ∧ H l = some (.lst (ns.map V.int)) ∧ l ≠ b ∧ 0 ≤ mixed ∧ mixed < 2147483549
/-- all but the bag stays -/
structure Ex (b : Addr) (H H' : Hp) : Prop where
  keep : ∀ a o, a ≠ b → H a = some o → H' a = some o
  bag : Bag H' b
theorem Ex.trans {b : Addr} {H H1 H2 : Hp} (x : Ex b H H1) (y : Ex b H1 H2) : Ex b H H2 := ⟨fun a o n e => y.keep a o n (x.keep a o n e), y.bag⟩
theorem Bag.same {b : Addr} {H H' : Hp} (g : Bag H b) (e : Same H H') : Bag H' b := by
  obtain ⟨l, ns, pos, big, mixed, cnt, left, h1, h2, h3⟩ := g
  exact ⟨l, ns, pos, big, mixed, cnt, left, e _ _ h1, e _ _ h2, h3⟩
theorem Ex.of {b : Addr} {H H' : Hp} (g : Bag H b) (e : Same H H') : Ex b H H' := ⟨fun a o _ h => e a o h, g.same e⟩
theorem Ex.more {b : Addr} {H H1 H2 : Hp} (x : Ex b H H1) (e : Same H1 H2) : Ex b H H2 := x.trans (Ex.of x.bag e)
theorem Bag.at {b : Addr} {H : Hp} (g : Bag H b) : ∃ xs, H b = some (.lst xs) ∧ xs.length = 6 := by
  obtain ⟨l, ns, pos, big, mixed, cnt, left, h1, _⟩ := g
  exact ⟨_, h1, rfl⟩
theorem Ex.free {b a : Addr} {H H' : Hp} (x : Ex b H H') (hb : ∃ o, H b = some o) (h : H' a = none) : H a = none := by
  cases e : H a with
  | none => rfl
  | some o =>
    by_cases n : a = b
    · subst n
      obtain ⟨xs, h1, _⟩ := x.bag.at
      rw [h] at h1
      cases h1
    · rw [x.keep a o n e] at h
      cases h
/-- a cut behind a statement -/
theorem seq_cut {t u : TS} {D : Ends} {σ : L2.St} {H : Hp} (Pq : L2.St → Hp → Prop) (h : ∀ D' : Ends, D'.rt = D.rt → (∀ σ' H', Pq σ' H' → D'.nx σ' H') → t D' σ H) (k : ∀ σ' H', Pq σ' H' → u D σ' H') : tSeq t u D σ H := h _ rfl k
end Lay

set_option Elab.async false
set_option linter.all false
set_option maxRecDepth 100000
set_option maxHeartbeats 0
/-! the top of k17: where its defs and classes stand -/
namespace W17
open PySem PySem.Spec PyProof.Rows L2
def top (i : Nat) : Stmt := PySem.Challenge.pw_waysacross_k17_numbers.main.body.getD i (.Pass ⟨0, 0, 0, 0⟩)
def defD (x : Str) (i : Nat) : He.DefD := ⟨(x, none), x, x, defArgs (top i), defBody (top i), defScope (top i), [], []⟩
/-- the defs, by their places in the top -/
def fns : List He.DefD := [defD "is_whole" 20, defD "is_lowest" 21, defD "whole_of" 22, defD "ratio_of" 23, defD "ratio_text" 24, defD "read_number" 26, defD "number_text" 27,
  defD "_law_bag" 29, defD "_law_draw" 30, defD "_law_of" 31, defD "_law_like" 32, defD "_law_gcd" 33, defD "_law_frac" 34, defD "_law_wrote" 35, defD "_law_read" 36, defD "_law_classes" 37, defD "_law_caught" 38,
  defD "_law_tried" 40, defD "_law_whole" 41, defD "_law_string" 42, defD "_law_bent_string" 43, defD "_law_long" 44, defD "_law_value" 45, defD "_law_number_of" 46, defD "law" 47,
  ⟨("BadNumber", some "__init__"), "__init__", "BadNumber.__init__", defArgs (inClass (top 9) 0), defBody (inClass (top 9) 0), defScope (inClass (top 9) 0), [], []⟩]
/-- the own exceptions -/
def excs : List Str := ["BadBook", "BadTree", "BadForm", "BadPaper", "BadDrawing", "BadScript", "BadPart", "BadNumber", "BadLot", "NotOne", "Lied", "Unlike", "TooMany", "NoSuch", "Ended"]
def fas : List He.Fa := (fns.map fun d => He.Fa.glo d.at_.1) ++ (excs.map fun x => He.Fa.glo x) ++
  ((["isinstance", "len", "int", "str", "list", "tuple", "dict", "bool", "abs", "range", "ValueError", "LookupError", "RuntimeError", "KeyError", "IndexError"] : List Str).map fun x => He.Fa.free x) ++
  [.int "MOST_DIGITS" 4000, .str "DIGITS" "0123456789", .keep "BadNumber"]
/-- the class at C is an exception's over ValueError with an own __init__ -/
def oexB (K : PySem.W.Frag) (C : Addr) : Bool := match K.lookup C with
  | some ⟨.type t, _, .cls cd, sl⟩ => (match cd.mro, sl.toList with
    | .ref C' :: bm, [_, _, _, _, some (.builtin n), _] => decide (t = "type") && (decide (C' = C) && (decide (n = "ValueError.__new__") && (!cd.hasDel && (cd.hasDict && PySem.HandSPX.refsVE bm))))
    | _, _ => false)
  | _ => false
def exB (K : PySem.W.Frag) : Bool :=
  oexB K (He.ga K "BadNumber") && (xfB K (He.ga K "BadNumber") && (decide (PySem.W.findIn K (.ref (He.ga K "BadNumber")) "value" = some none) &&
  (decide (PySem.W.findIn K (.ref (He.ga K "BadNumber")) "__setattr__" = some (some (.builtin "object.__setattr__"))) && (decide (PySem.W.typeIn K (.ref (He.ga K "BadNumber")) = some (.type "type")) &&
  (decide (PySem.W.findIn K (.ref (He.ga K "BadNumber")) "__init__" = some (some (.ref (He.fAd K ("BadNumber", some "__init__"))))) && (decide (PySem.W.typeIn K (.ref (He.fAd K ("BadNumber", some "__init__"))) = some (.type "function")) &&
  (decide (PySem.W.findIn K (.ref (He.ga K "BadNumber")) "__class__" = some (some (.builtin "object.__class__"))) && (decide (PySem.W.specialIn K (.builtin "object.__class__") "__get__" = some (some (.builtin "getset_descriptor.__get__"))) &&
  (decide (PySem.W.takesIn K (.builtin "object.__class__") = some true) && (decide (PySem.W.mroIn K (He.ga K "BadNumber") (.type "object") = some true) &&
  (decide (PySem.W.nsIn K mainGlobals "gcd" = some (some (.builtin "math.gcd"))) && (decide (PySem.W.nsIn K cStatics "sys.int_max_str_digits" = some none) &&
  ((excs.all fun x => decide (PySem.W.exmOne K (.ref (He.ga K "BadNumber")) (.ref (He.ga K x)) = some (decide (x = "BadNumber"))) && decide (PySem.W.kitOne K (.ref (He.ga K "BadNumber")) (.ref (He.ga K x)) = some (decide (x = "BadNumber")))) &&
  (["KeyError", "ValueError", "LookupError", "RuntimeError", "IndexError"] : List String).all fun x => decide (PySem.W.kitOne K (.ref (He.ga K "BadNumber")) (.type x) = some (decide (x = "ValueError"))))))))))))))))
def tfs : List He.Defn := [("law", none)]
/-! the Hook: what the module's names reach, and the statics -/
def asS (g : Addr → Option Obj) (n : Nat) : List Addr := cStatics :: He.asD g n
def obsS (g : Addr → Option Obj) : He.AlX := (He.obsT fas fns [] (He.frT g (asS g 5)), exB (He.frT g (asS g 5)) && He.tabsB g tfs (He.frT g (asS g 5)))
theorem saysS_of {w : World} {h : Heap} (e : obsS h.get? = He.valX fns [] w) : He.SaysX fas fns [] tfs exB w h (He.frT h.get? (asS h.get? 5)) := by
  have e1 : He.obsT fas fns [] (He.frT h.get? (asS h.get? 5)) = He.valT fns [] w := congrArg (fun z : He.AlX => z.1) e
  have e2 : (exB (He.frT h.get? (asS h.get? 5)) && He.tabsB h.get? tfs (He.frT h.get? (asS h.get? 5))) = true := congrArg (fun z : He.AlX => z.2) e
  obtain ⟨h1, h2⟩ := He.ba e2
  have key : ∀ p ∈ tfs, PySem.W.codeHdIn (He.frT h.get? (asS h.get? 5)) (He.cT (He.frT h.get? (asS h.get? 5)) p).1 (He.cT (He.frT h.get? (asS h.get? 5)) p).2 = true ∧ ∃ o, h.get? (He.cT (He.frT h.get? (asS h.get? 5)) p).2 = some o ∧ He.emptyTab o = true := fun p hp => by
    obtain ⟨h3, h4⟩ := He.ba (List.all_eq_true.mp h2 p hp)
    refine ⟨h3, ?_⟩
    cases q : h.get? (He.cT (He.frT h.get? (asS h.get? 5)) p).2 with
    | none =>
      rw [q] at h4
      cases h4
    | some o =>
      rw [q] at h4
      exact ⟨o, rfl, h4⟩
  exact ⟨e1, h1, fun p hp => (key p hp).1, fun p hp => by
    obtain ⟨_, o, q, z⟩ := key p hp
    exact He.frT_none q z, fun p hp => by
    obtain ⟨_, o, q, z⟩ := key p hp
    rw [q, He.emptyTab_eq z]⟩
def hkS : PySem.W.Hook where
  α := He.AlX
  obs := fun s => obsS s.heap.get?
  val := fun w => He.valX fns [] w
  says := fun w h => ∃ K : PySem.W.Frag, K.In h ∧ He.SaysX fas fns [] tfs exB w h K
  of := fun _ _ e => ⟨_, He.frT_in, saysS_of e⟩
  keeps := fun _ _ _ ⟨K, hK, c⟩ k => ⟨K, PySem.W.Frag.In.keeps hK k, ⟨c.t, c.more, c.hd, c.out, fun p hp => k _ _ (c.empty p hp)⟩⟩
abbrev R : PySem.W.OpenRow := PySem.W.OpenLaw.row PySem.Challenge.rw_waysacross_k17_numbers
def ob (s : PySem.W.SharedT) : He.AlX := obsS (HandSHeadRun.getT s)
theorem ob_eq (s : PySem.W.SharedT) : ob s = hkS.obs s.abs := by
  show obsS (HandSHeadRun.getT s) = obsS s.abs.heap.get?
  rw [show HandSHeadRun.getT s = s.abs.heap.get? from funext (HandSHeadRun.getT_eq s)]
def loose1 : List Str := ["__name__", "BadBook", "BadTree", "BadForm", "BadPaper", "BadDrawing", "BadScript", "BadPart", "BadNumber", "BadLot", "NotOne", "Lied", "Unlike", "TooMany", "NoSuch", "Ended", "MOST_DIGITS", "DIGITS", "is_whole", "is_lowest", "whole_of"]
def loose2 : List Str := ["ratio_of", "ratio_text", "read_number", "number_text", "_law_bag", "_law_draw", "_law_of", "_law_like", "_law_gcd", "_law_frac", "_law_wrote", "_law_read", "_law_classes", "_law_caught", "_law_why", "_law_tried", "_law_whole", "_law_string", "_law_bent_string", "_law_long", "_law_value", "_law_number_of"]
def loose : List Str := loose1 ++ loose2
theorem run (w : World) : HandSHeadRun.RunEqI R (PySem.W.view R.prog [0, 47]) hkS ob 5000 loose w := by
  unfold HandSHeadRun.RunEqI
  kernel_rfl
end W17

set_option Elab.async false
set_option linter.all false
set_option maxRecDepth 100000
set_option maxHeartbeats 4000000
/-! P17: numbers written as texts, in plain Lean (texts are lists of code points) -/
namespace P17
open PySem PySem.NumText SX
def dig (c : Nat) : Bool := decide (48 ≤ c) && decide (c ≤ 57)
/-- what whole_of tells -/
def wholeL (a : List Nat) : Option Nat := if a.length = 0 ∨ 4000 < a.length then none else if a.head? = some 48 ∧ 1 < a.length then none else if a.all dig = true then some (digitsVal a) else none
/-- the text cut at the first / -/
def cut : List Nat → List Nat × Option (List Nat)
  | [] => ([], none)
  | c :: r => if c = 47 then ([], some r) else (c :: (cut r).1, (cut r).2)
theorem cut_no : ∀ {a : List Nat}, (cut a).2 = none → (cut a).1 = a ∧ 47 ∉ a
  | [], _ => ⟨rfl, by simp⟩
  | c :: r, h => by
    unfold cut at h ⊢
    by_cases e : c = 47
    · rw [if_pos e] at h; cases h
    · rw [if_neg e] at h ⊢
      obtain ⟨h1, h2⟩ := cut_no (a := r) h
      exact ⟨by rw [h1], by simp [h2]; omega⟩
theorem cut_yes : ∀ {a t : List Nat}, (cut a).2 = some t → a = (cut a).1 ++ 47 :: t ∧ 47 ∉ (cut a).1
  | [], _, h => by cases h
  | c :: r, t, h => by
    unfold cut at h ⊢
    by_cases e : c = 47
    · rw [if_pos e] at h ⊢
      cases h
      exact ⟨by rw [e]; rfl, by simp⟩
    · rw [if_neg e] at h ⊢
      obtain ⟨h1, h2⟩ := cut_yes (a := r) h
      exact ⟨by rw [List.cons_append, ← h1], by simp [h2]; omega⟩
theorem cut_le : ∀ (a : List Nat), (cut a).1.length ≤ a.length ∧ ∀ t, (cut a).2 = some t → t.length ≤ a.length
  | [] => ⟨Nat.le_refl _, fun _ h => by cases h⟩
  | c :: r => by
    unfold cut
    by_cases e : c = 47
    · rw [if_pos e]
      exact ⟨Nat.zero_le _, fun t h => by cases h; simp⟩
    · rw [if_neg e]
      obtain ⟨h1, h2⟩ := cut_le r
      refine ⟨by simpa using h1, fun t h => ?_⟩
      have := h2 t h
      simp; omega
theorem cut_app : ∀ {a t : List Nat}, 47 ∉ a → cut (a ++ 47 :: t) = (a, some t)
  | [], _, _ => by simp [cut]
  | c :: r, t, h => by
    have h1 : c ≠ 47 := fun e => h (by rw [e]; exact List.mem_cons_self)
    have h2 : 47 ∉ r := fun e => h (List.mem_cons_of_mem _ e)
    rw [List.cons_append, cut, if_neg h1, cut_app h2]
theorem cut_free : ∀ {a : List Nat}, 47 ∉ a → cut a = (a, none)
  | [], _ => rfl
  | c :: r, h => by
    have h1 : c ≠ 47 := fun e => h (by rw [e]; exact List.mem_cons_self)
    have h2 : 47 ∉ r := fun e => h (List.mem_cons_of_mem _ e)
    rw [cut, if_neg h1, cut_free h2]
theorem part_cut (a : List Nat) : Txt.partition (S a) (S [47]) = (S (cut a).1, S (if (cut a).2.isSome = true then [47] else []), S ((cut a).2.getD [])) := by
  cases h : (cut a).2 with
  | none =>
    obtain ⟨h1, h2⟩ := cut_no h
    rw [partition_none (List.cons_ne_nil _ _) (par_head_none h2), h1] <;> rfl
  | some t =>
    obtain ⟨h1, h2⟩ := cut_yes h
    have e := partition_some (a := (cut a).1 ++ ([47] ++ t)) (b := [47]) (List.cons_ne_nil _ _) (par_head t h2)
    have e2 : (cut a).1 ++ ([47] ++ t) = a := h1.symm
    rw [e2] at e
    rw [e] <;> rfl
/-- what ratio_of tells -/
def readB (neg : Bool) (h : List Nat) (tail : Option (List Nat)) : Option (Int × Int) :=
  match wholeL h with
  | none => none
  | some top => if neg = true ∧ top = 0 then none else
    match tail with
    | none => some (if neg = true then -(top : Int) else top, 1)
    | some t => match wholeL t with
      | none => none
      | some bot => if bot < 2 ∨ Nat.gcd top bot ≠ 1 then none else some (if neg = true then -(top : Int) else top, (bot : Int))
def isNeg (a : List Nat) : Bool := decide (a.head? = some 45)
def bareP (a : List Nat) : List Nat := if isNeg a = true then a.drop 1 else a
def readP (a : List Nat) : Option (Int × Int) := readB (isNeg a) (cut (bareP a)).1 (cut (bareP a)).2
/-- digits that cannot stand -/
def bad (d : List Nat) : Bool := decide (d = []) || decide (4000 < d.length) || !d.all dig
/-- what the law's own reader tells -/
def readL (a : List Nat) : Option (Int × Int) :=
  let top := (cut a).1
  let bare := bareP top
  let under := (cut a).2.getD [49]
  if bad bare = true ∨ bad under = true then none
  else if (bare.head? = some 48 ∧ top ≠ [48]) ∨ ((cut a).2.isSome = true ∧ (under.head? = some 48 ∨ under = [49])) then none
  else if (cut a).2.isSome = true then (if Nat.gcd (digitsVal bare) (digitsVal under) ≠ 1 then none else some (if isNeg top = true then -(digitsVal bare : Int) else digitsVal bare, (digitsVal under : Int)))
  else some (if isNeg top = true then -(digitsVal bare : Int) else digitsVal bare, 1)
theorem cut_neg (a : List Nat) : isNeg (cut a).1 = isNeg a ∧ (cut (bareP a)).1 = bareP (cut a).1 ∧ (cut (bareP a)).2 = (cut a).2 := by
  cases a with
  | nil => exact ⟨rfl, rfl, rfl⟩
  | cons c r =>
    by_cases h : c = 45
    · subst h
      have e : cut (45 :: r) = (45 :: (cut r).1, (cut r).2) := by rw [cut, if_neg (by decide)]
      have n1 : isNeg (45 :: r) = true := by simp [isNeg]
      have n2 : isNeg (45 :: (cut r).1) = true := by simp [isNeg]
      refine ⟨by rw [e, n1, n2], ?_, ?_⟩
      · rw [e]
        simp only [bareP, n1, n2, if_true, List.drop_succ_cons, List.drop_zero]
      · rw [e]
        simp only [bareP, n1, if_true, List.drop_succ_cons, List.drop_zero]
    · have n1 : isNeg (c :: r) = false := by simp [isNeg, h]
      have n2 : isNeg (cut (c :: r)).1 = false := by
        unfold cut
        by_cases h2 : c = 47
        · rw [if_pos h2]; rfl
        · rw [if_neg h2]; simp [isNeg, h]
      refine ⟨by rw [n1, n2], ?_, ?_⟩
      · simp only [bareP, n1, n2, Bool.false_eq_true, if_false]
      · simp only [bareP, n1, Bool.false_eq_true, if_false]
theorem whole_none {d : List Nat} (h : bad d = true) : wholeL d = none := by
  unfold bad at h
  unfold wholeL
  simp only [Bool.or_eq_true, decide_eq_true_eq, Bool.not_eq_true'] at h
  rcases h with (h | h) | h
  · rw [if_pos (.inl (by rw [h]; rfl))]
  · rw [if_pos (.inr h)]
  · split
    · rfl
    · split
      · rfl
      · rw [if_neg (by rw [h]; decide)]
theorem whole_zero {d : List Nat} (h : d.head? = some 48) (h2 : 1 < d.length) : wholeL d = none := by
  unfold wholeL
  split
  · rfl
  · rw [if_pos ⟨h, h2⟩]
theorem whole_some {d : List Nat} (h : bad d = false) (h2 : ¬ (d.head? = some 48 ∧ 1 < d.length)) : wholeL d = some (digitsVal d) := by
  unfold bad at h
  simp only [Bool.or_eq_false_iff, decide_eq_false_iff_not, Bool.not_eq_false'] at h
  obtain ⟨⟨h3, h4⟩, h5⟩ := h
  unfold wholeL
  rw [if_neg (fun z => z.elim (fun q => h3 (List.length_eq_zero_iff.mp q)) h4), if_neg h2, if_pos h5]
theorem foldl_ge : ∀ (l : List Nat) (x : Nat), x ≤ l.foldl (fun acc c => acc * 10 + (c - 48)) x
  | [], x => Nat.le_refl _
  | c :: r, x => by
    rw [List.foldl_cons]
    exact Nat.le_trans (by omega) (foldl_ge r _)
theorem val_ge {c : Nat} {r : List Nat} (h : 49 ≤ c) : 0 < digitsVal (c :: r) ∧ (c :: r ≠ [49] → 2 ≤ digitsVal (c :: r)) := by
  refine ⟨digitsVal_pos h, fun ne => ?_⟩
  unfold digitsVal
  rw [List.foldl_cons]
  cases r with
  | nil =>
    simp only [List.foldl_nil]
    have : c ≠ 49 := fun e => ne (by rw [e])
    omega
  | cons d r =>
    rw [List.foldl_cons]
    exact Nat.le_trans (by omega) (foldl_ge r _)
theorem first {d : List Nat} (h : bad d = false) (h2 : d.head? ≠ some 48) : ∃ c r, d = c :: r ∧ 49 ≤ c := by
  unfold bad at h
  simp only [Bool.or_eq_false_iff, decide_eq_false_iff_not, Bool.not_eq_false'] at h
  obtain ⟨⟨h3, _⟩, h5⟩ := h
  cases d with
  | nil => exact absurd rfl h3
  | cons c r =>
    refine ⟨c, r, rfl, ?_⟩
    have : dig c = true := List.all_eq_true.mp h5 c List.mem_cons_self
    simp only [dig, Bool.and_eq_true, decide_eq_true_eq] at this
    have ne : c ≠ 48 := fun e => h2 (by rw [e]; rfl)
    omega
theorem one_zero {d : List Nat} (h : d.head? = some 48) (h2 : ¬ 1 < d.length) : d = [48] := by
  cases d with
  | nil => cases h
  | cons c r =>
    cases r with
    | nil => simpa using h
    | cons e r => simp at h2
theorem under_same (top : Nat) (t : List Nat) (s : Int) : (match wholeL t with
      | none => none
      | some bot => if bot < 2 ∨ Nat.gcd top bot ≠ 1 then none else some (s, (bot : Int))) =
    (if bad t = true then none else if t.head? = some 48 ∨ t = [49] then none else if Nat.gcd top (digitsVal t) ≠ 1 then none else some (s, (digitsVal t : Int))) := by
  cases bt : bad t with
  | true => rw [whole_none bt, if_pos rfl]
  | false =>
    rw [if_neg Bool.false_ne_true]
    by_cases zt : t.head? = some 48
    · rw [if_pos (.inl zt)]
      by_cases lt : 1 < t.length
      · rw [whole_zero zt lt]
      · rw [whole_some bt (fun z => lt z.2), one_zero zt lt]
        exact if_pos (.inl (by decide))
    · obtain ⟨c2, r2, e2, h2⟩ := first bt zt
      rw [whole_some bt (fun z => zt z.1)]
      by_cases one : t = [49]
      · rw [if_pos (.inr one), one]
        exact if_pos (.inl (by decide))
      · have big := (val_ge (r := r2) h2).2 (by rw [← e2]; exact one)
        rw [← e2] at big
        rw [if_neg (fun z => z.elim zt one)]
        by_cases g : Nat.gcd top (digitsVal t) = 1
        · rw [if_neg (not_not_intro g)]
          exact if_neg (fun z => z.elim (by omega) (fun q => q g))
        · rw [if_pos g]
          exact if_pos (.inr g)
theorem read_at (top : List Nat) (tail : Option (List Nat)) : readB (isNeg top) (bareP top) tail =
    (if bad (bareP top) = true ∨ bad (tail.getD [49]) = true then none
    else if ((bareP top).head? = some 48 ∧ top ≠ [48]) ∨ (tail.isSome = true ∧ ((tail.getD [49]).head? = some 48 ∨ tail.getD [49] = [49])) then none
    else if tail.isSome = true then (if Nat.gcd (digitsVal (bareP top)) (digitsVal (tail.getD [49])) ≠ 1 then none else some (if isNeg top = true then -(digitsVal (bareP top) : Int) else digitsVal (bareP top), (digitsVal (tail.getD [49]) : Int)))
    else some (if isNeg top = true then -(digitsVal (bareP top) : Int) else digitsVal (bareP top), 1)) := by
  have b2 : bad [49] = false := by decide
  unfold readB
  cases hb : bad (bareP top) with
  | true => rw [whole_none hb, if_pos (.inl rfl)]
  | false =>
    by_cases wrong : (bareP top).head? = some 48 ∧ top ≠ [48]
    · have e : (if bad (tail.getD [49]) = true then (none : Option (Int × Int)) else none) = none := by split <;> rfl
      have left : (match wholeL (bareP top) with
          | none => none
          | some n => if isNeg top = true ∧ n = 0 then none else
            match tail with
            | none => some (if isNeg top = true then -(n : Int) else n, 1)
            | some t => match wholeL t with
              | none => none
              | some bot => if bot < 2 ∨ Nat.gcd n bot ≠ 1 then none else some (if isNeg top = true then -(n : Int) else n, (bot : Int))) = none := by
        by_cases h1 : 1 < (bareP top).length
        · rw [whole_zero wrong.1 h1]
        · have e0 := one_zero wrong.1 h1
          rw [whole_some hb (fun z => h1 z.2)]
          refine if_pos ⟨?_, by rw [e0]; decide⟩
          cases hn : isNeg top with
          | true => rfl
          | false =>
            refine absurd ?_ wrong.2
            have : bareP top = top := by unfold bareP; rw [hn]; exact if_neg Bool.false_ne_true
            rw [← this]
            exact e0
      rw [left]
      split
      · rfl
      · rw [if_pos (.inl wrong)]
    · have fine : ¬ ((bareP top).head? = some 48 ∧ 1 < (bareP top).length) := fun z => by
        refine wrong ⟨z.1, fun q => ?_⟩
        rw [q] at z
        exact absurd z.2 (by decide)
      have nz : ¬ (isNeg top = true ∧ digitsVal (bareP top) = 0) := fun z => by
        by_cases hz : (bareP top).head? = some 48
        · have et : top = [48] := Classical.byContradiction fun q => wrong ⟨hz, q⟩
          rw [et] at z
          exact absurd z.1 (by decide)
        · obtain ⟨c, r, ec, hc⟩ := first hb hz
          have pos := (val_ge (r := r) hc).1
          rw [← ec] at pos
          omega
      rw [whole_some hb fine]
      refine (if_neg nz).trans ?_
      cases tail with
      | none => simp [wrong, b2]
      | some t =>
        refine (under_same (digitsVal (bareP top)) t _).trans ?_
        cases bt : bad t with
        | true => simp [bt]
        | false => simp [wrong, bt]
/-- both readers tell the same -/
theorem read_same (a : List Nat) : readP a = readL a := by
  obtain ⟨n1, n2, n3⟩ := cut_neg a
  unfold readP readL
  rw [n2, n3, ← n1]
  exact read_at _ _
end P17

set_option Elab.async false
set_option linter.all false
set_option maxRecDepth 100000
set_option maxHeartbeats 4000000
set_option exponentiation.threshold 5000
/-! Q17: what is written is read again -/
namespace P17
open PySem PySem.NumText SX PyProof.Rows
/-- the longest numbers that are read -/
def Lim : Nat := 10 ^ 4000
/-- str of an int -/
def intL (i : Int) : List Nat := if i < 0 then 45 :: TL.numL i.natAbs else TL.numL i.natAbs
theorem int_text (i : Int) : Str.ofString (toString i) = S (intL i) := by
  cases i with
  | ofNat m =>
    have e : intL (Int.ofNat m) = TL.numL m := by
      unfold intL
      rw [if_neg (by show ¬ ((m : Int) < 0); omega)]
      rfl
    rw [e]
    exact num_S m
  | negSucc m =>
    have e : intL (Int.negSucc m) = 45 :: TL.numL (m + 1) := by
      unfold intL
      rw [if_pos (Int.negSucc_lt_zero m)]
      rfl
    rw [e]
    refine TL.ext_tl ?_
    show (Str.ofString (toString (Int.negSucc m))).cps.toList = 45 :: TL.numL (m + 1)
    rw [signs_ofString]
    show (("-" ++ Nat.repr (m + 1) : String)).toList.map Char.toNat = _
    rw [String.toList_append, List.map_append, Nat.toList_repr]
    rfl
/-- a pair as it is written -/
def wroteL (p : Int × Int) : List Nat := if p.2 = 1 then intL p.1 else intL p.1 ++ 47 :: intL p.2
theorem num_len {n : Nat} (h : n < Lim) : (TL.numL n).length ≤ 4000 := TL.numL_len (k := 4000) (by decide) h
theorem num_head : ∀ (n : Nat), (TL.numL n).head? = some 48 → n = 0 := by
  intro n
  induction n using Nat.strongRecOn with
  | _ n ih =>
    intro h
    by_cases lt : n < 10
    · rw [TL.numL_lt lt] at h
      have : 48 + n = 48 := by simpa using h
      omega
    · rw [TL.numL_step (by omega)] at h
      have h2 : (TL.numL (n / 10)).head? = some 48 := by
        rw [List.head?_append] at h
        cases z : TL.numL (n / 10) with
        | nil => exact absurd z (TL.numL_ne _)
        | cons c r =>
          rw [z] at h
          simpa using h
      have := ih (n / 10) (by omega) h2
      omega
theorem num_digs (n : Nat) : (TL.numL n).all dig = true := by
  refine List.all_eq_true.mpr fun c hc => ?_
  have r := TL.numL_digits n c hc
  simp only [dig, Bool.and_eq_true, decide_eq_true_eq]
  omega
theorem whole_num {n : Nat} (h : n < Lim) : wholeL (TL.numL n) = some n := by
  have ln := num_len h
  have ne := TL.numL_ne n
  unfold wholeL
  rw [if_neg (fun z => z.elim (fun q => ne (List.length_eq_zero_iff.mp q)) (by omega)), if_neg (fun z => ?_), if_pos (num_digs n), TL.numL_val]
  have e := num_head n z.1
  rw [e] at z
  exact absurd z.2 (by rw [TL.numL_lt (by decide)]; decide)
/-- a number in lowest terms, not too long -/
structure Good (p : Int × Int) : Prop where
  pos : 1 ≤ p.2
  low : Nat.gcd p.1.natAbs p.2.natAbs = 1
  top : p.1.natAbs < Lim
  bot : p.2.natAbs < Lim
theorem neg_int (i : Int) : isNeg (intL i) = decide (i < 0) ∧ bareP (intL i) = TL.numL i.natAbs ∧ ∀ t, isNeg (intL i ++ t) = decide (i < 0) ∧ bareP (intL i ++ t) = TL.numL i.natAbs ++ t := by
  by_cases h : i < 0
  · have e : intL i = 45 :: TL.numL i.natAbs := if_pos h
    rw [e]
    refine ⟨by simp [isNeg, h], by simp [bareP, isNeg], fun t => ⟨by simp [isNeg, h], by simp [bareP, isNeg]⟩⟩
  · have e : intL i = TL.numL i.natAbs := if_neg h
    rw [e]
    have key : ∀ t, isNeg (TL.numL i.natAbs ++ t) = false := fun t => by
      cases z : TL.numL i.natAbs with
      | nil => exact absurd z (TL.numL_ne _)
      | cons c r =>
        have := TL.numL_digits i.natAbs c (by rw [z]; exact List.mem_cons_self)
        simp only [isNeg, List.cons_append, List.head?_cons, Option.some.injEq, decide_eq_false_iff_not]
        omega
    have k0 : isNeg (TL.numL i.natAbs) = false := by have := key []; rw [List.append_nil] at this; exact this
    refine ⟨by rw [k0]; simp [h], by simp [bareP, k0], fun t => ⟨by rw [key]; simp [h], by simp [bareP, key]⟩⟩
theorem back_int (i : Int) : (if decide (i < 0) = true then -((i.natAbs : Nat) : Int) else (i.natAbs : Nat)) = i := by
  by_cases h : i < 0
  · rw [if_pos (decide_eq_true h)]; omega
  · rw [if_neg (by simp [h])]; omega
theorem read_wrote {p : Int × Int} (g : Good p) : readP (wroteL p) = some p := by
  obtain ⟨a, b⟩ := p
  obtain ⟨g1, g2, g3, g4⟩ := g
  dsimp only at g1 g2 g3 g4
  obtain ⟨n1, n2, n3⟩ := neg_int a
  have free : 47 ∉ TL.numL a.natAbs := TL.numL_free (.inl (by decide))
  have nz : ¬ (decide (a < 0) = true ∧ a.natAbs = 0) := fun z => by
    have := of_decide_eq_true z.1
    omega
  unfold wroteL readP
  by_cases hb : b = 1
  · rw [if_pos hb, n1, n2, cut_free free]
    unfold readB
    rw [whole_num g3]
    refine (if_neg nz).trans ?_
    show some ((if decide (a < 0) = true then -((a.natAbs : Nat) : Int) else (a.natAbs : Nat)), (1 : Int)) = some (a, b)
    rw [back_int, hb]
  · rw [if_neg hb, (n3 _).1, (n3 _).2, cut_app free]
    have eb : intL b = TL.numL b.natAbs := if_neg (by omega)
    unfold readB
    rw [whole_num g3]
    refine (if_neg nz).trans ?_
    show (match wholeL (intL b) with
      | none => none
      | some bot => if bot < 2 ∨ Nat.gcd a.natAbs bot ≠ 1 then none else some (if decide (a < 0) = true then -((a.natAbs : Nat) : Int) else (a.natAbs : Nat), (bot : Int))) = some (a, b)
    rw [eb, whole_num g4]
    refine (if_neg (fun z => z.elim (fun q => ?_) (fun q => q g2))).trans ?_
    · show some ((if decide (a < 0) = true then -((a.natAbs : Nat) : Int) else (a.natAbs : Nat)), ((b.natAbs : Nat) : Int)) = some (a, b)
      rw [back_int, show ((b.natAbs : Nat) : Int) = b by omega]
    · omega
theorem val_lt : ∀ (l : List Nat) (x : Nat), l.all dig = true → l.foldl (fun acc c => acc * 10 + (c - 48)) x < (x + 1) * 10 ^ l.length
  | [], x, _ => by simp
  | c :: r, x, h => by
    rw [List.all_cons, Bool.and_eq_true] at h
    obtain ⟨hc, hr⟩ := h
    simp only [dig, Bool.and_eq_true, decide_eq_true_eq] at hc
    rw [List.foldl_cons]
    refine Nat.lt_of_lt_of_le (val_lt r _ hr) ?_
    rw [List.length_cons, Nat.pow_succ, Nat.mul_comm (10 ^ r.length) 10, ← Nat.mul_assoc]
    exact Nat.mul_le_mul_right _ (by omega)
theorem one_lim : 1 < Lim := Nat.one_lt_pow (by decide) (by decide)
theorem whole_lt {d : List Nat} {n : Nat} (h : wholeL d = some n) : n < Lim := by
  unfold wholeL at h
  split at h
  · cases h
  · rename_i h1
    split at h
    · cases h
    · split at h
      · rename_i h3
        cases h
        have := val_lt d 0 h3
        refine Nat.lt_of_lt_of_le this ?_
        rw [Nat.zero_add, Nat.one_mul]
        exact Nat.pow_le_pow_right (n := 10) (by decide) (by omega)
      · cases h
theorem read_good {a : List Nat} {p : Int × Int} (h : readP a = some p) : Good p := by
  have key : ∀ (neg : Bool) (hd : List Nat) (tail : Option (List Nat)), readB neg hd tail = some p → Good p := by
    intro neg hd tail h
    unfold readB at h
    cases e : wholeL hd with
    | none => rw [e] at h; cases h
    | some top =>
      rw [e] at h
      have lt := whole_lt e
      have ab : ∀ b : Bool, (if b = true then -(top : Int) else (top : Int)).natAbs = top := fun b => by cases b <;> simp
      by_cases z : neg = true ∧ top = 0
      · simp only [z, and_self, if_true] at h; cases h
      · simp only [z, if_false] at h
        cases tail with
        | none =>
          obtain rfl := Option.some.inj h
          exact ⟨Int.le_refl _, by show Nat.gcd _ 1 = 1; exact Nat.gcd_one_right _, by rw [ab]; exact lt, one_lim⟩
        | some t =>
          cases e2 : wholeL t with
          | none => simp only [e2] at h; cases h
          | some bot =>
            simp only [e2] at h
            by_cases y : bot < 2 ∨ Nat.gcd top bot ≠ 1
            · rw [if_pos y] at h; cases h
            · rw [if_neg y] at h
              obtain rfl := Option.some.inj h
              have y1 : ¬ bot < 2 := fun q => y (.inl q)
              have y2 : Nat.gcd top bot = 1 := Classical.byContradiction fun q => y (.inr q)
              exact ⟨by show (1 : Int) ≤ (bot : Int); omega, by show Nat.gcd _ bot = 1; rw [ab]; exact y2, by rw [ab]; exact lt, whole_lt e2⟩
  exact key _ _ _ h
theorem int_len {i : Int} (h : i.natAbs < Lim) : (intL i).length ≤ 4001 := by
  have := num_len h
  unfold intL
  split
  · simp only [List.length_cons]; omega
  · omega
theorem wrote_len {p : Int × Int} (g : Good p) : (wroteL p).length ≤ 8003 := by
  have h1 := int_len g.top
  have h2 := int_len g.bot
  unfold wroteL
  split
  · omega
  · simp only [List.length_append, List.length_cons]; omega
end P17

set_option Elab.async false
set_option linter.all false
set_option maxRecDepth 100000
set_option maxHeartbeats 4000000
/-! A17: the small defs of k17 -/
namespace W17
open PySem PySem.Spec PyProof.Rows L2 Lay P17
open SX (S S_len S_cat S_tl)
open C8 (Cal pe_c pe_gc fnScope_by E0)
/-- what the module's names reach -/
structure Mg (mg : Str → Option Value) : Prop where
  len_ : mg "len" = none
  int_ : mg "int" = none
  str_ : mg "str" = none
  bool_ : mg "bool" = none
  list_ : mg "list" = none
  tuple_ : mg "tuple" = none
  dict_ : mg "dict" = none
  abs_ : mg "abs" = none
  range_ : mg "range" = none
  isinstance_ : mg "isinstance" = none
  gcd_ : mg "gcd" = some (.builtin "math.gcd")
  most : ∃ u, mg "MOST_DIGITS" = some u ∧ RelV (.int 4000) u
  digits : ∃ u, mg "DIGITS" = some u ∧ RelV (.str "0123456789") u
abbrev Fn (K : PySem.W.Frag) (x : Str) (i : Nat) (f : Addr) (fd : FuncData) : Prop := FunD K x x (defArgs (top i)) (defBody (top i)) (defScope (top i)) [] [] f fd
section
variable {P : Program} {w : World} {K : PySem.W.Frag} {mg : Str → Option Value} {base : Heap} {f : Addr} {fd : FuncData}
theorem sc20 : FnScope ["value"] ["value"] (defScope (top 20)) := fnScope_by (by decide +kernel)
def spIsWhole (K : PySem.W.Frag) : Sp := fun vs H Q _ => ∃ x t, vs = [x] ∧ Kd K H x t ∧ Q (.bl (t == "int")) H
theorem ok_is_whole (m : Mg mg) (F : Fn K "is_whole" 20 f fd) (g : mg "is_whole" = some (.ref f)) : Cal P w K mg base 1 "is_whole" (spIsWhole K) [] := by
  have sc := sc20
  refine calD F g sc (fun _ _ _ _ _ _ us hl => match us, hl with | [_], _ => rfl) ?_ fun cdv A outer s H vs Q E hr h => ?_
  · rintro vs H Q E ⟨x, t, rfl, _⟩
    rfl
  · obtain ⟨x, t, rfl, ty, q⟩ := h
    refine ⟨_, (pss_one (ps_ret (pe_and (pe_callB call_isB (by rfl) m.isinstance_ boot_isinstance (pa_cons (pv 0) (pa_cons (pe_bltn (v := .ty "int") (by rfl) m.int_ boot_int rfl) pa_nil))) (pe_one (pe_not (pe_callB call_isB (by rfl) m.isinstance_ boot_isinstance (pa_cons (pv 0) (pa_cons (pe_bltn (v := .ty "bool") (by rfl) m.bool_ boot_bool rfl) pa_nil)))))))), ?_⟩
    simp only [L2.start, cxOf, tRet, tAndV, tOrV, tNotV, tCB, tCons, tNil, tVar, tC, tOp, tUn, tTest, tB, tIf, tIfS, tSeq, tAsg, tAnd, tOr, tNot, gName, tNext, tCall, tChain, rI, rI0, rEq, rNe, rGcd, rU, tM1, tM0, tSl, tFmtB, tJs, tPart, tNoPart, gTup, gCons, gNil, gSub, tTup, tLst, tPar, L2.rI, List.map_cons, List.map_nil, List.length_cons, List.length_nil, List.cons_append, List.nil_append, List.append_nil, List.getElem?_cons_zero, List.getElem?_cons_succ, List.set_cons_zero, List.set_cons_succ, Option.some.injEq, exists_eq_left, exists_eq_left', exists_eq_right, exists_and_left, exists_and_right, List.cons.injEq, and_true, true_and, V.int.injEq, V.str.injEq, V.bl.injEq, V.ref.injEq, List.replicate, Nat.reduceAdd, Nat.reduceSub, reduceCtorEq, false_and, and_false, if_true, if_false, Bool.false_eq_true, Bool.not_true, Bool.not_false, decide_eq_true_eq]
    have kk := ty.1
    simp only [kinds, List.mem_cons, List.not_mem_nil, or_false] at kk
    refine rIsB_i (T := "int") ty ?_
    rcases kk with h | h | h | h | h | h | h <;> subst h <;> first
      | exact ⟨false, rfl, q⟩
      | (refine ⟨true, rfl, ?_⟩; rw [if_pos rfl]; exact rIsB_i (T := "bool") ty ⟨_, rfl, q⟩)
/-! whole_of -/
theorem sc22 : FnScope ["word", "sign"] ["word"] (defScope (top 22)) := fnScope_by (by decide +kernel)
def optV : Option Nat → V
  | some n => .int n
  | none => .non
def spWholeOf : Sp := fun vs H Q _ => ∃ a : List Nat, vs = [.str (S a)] ∧ a.length ≤ sizeLine ∧ Q (optV (wholeL a)) H
theorem ok_whole_of (m : Mg mg) (dk : DigK K) (F : Fn K "whole_of" 22 f fd) (g : mg "whole_of" = some (.ref f)) : Cal P w K mg base 1 "whole_of" spWholeOf [] := by
  have sc := sc22
  refine calD F g sc (fun _ _ _ _ _ _ us hl => match us, hl with | [_], _ => rfl) ?_ fun cdv A outer s H vs Q E hr h => ?_
  · rintro vs H Q E ⟨x, rfl, _⟩
    rfl
  · obtain ⟨a, rfl, hz, q⟩ := h
    refine ⟨_, (pss_cons (ps_if (pt_not (pt_chain op_le op_le pe_int (pe_callB call_len (by rfl) m.len_ boot_len (pa_cons (pv 0) pa_nil)) (pe_gc (v := .int 4000) (by rfl) m.most)))
        (pss_one (ps_ret pe_non))
        pss_nil)
      (pss_cons (ps_if ((pw_and (pt_cmpR op_eq (pe_ix ix_str (pv 0) pe_int (fun _ _ => rfl)) pe_str (nomark _)) (pw_and1 (pt_cmpR op_gt (pe_callB call_len (by rfl) m.len_ boot_len (pa_cons (pv 0) pa_nil)) pe_int (nomark _))))).pt
        (pss_one (ps_ret pe_non))
        pss_nil)
      (pss_cons (ps_for pown rfl (pi_str (pv 0)) (pg_name (i := 1) sc.nd rfl (.inl rfl))
        (pss_one (ps_if (pt_cmpR op_notIn_sign (pv 1) (pe_gc (v := .str "0123456789") rfl m.digits) rfl)
          (pss_one (ps_ret pe_non))
          pss_nil)))
      (pss_one (ps_ret (pe_callTy (call_intTxt dk) (by rfl) m.int_ boot_int (pa_cons (pv 0) pa_nil))))))), ?_⟩
    simp only [L2.start, cxOf, tRet, tAndV, tOrV, tNotV, tCB, tCons, tNil, tVar, tC, tOp, tUn, tTest, tB, tIf, tIfS, tSeq, tAsg, tAnd, tOr, tNot, gName, tNext, tCall, tChain, rI, rI0, rEq, rNe, rGcd, rU, tM1, tM0, tSl, tFmtB, tJs, tPart, tNoPart, gTup, gCons, gNil, gSub, tTup, tLst, tPar, L2.rI, List.map_cons, List.map_nil, List.length_cons, List.length_nil, List.cons_append, List.nil_append, List.append_nil, List.getElem?_cons_zero, List.getElem?_cons_succ, List.set_cons_zero, List.set_cons_succ, Option.some.injEq, exists_eq_left, exists_eq_left', exists_eq_right, exists_and_left, exists_and_right, List.cons.injEq, and_true, true_and, V.int.injEq, V.str.injEq, V.bl.injEq, V.ref.injEq, List.replicate, Nat.reduceAdd, Nat.reduceSub, reduceCtorEq, false_and, and_false, if_true, if_false, Bool.false_eq_true, Bool.not_true, Bool.not_false, decide_eq_true_eq]
    have e0 : ∀ c : Nat, (V.str (S [c]) = V.str (Str.ofString "0")) = (c = 48) := fun c => by
      rw [str_is (b := [48]) (by decide +kernel)]
      simp
    have dg : ∀ c : Nat, decide (c ∈ (Str.ofString "0123456789").cps.toList) = dig c := fun c => by
      have : (Str.ofString "0123456789").cps.toList = [48, 49, 50, 51, 52, 53, 54, 55, 56, 57] := by decide +kernel
      rw [this, Bool.eq_iff_iff]
      simp only [decide_eq_true_eq, List.mem_cons, List.not_mem_nil, or_false, dig, Bool.and_eq_true]
      omega
    refine ⟨a.length, len_S hz, ?_⟩
    by_cases h1 : (1 : Int) ≤ (a.length : Int)
    · rw [if_pos h1]
      by_cases h2 : (a.length : Int) ≤ 4000
      · rw [if_neg (by simp [h2])]
        obtain ⟨c, r, e⟩ : ∃ c r, a = c :: r := by
          cases a with
          | nil => exact absurd h1 (by decide)
          | cons c r => exact ⟨c, r, rfl⟩
        refine ⟨_, 0, c, rfl, rfl, by rw [S_len]; exact hz, by rw [e]; exact at_zero, rfl, ?_⟩
        simp only [e0]
        have loop : ∀ (D : Ends), D.rt = Q → (a.all dig = true → ∀ y, D.nx [some (.str (S a)), y] H) → (a.all dig = false → Q .non H) →
            tFor (iStr (tVar 0)) (gName 1) (tIfS (tTest (tOp (fun x y H Q => ∃ c, x = V.str { cps := #[c] } ∧ ∃ x, y = V.str x ∧ Q (V.bl !decide (c ∈ x.cps.toList)) H) (tVar 1) (tC (V.str (Str.ofString "0123456789"))))) (tRet (tC V.non)) tNext) D [some (V.str (S a)), none] H := by
          intro D hD yes no
          refine ⟨.str (S a), rfl, S a, rfl, for_it walk_str (fun i σ' H' => H' = H ∧ (∃ y, σ' = [some (.str (S a)), y]) ∧ ∀ j, j < i → ∀ c, a[j]? = some c → dig c = true) ⟨rfl, ⟨none, rfl⟩, fun j z => by omega⟩ (fun _ _ _ _ _ => trivial) ?_ ?_⟩
          · rintro i x σ' H' H2 hi ⟨rfl, ⟨y, rfl⟩, hP⟩ ⟨rfl, c, hc, rfl⟩
            have hc2 : a[i]? = some c := by simpa using hc
            simp only [L2.start, cxOf, tRet, tAndV, tOrV, tNotV, tCB, tCons, tNil, tVar, tC, tOp, tUn, tTest, tB, tIf, tIfS, tSeq, tAsg, tAnd, tOr, tNot, gName, tNext, tCall, tChain, rI, rI0, rEq, rNe, rGcd, rU, tM1, tM0, tSl, tFmtB, tJs, tPart, tNoPart, gTup, gCons, gNil, gSub, tTup, tLst, tPar, L2.rI, List.map_cons, List.map_nil, List.length_cons, List.length_nil, List.cons_append, List.nil_append, List.append_nil, List.getElem?_cons_zero, List.getElem?_cons_succ, List.set_cons_zero, List.set_cons_succ, Option.some.injEq, exists_eq_left, exists_eq_left', exists_eq_right, exists_and_left, exists_and_right, List.cons.injEq, and_true, true_and, V.int.injEq, V.str.injEq, V.bl.injEq, V.ref.injEq, List.replicate, Nat.reduceAdd, Nat.reduceSub, reduceCtorEq, false_and, and_false, if_true, if_false, Bool.false_eq_true, Bool.not_true, Bool.not_false, decide_eq_true_eq, dg]
            refine ⟨c, rfl, ?_⟩
            by_cases hd : dig c = true
            · rw [if_neg (by rw [hd]; decide)]
              refine ⟨⟨_, rfl⟩, fun j hj c' hc' => ?_⟩
              by_cases ej : j = i
              · subst ej
                rw [hc2] at hc'
                cases hc'
                exact hd
              · exact hP j (by omega) c' hc'
            · have hd : dig c = false := by simpa using hd
              rw [if_pos (by rw [hd]; decide), hD]
              exact no (List.all_eq_false.mpr ⟨c, List.mem_of_getElem? hc2, by simp [hd]⟩)
          · rintro σ' H' ⟨rfl, ⟨y, rfl⟩, hP⟩
            refine yes (List.all_eq_true.mpr fun c hc => ?_) y
            obtain ⟨j, hj, e⟩ := List.mem_iff_getElem.mp hc
            exact hP j (by simpa using hj) c (by rw [List.getElem?_eq_getElem hj, e])
        have body : ¬ (c = 48 ∧ 1 < a.length) → tFor (iStr (tVar 0)) (gName 1) (tIfS (tTest (tOp (fun x y H Q => ∃ c, x = V.str { cps := #[c] } ∧ ∃ x, y = V.str x ∧ Q (V.bl !decide (c ∈ x.cps.toList)) H) (tVar 1) (tC (V.str (Str.ofString "0123456789"))))) (tRet (tC V.non)) tNext)
            { nx := tRet (tCB (fun xs H Q => ∃ a, xs = [V.str a] ∧ ∃ x, intText? a = some x ∧ a.length ≤ 4300 ∧ Q (V.int x) H) (tCons (tVar 0) tNil)) { nx := fun x H' => Q V.non H', rt := Q }, rt := Q } [some (V.str (S a)), none] H := by
          intro hn
          have fine : ¬ (a.head? = some 48 ∧ 1 < a.length) := fun z => hn ⟨by rw [e] at z; simpa using z.1, z.2⟩
          refine loop _ rfl (fun hd y => ?_) (fun hd => ?_)
          · have ev : wholeL a = some (NumText.digitsVal a) := by
              unfold wholeL
              rw [if_neg (by omega), if_neg fine, if_pos hd]
            rw [ev] at q
            simp only [L2.start, cxOf, tRet, tAndV, tOrV, tNotV, tCB, tCons, tNil, tVar, tC, tOp, tUn, tTest, tB, tIf, tIfS, tSeq, tAsg, tAnd, tOr, tNot, gName, tNext, tCall, tChain, rI, rI0, rEq, rNe, rGcd, rU, tM1, tM0, tSl, tFmtB, tJs, tPart, tNoPart, gTup, gCons, gNil, gSub, tTup, tLst, tPar, L2.rI, List.map_cons, List.map_nil, List.length_cons, List.length_nil, List.cons_append, List.nil_append, List.append_nil, List.getElem?_cons_zero, List.getElem?_cons_succ, List.set_cons_zero, List.set_cons_succ, Option.some.injEq, exists_eq_left, exists_eq_left', exists_eq_right, exists_and_left, exists_and_right, List.cons.injEq, and_true, true_and, V.int.injEq, V.str.injEq, V.bl.injEq, V.ref.injEq, List.replicate, Nat.reduceAdd, Nat.reduceSub, reduceCtorEq, false_and, and_false, if_true, if_false, Bool.false_eq_true, Bool.not_true, Bool.not_false, decide_eq_true_eq]
            exact ⟨_, SX.int_S hd (by rw [e]; exact List.cons_ne_nil _ _) (by omega), by rw [S_len]; omega, q⟩
          · have ev : wholeL a = none := by
              unfold wholeL
              rw [if_neg (by omega), if_neg fine, if_neg (by rw [hd]; decide)]
            rw [ev] at q
            exact q
        by_cases h48 : c = 48
        · rw [if_pos h48]
          refine ⟨a.length, len_S hz, ?_⟩
          by_cases h3 : (1 : Int) < (a.length : Int)
          · rw [if_pos h3]
            have ev : wholeL a = none := by
              unfold wholeL
              rw [if_neg (by omega), if_pos ⟨by rw [e, h48]; rfl, by omega⟩]
            rw [ev] at q
            exact q
          · rw [if_neg h3]
            exact body fun z => h3 (by omega)
        · rw [if_neg h48]
          exact body fun z => h48 z.1
      · rw [if_pos (by simp [h2])]
        have : wholeL a = none := by unfold wholeL; rw [if_pos (.inr (by omega))]
        rw [this] at q
        exact q
    · rw [if_neg h1]
      have : wholeL a = none := by unfold wholeL; rw [if_pos (.inl (by omega))]
      rw [this] at q
      exact q
end
end W17

set_option Elab.async false
set_option linter.all false
set_option maxRecDepth 100000
set_option maxHeartbeats 4000000
/-! B17: further small defs of k17 -/
namespace W17
open PySem PySem.Spec PyProof.Rows L2 Lay P17
open SX (S S_len S_cat S_tl)
open C8 (Cal pe_c pe_gc fnScope_by E0)
section
variable {P : Program} {w : World} {K : PySem.W.Frag} {mg : Str → Option Value} {base : Heap} {f : Addr} {fd : FuncData}
theorem sc21 : FnScope ["value"] ["value"] (defScope (top 21)) := fnScope_by (by decide +kernel)
def spIsLowest (K : PySem.W.Frag) : Sp := fun vs H Q _ => ∃ x, vs = [x] ∧ ((∃ k, Kd K H x k ∧ k ≠ "tuple" ∧ Q (.bl false) H) ∨ (∃ t xs, x = .ref t ∧ H t = some (.tup xs) ∧ xs.length ≠ 2 ∧ Q (.bl false) H) ∨
  (∃ t u v ku kv, x = .ref t ∧ H t = some (.tup [u, v]) ∧ Kd K H u ku ∧ Kd K H v kv ∧ ¬ (ku = "int" ∧ kv = "int") ∧ Q (.bl false) H) ∨
  (∃ t i j, x = .ref t ∧ H t = some (.tup [.int i, .int j]) ∧ Q (.bl (decide (1 ≤ j) && decide (Nat.gcd i.natAbs j.natAbs = 1))) H))
theorem ok_is_lowest (m : Mg mg) (c_is_whole : Cal P w K mg base 1 "is_whole" (spIsWhole K) []) (F : Fn K "is_lowest" 21 f fd) (g : mg "is_lowest" = some (.ref f)) : Cal P w K mg base 2 "is_lowest" (spIsLowest K) [] := by
  have sc := sc21
  refine calD F g sc (fun _ _ _ _ _ _ us hl => match us, hl with | [_], _ => rfl) ?_ fun cdv A outer s H vs Q E hr h => ?_
  · rintro vs H Q E ⟨x, rfl, _⟩
    rfl
  · obtain ⟨x, rfl, q⟩ := h
    refine ⟨_, (pss_cons (ps_if ((pw_or (pt_not (pt_val (pe_callB call_isB (by rfl) m.isinstance_ boot_isinstance (pa_cons (pv 0) (pa_cons (pe_bltn (v := .ty "tuple") (by rfl) m.tuple_ boot_tuple rfl) pa_nil))))) (pw_or1 (pt_cmpR op_ne (pe_callB call_len (by rfl) m.len_ boot_len (pa_cons (pv 0) pa_nil)) pe_int (nomark _))))).pt
        (pss_one (ps_ret pe_bl))
        pss_nil)
      (pss_cons (ps_if ((pw_or (pt_not (pt_val (pe_c c_is_whole hr (by decide) (by rfl) (pa_cons (pe_ix ix_tup (pv 0) pe_int (fun _ _ => rfl)) pa_nil)))) (pw_or (pt_not (pt_val (pe_c c_is_whole hr (by decide) (by rfl) (pa_cons (pe_ix ix_tup (pv 0) pe_int (fun _ _ => rfl)) pa_nil)))) (pw_or1 (pt_cmpR op_lt (pe_ix ix_tup (pv 0) pe_int (fun _ _ => rfl)) pe_int (nomark _)))))).pt
        (pss_one (ps_ret pe_bl))
        pss_nil)
      (pss_one (ps_ret (pe_cmpR op_eq (pe_callBfun cr_gcd (by rfl) m.gcd_ (pa_cons (pe_ix ix_tup (pv 0) pe_int (fun _ _ => rfl)) (pa_cons (pe_ix ix_tup (pv 0) pe_int (fun _ _ => rfl)) pa_nil))) pe_int (nomark _)))))), ?_⟩
    simp only [L2.start, cxOf, tRet, tAndV, tOrV, tNotV, tCB, tCons, tNil, tVar, tC, tOp, tUn, tTest, tB, tIf, tIfS, tSeq, tAsg, tAnd, tOr, tNot, gName, tNext, tCall, tChain, rI, rI0, rEq, rNe, rGcd, rU, tM1, tM0, tSl, tFmtB, tJs, tPart, tNoPart, gTup, gCons, gNil, gSub, tTup, tLst, tPar, L2.rI, List.map_cons, List.map_nil, List.length_cons, List.length_nil, List.cons_append, List.nil_append, List.append_nil, List.getElem?_cons_zero, List.getElem?_cons_succ, List.set_cons_zero, List.set_cons_succ, Option.some.injEq, exists_eq_left, exists_eq_left', exists_eq_right, exists_and_left, exists_and_right, List.cons.injEq, and_true, true_and, V.int.injEq, V.str.injEq, V.bl.injEq, V.ref.injEq, List.replicate, Nat.reduceAdd, Nat.reduceSub, reduceCtorEq, false_and, and_false, if_true, if_false, Bool.false_eq_true, Bool.not_true, Bool.not_false, decide_eq_true_eq, spIsWhole]
    rcases q with ⟨k, ty, ne, q⟩ | ⟨t, xs, rfl, ht, ne, q⟩ | ⟨t, u, v, ku, kv, rfl, ht, tu, tv, ne, q⟩ | ⟨t, i, j, rfl, ht, q⟩
    · have kk := ty.1
      simp only [kinds, List.mem_cons, List.not_mem_nil, or_false] at kk
      refine rIsB_i (T := "tuple") ty ?_
      rcases kk with h | h | h | h | h | h | h <;> subst h <;> first
        | exact absurd rfl ne
        | exact ⟨false, rfl, q⟩
    · refine rIsB_i (T := "tuple") (kd_tup ht) ⟨true, rfl, ?_⟩
      rw [if_neg (by decide)]
      refine ⟨_, len_T ht, rfl, ?_⟩
      rw [if_pos (by simpa using (by omega : ¬ ((xs.length : Int) = 2)))]
      exact q
    · refine rIsB_i (T := "tuple") (kd_tup ht) ⟨true, rfl, ?_⟩
      rw [if_neg (by decide)]
      refine ⟨_, len_T ht, rfl, ?_⟩
      rw [if_neg (by simp)]
      refine ixT ht 0 rfl ⟨ku, tu, ?_⟩
      by_cases e1 : ku = "int"
      · rw [if_neg (by rw [e1]; decide)]
        refine ixT ht 1 rfl ⟨kv, tv, ?_⟩
        rw [if_pos (by
          have : ¬ kv = "int" := fun z => ne ⟨e1, z⟩
          simpa using this)]
        exact q
      · rw [if_pos (by simpa using e1)]
        exact q
    · refine rIsB_i (T := "tuple") (kd_tup ht) ⟨true, rfl, ?_⟩
      rw [if_neg (by decide)]
      refine ⟨_, len_T ht, rfl, ?_⟩
      rw [if_neg (by simp)]
      refine ixT ht 0 rfl ⟨"int", kd_int, ?_⟩
      rw [if_neg (by decide)]
      refine ixT ht 1 rfl ⟨"int", kd_int, ?_⟩
      rw [if_neg (by decide)]
      refine ixT ht 1 rfl ⟨j, rfl, ?_⟩
      by_cases hj : j < 1
      · rw [if_pos hj]
        rw [show decide (1 ≤ j) = false by simp; omega] at q
        exact q
      · rw [if_neg hj]
        refine ixT ht 0 rfl (ixT ht 1 rfl ⟨i, j, ⟨rfl, rfl⟩, rfl, ?_⟩)
        rw [show decide (1 ≤ j) = true by simp; omega, Bool.true_and] at q
        have : decide (((Nat.gcd i.natAbs j.natAbs : Nat) : Int) = 1) = decide (Nat.gcd i.natAbs j.natAbs = 1) := by
          rw [Bool.eq_iff_iff]
          simp only [decide_eq_true_eq]
          omega
        rw [this]
        exact q
theorem sc24 : FnScope ["number"] ["number"] (defScope (top 24)) := fnScope_by (by decide +kernel)
def spText : Sp := fun vs H Q _ => ∃ t p, vs = [.ref t] ∧ H t = some (.tup [.int p.1, .int p.2]) ∧ Good p ∧ Q (.str (S (wroteL p))) H
theorem ok_ratio_text (m : Mg mg) (dk : DigK K) (F : Fn K "ratio_text" 24 f fd) (g : mg "ratio_text" = some (.ref f)) : Cal P w K mg base 1 "ratio_text" spText [] := by
  have sc := sc24
  refine calD F g sc (fun _ _ _ _ _ _ us hl => match us, hl with | [_], _ => rfl) ?_ fun cdv A outer s H vs Q E hr h => ?_
  · rintro vs H Q E ⟨x, _, rfl, _⟩
    rfl
  · obtain ⟨t, p, rfl, ht, good, q⟩ := h
    refine ⟨_, (pss_cons (ps_if (pt_cmpR op_eq (pe_ix ix_tup (pv 0) pe_int (fun _ _ => rfl)) pe_int (nomark _))
        (pss_one (ps_ret (pe_callTy (call_strBig rfl dk) (by rfl) m.str_ boot_str (pa_cons (pe_ix ix_tup (pv 0) pe_int (fun _ _ => rfl)) pa_nil))))
        pss_nil)
      (pss_one (ps_ret (pe_joined (.cons (pe_fmtB rfl dk (pe_ix ix_tup (pv 0) pe_int (fun _ _ => rfl))) (.cons pe_str (.cons (pe_fmtB rfl dk (pe_ix ix_tup (pv 0) pe_int (fun _ _ => rfl))) PJ.nil))))))), ?_⟩
    simp only [L2.start, cxOf, tRet, tAndV, tOrV, tNotV, tCB, tCons, tNil, tVar, tC, tOp, tUn, tTest, tB, tIf, tIfS, tSeq, tAsg, tAnd, tOr, tNot, gName, tNext, tCall, tChain, rI, rI0, rEq, rNe, rGcd, rU, tM1, tM0, tSl, tFmtB, tJs, tPart, tNoPart, gTup, gCons, gNil, gSub, tTup, tLst, tPar, L2.rI, List.map_cons, List.map_nil, List.length_cons, List.length_nil, List.cons_append, List.nil_append, List.append_nil, List.getElem?_cons_zero, List.getElem?_cons_succ, List.set_cons_zero, List.set_cons_succ, Option.some.injEq, exists_eq_left, exists_eq_left', exists_eq_right, exists_and_left, exists_and_right, List.cons.injEq, and_true, true_and, V.int.injEq, V.str.injEq, V.bl.injEq, V.ref.injEq, List.replicate, Nat.reduceAdd, Nat.reduceSub, reduceCtorEq, false_and, and_false, if_true, if_false, Bool.false_eq_true, Bool.not_true, Bool.not_false, decide_eq_true_eq]
    obtain ⟨i, j⟩ := p
    have sh : ∀ {n : Int}, n.natAbs < Lim → Lay.Short n := fun {n} h => Nat.lt_of_lt_of_le h (Nat.pow_le_pow_right (n := 10) (by decide) (by decide))
    have s1 := sh good.top
    have s2 := sh good.bot
    have l1 := int_len good.top
    have l2 := int_len good.bot
    dsimp only at s1 s2 l1 l2 ht q
    have sl : (Str.ofString "/") = S [47] := by decide +kernel
    have em : Str.empty = S [] := by decide +kernel
    refine ixT ht 1 rfl ⟨rfl, ?_⟩
    by_cases h1 : V.int j = V.int 1
    · rw [if_pos h1]
      refine ixT ht 0 rfl ⟨i, rfl, s1, ?_⟩
      rw [int_text]
      have : wroteL (i, j) = intL i := if_pos (V.int.inj h1)
      rw [this] at q
      exact q
    · rw [if_neg h1]
      have e : wroteL (i, j) = intL i ++ 47 :: intL j := if_neg (fun z => h1 (congrArg V.int z))
      rw [e] at q
      have ee : ∀ x : List Nat, Str.empty ++ S x = S x := fun x => by rw [em, S_cat, List.nil_append]
      refine ixT ht 0 rfl (.inr ⟨i, rfl, s1, ?_⟩)
      rw [int_text, sl, ee, S_cat, S_len, S_len]
      refine ⟨small (by omega), small (by simp; omega), ixT ht 1 rfl (.inr ⟨j, rfl, s2, ?_⟩)⟩
      rw [int_text, S_cat, S_len]
      refine ⟨small (by simp; omega), ?_⟩
      rw [List.append_assoc]
      exact q
theorem sc33 : FnScope ["one", "two"] ["one", "two"] (defScope (top 33)) := fnScope_by (by decide +kernel)
def spGcd : Sp := fun vs H Q _ => ∃ a b : Nat, vs = [.int a, .int b] ∧ Q (.int (Nat.gcd a b : Nat)) H
theorem ok_gcd (m : Mg mg) (F : Fn K "_law_gcd" 33 f fd) (g : mg "_law_gcd" = some (.ref f)) : Cal P w K mg base 1 "_law_gcd" spGcd [] := by
  have sc := sc33
  refine calD F g sc (fun _ _ _ _ _ _ us hl => match us, hl with | [_, _], _ => rfl) ?_ fun cdv A outer s H vs Q E hr h => ?_
  · rintro vs H Q E ⟨x, _, rfl, _⟩
    rfl
  · obtain ⟨a, b, rfl, q⟩ := h
    refine ⟨_, (pss_cons (ps_while pown (pt_cmpR op_gt (pv 1) pe_int (nomark _))
        (pss_one (ps_par (i := 0) (j := 1) rfl sc.nd rfl rfl (by decide) rfl rfl (pa_cons (pv 1) (pa_cons (pe_op op_mod (pe_callTy call_int1 (by rfl) m.int_ boot_int (pa_cons (pv 0) pa_nil)) (pv 1)) pa_nil)) (by rfl))))
      (pss_one (ps_ret (pv 0)))), ?_⟩
    simp only [L2.start, cxOf, tRet, tAndV, tOrV, tNotV, tCB, tCons, tNil, tVar, tC, tOp, tUn, tTest, tB, tIf, tIfS, tSeq, tAsg, tAnd, tOr, tNot, gName, tNext, tCall, tChain, rI, rI0, rEq, rNe, rGcd, rU, tM1, tM0, tSl, tFmtB, tJs, tPart, tNoPart, gTup, gCons, gNil, gSub, tTup, tLst, tPar, L2.rI, List.map_cons, List.map_nil, List.length_cons, List.length_nil, List.cons_append, List.nil_append, List.append_nil, List.getElem?_cons_zero, List.getElem?_cons_succ, List.set_cons_zero, List.set_cons_succ, Option.some.injEq, exists_eq_left, exists_eq_left', exists_eq_right, exists_and_left, exists_and_right, List.cons.injEq, and_true, true_and, V.int.injEq, V.str.injEq, V.bl.injEq, V.ref.injEq, List.replicate, Nat.reduceAdd, Nat.reduceSub, reduceCtorEq, false_and, and_false, if_true, if_false, Bool.false_eq_true, Bool.not_true, Bool.not_false, decide_eq_true_eq]
    refine while_by (fun σ H' => ∃ x y : Nat, σ = [some (.int x), some (.int y)] ∧ H' = H ∧ Nat.gcd x y = Nat.gcd a b) (fun σ _ => match σ with
      | [_, some (.int y)] => y.toNat
      | _ => 0) ⟨a, b, rfl, rfl, rfl⟩ ?_ ?_
    · rintro σ H' ⟨x, y, rfl, rfl, e⟩
      simp only [L2.start, cxOf, tRet, tAndV, tOrV, tNotV, tCB, tCons, tNil, tVar, tC, tOp, tUn, tTest, tB, tIf, tIfS, tSeq, tAsg, tAnd, tOr, tNot, gName, tNext, tCall, tChain, rI, rI0, rEq, rNe, rGcd, rU, tM1, tM0, tSl, tFmtB, tJs, tPart, tNoPart, gTup, gCons, gNil, gSub, tTup, tLst, tPar, L2.rI, List.map_cons, List.map_nil, List.length_cons, List.length_nil, List.cons_append, List.nil_append, List.append_nil, List.getElem?_cons_zero, List.getElem?_cons_succ, List.set_cons_zero, List.set_cons_succ, Option.some.injEq, exists_eq_left, exists_eq_left', exists_eq_right, exists_and_left, exists_and_right, List.cons.injEq, and_true, true_and, V.int.injEq, V.str.injEq, V.bl.injEq, V.ref.injEq, List.replicate, Nat.reduceAdd, Nat.reduceSub, reduceCtorEq, false_and, and_false, if_true, if_false, Bool.false_eq_true, Bool.not_true, Bool.not_false, decide_eq_true_eq]
      by_cases hy : (0 : Int) < (y : Int)
      · rw [if_pos hy]
        refine .inl ⟨hy, _, _, ⟨rfl, rfl⟩, ⟨y, x % y, ⟨rfl, by rw [Int.natCast_emod]⟩, ?_⟩, ?_⟩
        · rw [← e, Nat.gcd_comm y, ← Nat.gcd_rec, Nat.gcd_comm]
        · show ((x : Int) % (y : Int)).toNat < ((y : Nat) : Int).toNat
          have := Nat.mod_lt x (show 0 < y by omega)
          have e2 : ((x : Int) % (y : Int)).toNat = x % y := by rw [← Int.natCast_emod]; exact Int.toNat_natCast _
          rw [e2, Int.toNat_natCast]
          exact this
      · rw [if_neg hy]
        have : y = 0 := by omega
        rw [this, Nat.gcd_zero_right] at e
        rw [e]
        exact q
    · intro σ H Q Q' k h
      simp only [L2.start, cxOf, tRet, tAndV, tOrV, tNotV, tCB, tCons, tNil, tVar, tC, tOp, tUn, tTest, tB, tIf, tIfS, tSeq, tAsg, tAnd, tOr, tNot, gName, tNext, tCall, tChain, rI, rI0, rEq, rNe, rGcd, rU, tM1, tM0, tSl, tFmtB, tJs, tPart, tNoPart, gTup, gCons, gNil, gSub, tTup, tLst, tPar, L2.rI, List.map_cons, List.map_nil, List.length_cons, List.length_nil, List.cons_append, List.nil_append, List.append_nil, List.getElem?_cons_zero, List.getElem?_cons_succ, List.set_cons_zero, List.set_cons_succ, Option.some.injEq, exists_eq_left, exists_eq_left', exists_eq_right, exists_and_left, exists_and_right, List.cons.injEq, and_true, true_and, V.int.injEq, V.str.injEq, V.bl.injEq, V.ref.injEq, List.replicate, Nat.reduceAdd, Nat.reduceSub, reduceCtorEq, false_and, and_false, if_true, if_false, Bool.false_eq_true, Bool.not_true, Bool.not_false, decide_eq_true_eq] at h ⊢
      obtain ⟨v, h1, i, h2, h3⟩ := h
      exact ⟨v, h1, i, h2, k _ _ h3⟩
theorem sc34 : FnScope ["top", "under", "shared"] ["top", "under"] (defScope (top 34)) := fnScope_by (by decide +kernel)
def spFrac : Sp := fun vs H Q _ => ∃ (a : Int) (b : Nat), vs = [.int a, .int b] ∧ 0 < b ∧ b ≤ 1000000 ∧ ∀ t, H t = none → Q (.ref t) (upd H t (.tup [.int (a / (Nat.gcd a.natAbs b : Nat)), .int ((b : Int) / (Nat.gcd a.natAbs b : Nat))]))
theorem ok_frac (m : Mg mg) (c__law_gcd : Cal P w K mg base 1 "_law_gcd" spGcd []) (F : Fn K "_law_frac" 34 f fd) (g : mg "_law_frac" = some (.ref f)) : Cal P w K mg base 2 "_law_frac" spFrac [] := by
  have sc := sc34
  refine calD F g sc (fun _ _ _ _ _ _ us hl => match us, hl with | [_, _], _ => rfl) ?_ fun cdv A outer s H vs Q E hr h => ?_
  · rintro vs H Q E ⟨x, _, rfl, _⟩
    rfl
  · obtain ⟨a, b, rfl, hb, hb2, q⟩ := h
    refine ⟨_, (pss_cons (ps_set (i := 2) sc.nd rfl (.inl rfl) (pe_c c__law_gcd hr (by decide) (by rfl) (pa_cons (pe_callB call_abs (by rfl) m.abs_ boot_abs (pa_cons (pv 0) pa_nil)) (pa_cons (pv 1) pa_nil))))
      (pss_one (ps_ret (pe_tup (pa_cons (pe_op op_fdiv (pv 0) (pv 2)) (pa_cons (pe_op op_fdiv (pv 1) (pv 2)) pa_nil)))))), ?_⟩
    simp only [L2.start, cxOf, tRet, tAndV, tOrV, tNotV, tCB, tCons, tNil, tVar, tC, tOp, tUn, tTest, tB, tIf, tIfS, tSeq, tAsg, tAnd, tOr, tNot, gName, tNext, tCall, tChain, rI, rI0, rEq, rNe, rGcd, rU, tM1, tM0, tSl, tFmtB, tJs, tPart, tNoPart, gTup, gCons, gNil, gSub, tTup, tLst, tPar, L2.rI, List.map_cons, List.map_nil, List.length_cons, List.length_nil, List.cons_append, List.nil_append, List.append_nil, List.getElem?_cons_zero, List.getElem?_cons_succ, List.set_cons_zero, List.set_cons_succ, Option.some.injEq, exists_eq_left, exists_eq_left', exists_eq_right, exists_and_left, exists_and_right, List.cons.injEq, and_true, true_and, V.int.injEq, V.str.injEq, V.bl.injEq, V.ref.injEq, List.replicate, Nat.reduceAdd, Nat.reduceSub, reduceCtorEq, false_and, and_false, if_true, if_false, Bool.false_eq_true, Bool.not_true, Bool.not_false, decide_eq_true_eq, spGcd]
    have gp : 0 < Nat.gcd a.natAbs b := Nat.gcd_pos_of_pos_right _ hb
    have gl : Nat.gcd a.natAbs b ≤ b := Nat.gcd_le_right _ hb
    refine ⟨a.natAbs, b, ⟨by split <;> omega, rfl⟩, ⟨by omega, by omega⟩, ⟨by omega, by omega⟩, small (by decide), q⟩
theorem sc35 : FnScope ["x"] ["x"] (defScope (top 35)) := fnScope_by (by decide +kernel)
theorem ok_wrote (m : Mg mg) (dk : DigK K) (F : Fn K "_law_wrote" 35 f fd) (g : mg "_law_wrote" = some (.ref f)) : Cal P w K mg base 1 "_law_wrote" spText [] := by
  have sc := sc35
  refine calD F g sc (fun _ _ _ _ _ _ us hl => match us, hl with | [_], _ => rfl) ?_ fun cdv A outer s H vs Q E hr h => ?_
  · rintro vs H Q E ⟨x, _, rfl, _⟩
    rfl
  · obtain ⟨t, p, rfl, ht, good, q⟩ := h
    refine ⟨_, (pss_one (ps_ret (pe_ifExp (pt_cmpR op_eq (pe_ix ix_tup (pv 0) pe_int (fun _ _ => rfl)) pe_int (nomark _)) (pe_callTy (call_strBig rfl dk) (by rfl) m.str_ boot_str (pa_cons (pe_ix ix_tup (pv 0) pe_int (fun _ _ => rfl)) pa_nil)) (pe_op op_add_str (pe_op op_add_str (pe_callTy (call_strBig rfl dk) (by rfl) m.str_ boot_str (pa_cons (pe_ix ix_tup (pv 0) pe_int (fun _ _ => rfl)) pa_nil)) pe_str) (pe_callTy (call_strBig rfl dk) (by rfl) m.str_ boot_str (pa_cons (pe_ix ix_tup (pv 0) pe_int (fun _ _ => rfl)) pa_nil)))))), ?_⟩
    simp only [L2.start, cxOf, tRet, tAndV, tOrV, tNotV, tCB, tCons, tNil, tVar, tC, tOp, tUn, tTest, tB, tIf, tIfS, tSeq, tAsg, tAnd, tOr, tNot, gName, tNext, tCall, tChain, rI, rI0, rEq, rNe, rGcd, rU, tM1, tM0, tSl, tFmtB, tJs, tPart, tNoPart, gTup, gCons, gNil, gSub, tTup, tLst, tPar, L2.rI, List.map_cons, List.map_nil, List.length_cons, List.length_nil, List.cons_append, List.nil_append, List.append_nil, List.getElem?_cons_zero, List.getElem?_cons_succ, List.set_cons_zero, List.set_cons_succ, Option.some.injEq, exists_eq_left, exists_eq_left', exists_eq_right, exists_and_left, exists_and_right, List.cons.injEq, and_true, true_and, V.int.injEq, V.str.injEq, V.bl.injEq, V.ref.injEq, List.replicate, Nat.reduceAdd, Nat.reduceSub, reduceCtorEq, false_and, and_false, if_true, if_false, Bool.false_eq_true, Bool.not_true, Bool.not_false, decide_eq_true_eq]
    obtain ⟨i, j⟩ := p
    have sh : ∀ {n : Int}, n.natAbs < Lim → Lay.Short n := fun {n} h => Nat.lt_of_lt_of_le h (Nat.pow_le_pow_right (n := 10) (by decide) (by decide))
    have s1 := sh good.top
    have s2 := sh good.bot
    have l1 := int_len good.top
    have l2 := int_len good.bot
    dsimp only at s1 s2 l1 l2 ht q
    have sl : (Str.ofString "/") = S [47] := by decide +kernel
    have em : Str.empty = S [] := by decide +kernel
    refine ixT ht 1 rfl ⟨rfl, ?_⟩
    by_cases h1 : V.int j = V.int 1
    · rw [if_pos h1]
      refine ixT ht 0 rfl ⟨i, rfl, s1, ?_⟩
      rw [int_text]
      have : wroteL (i, j) = intL i := if_pos (V.int.inj h1)
      rw [this] at q
      exact q
    · rw [if_neg h1]
      have e : wroteL (i, j) = intL i ++ 47 :: intL j := if_neg (fun z => h1 (congrArg V.int z))
      rw [e] at q
      refine ixT ht 0 rfl ⟨i, rfl, s1, ?_, ixT ht 1 rfl ⟨j, rfl, s2, ?_, ?_⟩⟩
      · rw [int_text, sl, S_len, S_len]
        exact small (by simp; omega)
      · rw [int_text, int_text, sl, S_cat, S_len, S_len]
        exact small (by simp; omega)
      · rw [int_text, int_text, sl, S_cat, S_cat, List.append_assoc]
        exact q
end
end W17

set_option Elab.async false
set_option linter.all false
set_option maxRecDepth 100000
set_option maxHeartbeats 4000000
/-! C17: the two readers of texts -/
namespace W17
open PySem PySem.Spec PyProof.Rows L2 Lay P17
open SX (S S_len S_cat S_tl)
open C8 (Cal pe_c pe_gc fnScope_by E0 sl_txt rSlX)
section
variable {P : Program} {w : World} {K : PySem.W.Frag} {mg : Str → Option Value} {base : Heap} {f : Addr} {fd : FuncData}
/-- a reader's answer: None, or a new pair -/
def Answer (H : Hp) (Q : VK) : Option (Int × Int) → Prop
  | none => ∀ H', Same H H' → Q .non H'
  | some p => ∀ H' t, Same H H' → H t = none → H' t = some (.tup [.int p.1, .int p.2]) → Q (.ref t) H'
def spRead (R : List Nat → Option (Int × Int)) : Sp := fun vs H Q _ => ∃ a : List Nat, vs = [.str (S a)] ∧ a.length ≤ 10000 ∧ Answer H Q (R a)
theorem sc23 : FnScope ["word", "below", "head", "stroke", "tail", "top", "bottom"] ["word"] (defScope (top 23)) := fnScope_by (by decide +kernel)
theorem ok_ratio_of (m : Mg mg) (dk : DigK K) (c_whole_of : Cal P w K mg base 1 "whole_of" spWholeOf []) (F : Fn K "ratio_of" 23 f fd) (g : mg "ratio_of" = some (.ref f)) : Cal P w K mg base 2 "ratio_of" (spRead readP) [] := by
  have sc := sc23
  refine calD F g sc (fun _ _ _ _ _ _ us hl => match us, hl with | [_], _ => rfl) ?_ fun cdv A outer s H vs Q E hr h => ?_
  · rintro vs H Q E ⟨x, rfl, _⟩
    rfl
  · obtain ⟨a, rfl, hz, q⟩ := h
    refine ⟨_, (pss_cons (ps_set (i := 1) sc.nd rfl (.inl rfl) (pe_m1 PySem.F.slot_str_startswith PySem.F.type_str_startswith mt_startswith (pv 0) pe_str))
      (pss_cons (ps_asg (pe_partition (pe_slice sl_txt (pv 0) (po_some (pe_callTy call_int1 (by rfl) m.int_ boot_int (pa_cons (pv 1) pa_nil))) po_none) pe_str) (pg_tup rfl (pgs_cons (pg_name (i := 2) sc.nd rfl (.inl rfl)) (pgs_cons (pg_name (i := 3) sc.nd rfl (.inl rfl)) (pgs_cons (pg_name (i := 4) sc.nd rfl (.inl rfl)) pgs_nil)))))
      (pss_cons (ps_set (i := 5) sc.nd rfl (.inl rfl) (pe_c c_whole_of hr (by decide) (by rfl) (pa_cons (pv 2) pa_nil)))
      (pss_cons (ps_if ((pw_or (pt_cmpR op_isN (pv 5) pe_non (nomark _)) (pw_or1 ((pw_and (pt_val (pv 1)) (pw_and1 (pt_cmpR op_eq (pv 5) pe_int (nomark _))))).pt))).pt
        (pss_one (ps_ret pe_non))
        pss_nil)
      (pss_cons (ps_set (i := 6) sc.nd rfl (.inl rfl) pe_int)
      (pss_cons (ps_if (pt_truth (pv 3) (fun _ => rfl))
        (pss_cons (ps_set (i := 6) sc.nd rfl (.inl rfl) (pe_c c_whole_of hr (by decide) (by rfl) (pa_cons (pv 4) pa_nil)))
        (pss_one (ps_if ((pw_or (pt_cmpR op_isN (pv 6) pe_non (nomark _)) (pw_or (pt_cmpR op_lt (pv 6) pe_int (nomark _)) (pw_or1 (pt_cmpR op_ne (pe_callBfun cr_gcd (by rfl) m.gcd_ (pa_cons (pv 5) (pa_cons (pv 6) pa_nil))) pe_int (nomark _)))))).pt
          (pss_one (ps_ret pe_non))
          pss_nil)))
        pss_nil)
      (pss_one (ps_ret (pe_tup (pa_cons (pe_ifExp (pt_val (pv 1)) (pe_un un_neg (pv 5)) (pv 5)) (pa_cons (pv 6) pa_nil))))))))))), ?_⟩
    have em : (Str.ofString "-") = S [45] := by decide +kernel
    have es : (Str.ofString "/") = S [47] := by decide +kernel
    have sw : Txt.startswith (S a) (Str.ofString "-") = isNeg a := by
      rw [em]
      cases a with
      | nil => rfl
      | cons c r =>
        show (decide (0 + (S [45]).length ≤ (S (c :: r)).length) && PySem.Builtin.Str.subAt (S (c :: r)) (S [45]) 0) = _
        rw [S_len, S_len]
        simp [PySem.Builtin.Str.subAt, isNeg, Str.length]
        rw [Bool.eq_iff_iff]
        simp
    have sl : Txt.slice (S a) (some (if isNeg a = true then (1 : Int) else 0)) none = S (bareP a) := by
      unfold bareP
      cases isNeg a with
      | true => exact SX.slice_from (a := a) (i := 1) (by decide)
      | false => exact SX.slice_from (a := a) (i := 0) (by decide)
    have pc : Txt.partition (S (bareP a)) (Str.ofString "/") = (S (cut (bareP a)).1, S (if (cut (bareP a)).2.isSome = true then [47] else []), S ((cut (bareP a)).2.getD [])) := by rw [es]; exact part_cut _
    have lb : (bareP a).length ≤ 10000 := by
      unfold bareP
      split
      · rw [List.length_drop]; omega
      · exact hz
    have lc := cut_le (bareP a)
    have er : readP a = readB (isNeg a) (cut (bareP a)).1 (cut (bareP a)).2 := rfl
    simp only [L2.start, cxOf, tRet, tAndV, tOrV, tNotV, tCB, tCons, tNil, tVar, tC, tOp, tUn, tTest, tB, tIf, tIfS, tSeq, tAsg, tAnd, tOr, tNot, gName, tNext, tCall, tChain, rI, rI0, rEq, rNe, rGcd, rU, tM1, tM0, tSl, tFmtB, tJs, tPart, tNoPart, gTup, gCons, gNil, gSub, tTup, tLst, tPar, L2.rI, List.map_cons, List.map_nil, List.length_cons, List.length_nil, List.cons_append, List.nil_append, List.append_nil, List.getElem?_cons_zero, List.getElem?_cons_succ, List.set_cons_zero, List.set_cons_succ, Option.some.injEq, exists_eq_left, exists_eq_left', exists_eq_right, exists_and_left, exists_and_right, List.cons.injEq, and_true, true_and, V.int.injEq, V.str.injEq, V.bl.injEq, V.ref.injEq, List.replicate, Nat.reduceAdd, Nat.reduceSub, reduceCtorEq, false_and, and_false, if_true, if_false, Bool.false_eq_true, Bool.not_true, Bool.not_false, decide_eq_true_eq, spWholeOf, rSlX, sw, sl, pc]
    generalize (cut (bareP a)).1 = hd at *
    generalize (cut (bareP a)).2 = tl at *
    refine ⟨⟨_, rfl⟩, .inr ⟨small (by rw [S_len]; omega), ⟨_, rfl⟩, by decide +kernel, small (by rw [S_len]; omega), fun p hp => ⟨_, sqT_of upd_same, rfl, _, _, rfl, _, _, rfl, _, _, rfl, rfl, hd, rfl, small (by omega), ?_⟩⟩⟩
    have s1 : ∀ xs, Same H (upd H p (HO.tup xs)) := fun xs => same_new hp
    have back : ∀ {x : Option (Int × Int)}, readB (isNeg a) hd tl = x → Answer H Q x := fun e => by rw [← e, ← er]; exact q
    cases wh : wholeL hd with
    | none =>
      have z : readB (isNeg a) hd tl = none := by unfold readB; rw [wh]
      exact back z _ (s1 _)
    | some top =>
      have s2 := s1 [V.str (S hd), V.str (S (if tl.isSome = true then [47] else [])), V.str (S (tl.getD []))]
      revert s2
      generalize upd H p (HO.tup [V.str (S hd), V.str (S (if tl.isSome = true then [47] else [])), V.str (S (tl.getD []))]) = H1
      intro s2
      have qn : readB (isNeg a) hd tl = none → Q .non H1 := fun z => back z _ s2
      have qs : ∀ {i j : Int}, readB (isNeg a) hd tl = some (i, j) → ∀ t, H1 t = none → Q (.ref t) (upd H1 t (.tup [.int i, .int j])) := fun z t ht => back z _ t (s2.trans (same_new ht)) (s2.free ht) upd_same
      unfold readB at qn qs
      simp only [wh] at qn qs
      have t0 : TruV K (V.str (S [])) H1 false := ⟨small (by decide), by decide⟩
      have t1 : TruV K (V.str (S [47])) H1 true := ⟨small (by decide), by decide⟩
      simp only [optV, reduceCtorEq, if_false, V.int.injEq]
      have tail : ¬ (isNeg a = true ∧ top = 0) → ∃ k, TruV K (V.str (S (if tl.isSome = true then [47] else []))) H1 k ∧ if k = true then ∃ a_1, V.str (S (tl.getD [])) = V.str (S a_1) ∧ a_1.length ≤ sizeLine ∧
          if (match wholeL a_1 with
              | some n => V.int n
              | none => V.non) = V.non then Q V.non H1
          else ∃ i, (match wholeL a_1 with
              | some n => V.int n
              | none => V.non) = V.int i ∧ if i < 2 then Q V.non H1 else ∃ a_2 b, ((top : Int) = a_2 ∧ (match wholeL a_1 with
              | some n => V.int n
              | none => V.non) = V.int b) ∧ scal (V.int ((Nat.gcd a_2.natAbs b.natAbs : Nat) : Int)) (V.int 1) = true ∧ if (!decide (((Nat.gcd a_2.natAbs b.natAbs : Nat) : Int) = 1)) = true then Q V.non H1
                else if isNeg a = true then ∃ i, (top : Int) = i ∧ 2 ≤ sizeLine ∧ ∀ t, H1 t = none → Q (.ref t) (upd H1 t (.tup [.int (-i), (match wholeL a_1 with
              | some n => V.int n
              | none => V.non)])) else 2 ≤ sizeLine ∧ ∀ t, H1 t = none → Q (.ref t) (upd H1 t (.tup [.int (top : Int), (match wholeL a_1 with
              | some n => V.int n
              | none => V.non)]))
        else if isNeg a = true then ∃ i, (top : Int) = i ∧ 2 ≤ sizeLine ∧ ∀ t, H1 t = none → Q (.ref t) (upd H1 t (.tup [.int (-i), .int 1])) else 2 ≤ sizeLine ∧ ∀ t, H1 t = none → Q (.ref t) (upd H1 t (.tup [.int (top : Int), .int 1])) := by
        intro nz
        rw [if_neg nz] at qn
        simp only [if_neg nz] at qs
        cases tl with
        | none =>
          refine ⟨false, t0, ?_⟩
          rw [if_neg Bool.false_ne_true]
          cases hn : isNeg a with
          | true =>
            rw [if_pos rfl]
            exact ⟨_, rfl, small (by decide), qs (by rw [hn] <;> rfl)⟩
          | false =>
            rw [if_neg Bool.false_ne_true]
            exact ⟨small (by decide), qs (by rw [hn] <;> rfl)⟩
        | some t =>
          refine ⟨true, t1, ?_⟩
          rw [if_pos rfl]
          refine ⟨t, rfl, small (by have := lc.2 t rfl; omega), ?_⟩
          cases wt : wholeL t with
          | none =>
            rw [if_pos rfl]
            exact qn (by simp only [wt])
          | some bot =>
            simp only [wt] at qn qs
            simp only [reduceCtorEq, if_false, V.int.injEq]
            refine ⟨_, rfl, ?_⟩
            by_cases b2 : (bot : Int) < 2
            · rw [if_pos b2]
              exact qn (if_pos (.inl (by omega)))
            · rw [if_neg b2]
              refine ⟨_, _, ⟨rfl, rfl⟩, rfl, ?_⟩
              simp only [Int.natAbs_natCast]
              by_cases g1 : Nat.gcd top bot = 1
              · rw [if_neg (by simp [g1])]
                have z : ¬ (bot < 2 ∨ Nat.gcd top bot ≠ 1) := fun q => q.elim (by omega) (fun q => q g1)
                simp only [if_neg z] at qs
                cases hn : isNeg a with
                | true =>
                  rw [if_pos rfl]
                  exact ⟨_, rfl, small (by decide), qs (by rw [hn] <;> rfl)⟩
                | false =>
                  rw [if_neg Bool.false_ne_true]
                  exact ⟨small (by decide), qs (by rw [hn] <;> rfl)⟩
              · rw [if_pos (by
                  have : ¬ ((Nat.gcd top bot : Nat) : Int) = 1 := by omega
                  simpa using this)]
                exact qn (if_pos (.inr g1))
      cases hn : isNeg a with
      | true =>
        rw [if_pos rfl]
        refine ⟨rfl, ?_⟩
        by_cases z : (top : Int) = 0
        · rw [if_pos z]
          exact qn (if_pos ⟨hn, by omega⟩)
        · rw [if_neg z]
          rw [hn] at tail
          exact tail fun y => z (by omega)
      | false =>
        rw [if_neg Bool.false_ne_true]
        rw [hn] at tail
        exact tail fun y => Bool.false_ne_true y.1
theorem sc36 : FnScope ["word", "top", "mark", "under", "bare", "digits", "sign"] ["word"] (defScope (top 36)) := fnScope_by (by decide +kernel)
theorem ok_read (m : Mg mg) (dk : DigK K) (c__law_gcd : Cal P w K mg base 1 "_law_gcd" spGcd []) (F : Fn K "_law_read" 36 f fd) (g : mg "_law_read" = some (.ref f)) : Cal P w K mg base 2 "_law_read" (spRead readL) [] := by
  have sc := sc36
  refine calD F g sc (fun _ _ _ _ _ _ us hl => match us, hl with | [_], _ => rfl) ?_ fun cdv A outer s H vs Q E hr h => ?_
  · rintro vs H Q E ⟨x, rfl, _⟩
    rfl
  · obtain ⟨a, rfl, hz, q⟩ := h
    refine ⟨_, (pss_cons (ps_asg (pe_partition (pv 0) pe_str) (pg_tup rfl (pgs_cons (pg_name (i := 1) sc.nd rfl (.inl rfl)) (pgs_cons (pg_name (i := 2) sc.nd rfl (.inl rfl)) (pgs_cons (pg_name (i := 3) sc.nd rfl (.inl rfl)) pgs_nil)))))
      (pss_cons (ps_set (i := 4) sc.nd rfl (.inl rfl) (pe_ifExp (pt_cmpR op_eq (pe_slice sl_txt (pv 1) po_none (po_some pe_int)) pe_str (nomark _)) (pe_slice sl_txt (pv 1) (po_some pe_int) po_none) (pv 1)))
      (pss_cons (ps_for pown rfl (pi_list (pe_lst (pa_cons (pv 4) (pa_cons (pe_ifExp (pt_cmpR op_eq (pv 2) pe_str (nomark _)) (pv 3) pe_str) pa_nil)))) (pg_name (i := 5) sc.nd rfl (.inl rfl))
        (pss_one (ps_if ((pw_or (pt_cmpR op_eq (pv 5) pe_str (nomark _)) (pw_or (pt_cmpR op_gt (pe_callB call_len (by rfl) m.len_ boot_len (pa_cons (pv 5) pa_nil)) pe_int (nomark _)) (pw_or1 (pt_truth (pe_lc (own := [("sign", 6)]) (g := gName 6) (by rfl) sc.nd (pi_str (pv 5)) (blkOk_by (own := [("sign", 6)]) (N := [("word" : Str), ("top" : Str), ("mark" : Str), ("under" : Str), ("bare" : Str), ("digits" : Str), ("sign" : Str)]) (sc := defScope (top 36)) (by decide +kernel)) (fun _ _ _ _ _ => pg_name (i := 6) sc.nd rfl (.inl rfl)) (fun _ _ _ _ _ => (pts_one (pt_cmpR op_notIn_sign (pv 6) pe_str rfl))) (fun _ _ _ _ _ => (pv 6))) (fun _ => rfl)))))).pt
          (pss_one (ps_ret pe_non))
          pss_nil)))
      (pss_cons (ps_if ((pw_or ((pw_and (pt_cmpR op_eq (pe_ix ix_str (pv 4) pe_int (fun _ _ => rfl)) pe_str (nomark _)) (pw_and1 (pt_cmpR op_ne (pv 1) pe_str (nomark _))))).pt (pw_or1 ((pw_and (pt_cmpR op_eq (pv 2) pe_str (nomark _)) (pw_and1 ((pw_or (pt_cmpR op_eq (pe_ix ix_str (pv 3) pe_int (fun _ _ => rfl)) pe_str (nomark _)) (pw_or1 (pt_cmpR op_eq (pv 3) pe_str (nomark _))))).pt))).pt))).pt
        (pss_one (ps_ret pe_non))
        pss_nil)
      (pss_cons (ps_if (pt_cmpR op_eq (pv 2) pe_str (nomark _))
        (pss_one (ps_ret (pe_tup (pa_cons (pe_callTy (call_intTxt dk) (by rfl) m.int_ boot_int (pa_cons (pv 1) pa_nil)) (pa_cons pe_int pa_nil)))))
        pss_nil)
      (pss_cons (ps_if (pt_cmpR op_ne (pe_c c__law_gcd hr (by decide) (by rfl) (pa_cons (pe_callTy (call_intTxt dk) (by rfl) m.int_ boot_int (pa_cons (pv 4) pa_nil)) (pa_cons (pe_callTy (call_intTxt dk) (by rfl) m.int_ boot_int (pa_cons (pv 3) pa_nil)) pa_nil))) pe_int (nomark _))
        (pss_one (ps_ret pe_non))
        pss_nil)
      (pss_one (ps_ret (pe_tup (pa_cons (pe_callTy (call_intTxt dk) (by rfl) m.int_ boot_int (pa_cons (pv 1) pa_nil)) (pa_cons (pe_callTy (call_intTxt dk) (by rfl) m.int_ boot_int (pa_cons (pv 3) pa_nil)) pa_nil))))))))))), ?_⟩
    have es : (Str.ofString "/") = S [47] := by decide +kernel
    have pc : Txt.partition (S a) (Str.ofString "/") = (S (cut a).1, S (if (cut a).2.isSome = true then [47] else []), S ((cut a).2.getD [])) := by rw [es]; exact part_cut _
    have lc := cut_le a
    simp only [L2.start, cxOf, tRet, tAndV, tOrV, tNotV, tCB, tCons, tNil, tVar, tC, tOp, tUn, tTest, tB, tSeq, tAsg, tNot, gName, tNext, tCall, tChain, rI, rI0, rEq, rNe, rGcd, rU, tM1, tM0, tSl, tFmtB, tJs, tPart, tNoPart, gTup, gCons, gNil, gSub, tTup, tLst, tPar, L2.rI, List.map_cons, List.map_nil, List.length_cons, List.length_nil, List.cons_append, List.nil_append, List.append_nil, List.getElem?_cons_zero, List.getElem?_cons_succ, List.set_cons_zero, List.set_cons_succ, Option.some.injEq, exists_eq_left, exists_eq_left', exists_eq_right, exists_and_left, exists_and_right, List.cons.injEq, and_true, true_and, V.int.injEq, V.str.injEq, V.bl.injEq, V.ref.injEq, List.replicate, Nat.reduceAdd, Nat.reduceSub, reduceCtorEq, false_and, and_false, if_true, if_false, Bool.false_eq_true, Bool.not_true, Bool.not_false, decide_eq_true_eq, spGcd, rSlX, pc]
    refine ⟨⟨_, rfl⟩, by decide +kernel, small (by rw [S_len]; omega), fun p hp => ⟨_, sqT_of upd_same, rfl, _, _, rfl, _, _, rfl, _, _, rfl, rfl, ?_⟩⟩
    have s2 : Same H (upd H p (HO.tup [V.str (S (cut a).1), V.str (S (if (cut a).2.isSome = true then [47] else [])), V.str (S ((cut a).2.getD []))])) := same_new hp
    revert s2
    generalize upd H p (HO.tup [V.str (S (cut a).1), V.str (S (if (cut a).2.isSome = true then [47] else [])), V.str (S ((cut a).2.getD []))]) = H1
    intro s2
    generalize hT : (cut a).1 = top at *
    generalize hU : (cut a).2 = tail at *
    refine at_te0 (.str (S (bareP top))) (fun R k => ?_) ?_
    · simp only [L2.start, cxOf, tRet, tAndV, tOrV, tNotV, tCB, tCons, tNil, tVar, tC, tOp, tUn, tTest, tB, tIf, tIfS, tSeq, tAsg, tAnd, tOr, tNot, gName, tNext, tCall, tChain, rI, rI0, rEq, rNe, rGcd, rU, tM1, tM0, tSl, tFmtB, tJs, tPart, tNoPart, gTup, gCons, gNil, gSub, tTup, tLst, tPar, L2.rI, List.map_cons, List.map_nil, List.length_cons, List.length_nil, List.cons_append, List.nil_append, List.append_nil, List.getElem?_cons_zero, List.getElem?_cons_succ, List.set_cons_zero, List.set_cons_succ, Option.some.injEq, exists_eq_left, exists_eq_left', exists_eq_right, exists_and_left, exists_and_right, List.cons.injEq, and_true, true_and, V.int.injEq, V.str.injEq, V.bl.injEq, V.ref.injEq, List.replicate, Nat.reduceAdd, Nat.reduceSub, reduceCtorEq, false_and, and_false, if_true, if_false, Bool.false_eq_true, Bool.not_true, Bool.not_false, decide_eq_true_eq, rSlX]
      have em : (Str.ofString "-") = S [45] := by decide +kernel
      have sl : Txt.slice (S top) none (some 1) = S (top.take 1) := SX.slice_to (a := top) (i := 1) (by decide)
      refine ⟨small (by rw [S_len]; omega), rfl, ?_⟩
      rw [sl, em]
      by_cases hn : isNeg top = true
      · rw [if_pos (by
          unfold isNeg at hn
          have := of_decide_eq_true hn
          cases top with
          | nil => cases this
          | cons c r =>
            have : c = 45 := by simpa using this
            rw [this]; rfl)]
        refine ⟨small (by rw [S_len]; omega), ?_⟩
        rw [SX.slice_from (a := top) (i := 1) (by decide)]
        unfold bareP at k
        rw [if_pos hn] at k
        exact k
      · rw [if_neg (fun z => by
          have z := SX.S_inj z
          refine hn ?_
          cases top with
          | nil => cases z
          | cons c r =>
            have : c = 45 := by simpa using z
            rw [this]; simp [isNeg])]
        unfold bareP at k
        rw [if_neg hn] at k
        exact k
    · have lb : (bareP top).length ≤ 10000 := by
        unfold bareP
        split
        · rw [List.length_drop]; omega
        · omega
      have lu : (tail.getD [49]).length ≤ 10000 := by
        cases tail with
        | none => decide
        | some t =>
          have := lc.2 t rfl
          show t.length ≤ 10000
          omega
      have dg : ∀ c : Nat, decide (c ∈ (Str.ofString "0123456789").cps.toList) = dig c := fun c => by
        have : (Str.ofString "0123456789").cps.toList = [48, 49, 50, 51, 52, 53, 54, 55, 56, 57] := by decide +kernel
        rw [this, Bool.eq_iff_iff]
        simp only [decide_eq_true_eq, List.mem_cons, List.not_mem_nil, or_false, dig, Bool.and_eq_true]
        omega
      have mk : (V.str (S (if tail.isSome = true then [47] else [])) = V.str (Str.ofString "/")) = (tail.isSome = true) := by
        rw [str_is es]
        cases tail <;> simp
      refine for_list_new [.str (S (bareP top)), .str (S (tail.getD [49]))] (small (by simp)) (fun R k => ?_) (fun l hl => ?_)
      · simp only [L2.start, cxOf, tRet, tAndV, tOrV, tNotV, tCB, tCons, tNil, tVar, tC, tOp, tUn, tTest, tB, tIf, tIfS, tSeq, tAsg, tAnd, tOr, tNot, gName, tNext, tCall, tChain, rI, rI0, rEq, rNe, rGcd, rU, tM1, tM0, tSl, tFmtB, tJs, tPart, tNoPart, gTup, gCons, gNil, gSub, tTup, tLst, tPar, L2.rI, List.map_cons, List.map_nil, List.length_cons, List.length_nil, List.cons_append, List.nil_append, List.append_nil, List.getElem?_cons_zero, List.getElem?_cons_succ, List.set_cons_zero, List.set_cons_succ, Option.some.injEq, exists_eq_left, exists_eq_left', exists_eq_right, exists_and_left, exists_and_right, List.cons.injEq, and_true, true_and, V.int.injEq, V.str.injEq, V.bl.injEq, V.ref.injEq, List.replicate, Nat.reduceAdd, Nat.reduceSub, reduceCtorEq, false_and, and_false, if_true, if_false, Bool.false_eq_true, Bool.not_true, Bool.not_false, decide_eq_true_eq, rSlX]
        refine ⟨rfl, ?_⟩
        have o1 : (Str.ofString "1") = S [49] := by decide +kernel
        rw [o1, es]
        cases tail with
        | none => exact k
        | some t => exact k
      · have s3 : Same H (upd H1 l (HO.lst [V.str (S (bareP top)), V.str (S (tail.getD [49]))])) := s2.trans (same_new hl)
        have hl3 : (upd H1 l (HO.lst [V.str (S (bareP top)), V.str (S (tail.getD [49]))])) l = some (.lst [V.str (S (bareP top)), V.str (S (tail.getD [49]))]) := upd_same
        revert s3 hl3
        generalize (upd H1 l (HO.lst [V.str (S (bareP top)), V.str (S (tail.getD [49]))])) = H3
        intro s3 hl3
        refine ⟨fun i σ' H' => Same H3 H' ∧ (∃ y5 y6, σ' = [some (V.str (S a)), some (V.str (S top)), some (V.str (S (if tail.isSome = true then [47] else []))), some (V.str (S (tail.getD []))), some (V.str (S (bareP top))), y5, y6]) ∧
          (1 ≤ i → bad (bareP top) = false) ∧ (2 ≤ i → bad (tail.getD [49]) = false), ⟨Same.refl _, ⟨none, none, rfl⟩, by omega, by omega⟩, (fun i σ' H' _ hP => SqL.of (hP.1 _ _ hl3)), ?_, ?_⟩
        · rintro i x σ' H' hx ⟨s4, ⟨y5, y6, rfl⟩, p1, p2⟩
          have pick : ∃ d, x = .str (S d) ∧ d.length ≤ 10000 ∧ ((i = 0 ∧ d = bareP top) ∨ (i = 1 ∧ d = tail.getD [49])) := by
            match i, hx with
            | 0, hx => exact ⟨_, (Option.some.inj hx).symm, lb, .inl ⟨rfl, rfl⟩⟩
            | 1, hx => exact ⟨_, (Option.some.inj hx).symm, lu, .inr ⟨rfl, rfl⟩⟩
            | n + 2, hx => simp at hx
          obtain ⟨d, rfl, ld, hd⟩ := pick
          have bn : bad d = true → readL a = none := fun z => by
            unfold readL
            rw [hT, hU]
            rcases hd with ⟨_, e⟩ | ⟨_, e⟩
            · exact if_pos (.inl (by rw [← e]; exact z))
            · exact if_pos (.inr (by rw [← e]; exact z))
          simp only [gName, List.set_cons_succ, List.set_cons_zero, tIfS]
          refine at_tt (bad d) (fun R k => ?_) (fun H5 s5 => ?_)
          · have e0 : (Str.ofString "") = S [] := by decide +kernel
            simp only [L2.start, cxOf, tRet, tAndV, tOrV, tNotV, tCB, tCons, tNil, tVar, tC, tOp, tUn, tTest, tB, tIf, tIfS, tSeq, tAsg, tAnd, tOr, tNot, gName, tNext, tCall, tChain, rI, rI0, rEq, rNe, rGcd, rU, tM1, tM0, tSl, tFmtB, tJs, tPart, tNoPart, gTup, gCons, gNil, gSub, tTup, tLst, tPar, L2.rI, List.map_cons, List.map_nil, List.length_cons, List.length_nil, List.cons_append, List.nil_append, List.append_nil, List.getElem?_cons_zero, List.getElem?_cons_succ, List.set_cons_zero, List.set_cons_succ, Option.some.injEq, exists_eq_left, exists_eq_left', exists_eq_right, exists_and_left, exists_and_right, List.cons.injEq, and_true, true_and, V.int.injEq, V.str.injEq, V.bl.injEq, V.ref.injEq, List.replicate, Nat.reduceAdd, Nat.reduceSub, reduceCtorEq, false_and, and_false, if_true, if_false, Bool.false_eq_true, Bool.not_true, Bool.not_false, decide_eq_true_eq]
            refine ⟨rfl, ?_⟩
            rw [e0]
            by_cases d0 : d = []
            · rw [if_pos (by rw [d0])]
              have := k H' (Same.refl _)
              rw [show bad d = true by rw [d0]; decide] at this
              exact this
            · rw [if_neg (fun z => d0 (SX.S_inj z))]
              refine ⟨d.length, len_S (small (by omega)), ?_⟩
              by_cases d4 : (4000 : Int) < (d.length : Int)
              · rw [if_pos d4]
                have := k H' (Same.refl _)
                rw [show bad d = true by unfold bad; simp; omega] at this
                exact this
              · rw [if_neg d4]
                have eb : bad d = !d.all dig := by
                  unfold bad
                  rw [decide_eq_false d0, decide_eq_false (show ¬ 4000 < d.length by omega)]
                  simp
                rw [eb] at k
                refine ⟨.str (S d), rfl, S d, rfl, fun D hD => lc_it walk_str (fun i Hx => Hx = upd H' D (.lst (((d.take i).filter (fun c => !dig c)).map (fun c => V.str (S [c]))))) (by simp) (fun _ _ _ _ => trivial) ?_ ?_⟩
                · rintro i x Hx Hy hi rfl ⟨rfl, c, hc, rfl⟩
                  have hc : d[i]? = some c := by simpa using hc
                  have hlt : i < d.length := (List.getElem?_eq_some_iff.mp hc).1
                  have ht : d.take (i + 1) = d.take i ++ [c] := by
                    rw [List.take_add_one, hc] <;> rfl
                  simp only [L2.start, cxOf, tRet, tAndV, tOrV, tNotV, tCB, tCons, tNil, tVar, tC, tOp, tUn, tTest, tB, tIf, tIfS, tSeq, tAsg, tAnd, tOr, tNot, gName, tNext, tCall, tChain, rI, rI0, rEq, rNe, rGcd, rU, tM1, tM0, tSl, tFmtB, tJs, tPart, tNoPart, gTup, gCons, gNil, gSub, tTup, tLst, tPar, L2.rI, List.map_cons, List.map_nil, List.length_cons, List.length_nil, List.cons_append, List.nil_append, List.append_nil, List.getElem?_cons_zero, List.getElem?_cons_succ, List.set_cons_zero, List.set_cons_succ, Option.some.injEq, exists_eq_left, exists_eq_left', exists_eq_right, exists_and_left, exists_and_right, List.cons.injEq, and_true, true_and, V.int.injEq, V.str.injEq, V.bl.injEq, V.ref.injEq, List.replicate, Nat.reduceAdd, Nat.reduceSub, reduceCtorEq, false_and, and_false, if_true, if_false, Bool.false_eq_true, Bool.not_true, Bool.not_false, decide_eq_true_eq, wipe, dg]
                  refine ⟨c, rfl, ?_⟩
                  cases hd : dig c with
                  | true =>
                    rw [if_neg (by decide), ht, List.filter_append]
                    simp [hd]
                  | false =>
                    rw [if_pos (by decide)]
                    refine ⟨_, upd_same, ?_, ?_⟩
                    · rw [List.length_map]
                      have := List.length_filter_le (fun c => !dig c) (d.take i)
                      rw [List.length_take] at this
                      exact Nat.lt_of_lt_of_le (show _ < 16777216 by omega) (small (Nat.le_refl _))
                    · rw [upd_upd, ht, List.filter_append]
                      simp [hd]
                · rintro Hx rfl
                  have hs : (S d).cps.size = d.length := by simp
                  rw [hs, List.take_length]
                  refine ⟨_, .inl ⟨_, SqL.of upd_same, rfl⟩, ?_⟩
                  have : (!((d.filter (fun c => !dig c)).map (fun c => V.str (S [c]))).isEmpty) = !d.all dig := by
                    cases ha : d.all dig with
                    | true =>
                      have : d.filter (fun c => !dig c) = [] := List.filter_eq_nil_iff.mpr fun c hc => by rw [List.all_eq_true.mp ha c hc]; decide
                      rw [this] <;> rfl
                    | false =>
                      obtain ⟨c, hc, hd⟩ := List.all_eq_false.mp ha
                      have hm : c ∈ d.filter (fun c => !dig c) := List.mem_filter.mpr ⟨hc, by simpa using hd⟩
                      cases hf : d.filter (fun c => !dig c) with
                      | nil => rw [hf] at hm; cases hm
                      | cons x r => rfl
                  rw [this]
                  exact k _ (same_new hD)
          · cases hb : bad d with
            | true =>
              rw [if_pos rfl]
              have z := bn hb
              rw [z] at q
              exact q _ (s3.trans (s4.trans s5))
            | false =>
              rw [if_neg Bool.false_ne_true]
              refine ⟨s4.trans s5, ⟨_, _, rfl⟩, fun _ => ?_, fun h2 => ?_⟩
              · rcases hd with ⟨e, e2⟩ | ⟨e, e2⟩
                · rw [← e2]; exact hb
                · exact p1 (by omega)
              · rcases hd with ⟨e, e2⟩ | ⟨e, e2⟩
                · omega
                · rw [← e2]; exact hb
        · rintro σ' H' ⟨s4, ⟨y5, y6, rfl⟩, p1, p2⟩
          have g1 := p1 (by show 1 ≤ 2; decide)
          have g2 := p2 (by show 2 ≤ 2; decide)
          obtain ⟨c, r, ec⟩ : ∃ c r, bareP top = c :: r := by
            cases z : bareP top with
            | nil => rw [z] at g1; exact absurd g1 (by decide)
            | cons c r => exact ⟨c, r, rfl⟩
          have z0 : (Str.ofString "0") = S [48] := by decide +kernel
          have o1 : (Str.ofString "1") = S [49] := by decide +kernel
          have n0 : (Str.ofString "") = S [] := by decide +kernel
          have eL : readL a = (if ((bareP top).head? = some 48 ∧ top ≠ [48]) ∨ (tail.isSome = true ∧ ((tail.getD [49]).head? = some 48 ∨ tail.getD [49] = [49])) then none
            else if tail.isSome = true then (if Nat.gcd (NumText.digitsVal (bareP top)) (NumText.digitsVal (tail.getD [49])) ≠ 1 then none else some (if isNeg top = true then -(NumText.digitsVal (bareP top) : Int) else NumText.digitsVal (bareP top), (NumText.digitsVal (tail.getD [49]) : Int)))
            else some (if isNeg top = true then -(NumText.digitsVal (bareP top) : Int) else NumText.digitsVal (bareP top), 1)) := by
            unfold readL
            simp only [hT, hU]
            exact if_neg (fun z => z.elim (by rw [g1]; decide) (by rw [g2]; decide))
          rw [eL] at q
          have s5 := s3.trans s4
          simp only [tSeq, tIfS, tRet, tNext]
          refine at_tt0 (decide (((bareP top).head? = some 48 ∧ top ≠ [48]) ∨ (tail.isSome = true ∧ ((tail.getD [49]).head? = some 48 ∨ tail.getD [49] = [49])))) (fun R k => ?_) ?_
          · have kk : ∀ b : Bool, (b = true ↔ ((bareP top).head? = some 48 ∧ top ≠ [48]) ∨ (tail.isSome = true ∧ ((tail.getD [49]).head? = some 48 ∨ tail.getD [49] = [49]))) → R b H' := fun b e => by
              have : b = decide (((bareP top).head? = some 48 ∧ top ≠ [48]) ∨ (tail.isSome = true ∧ ((tail.getD [49]).head? = some 48 ∨ tail.getD [49] = [49]))) := by
                rw [Bool.eq_iff_iff, decide_eq_true_eq]
                exact e
              rw [this]
              exact k
            have one48 : ∀ c : Nat, (V.str (S [c]) = V.str (S [48])) = (c = 48) := fun c => by rw [str_is rfl]; simp
            simp only [L2.start, cxOf, tRet, tAndV, tOrV, tNotV, tCB, tCons, tNil, tVar, tC, tOp, tUn, tTest, tB, tIf, tIfS, tSeq, tAsg, tAnd, tOr, tNot, gName, tNext, tCall, tChain, rI, rI0, rEq, rNe, rGcd, rU, tM1, tM0, tSl, tFmtB, tJs, tPart, tNoPart, gTup, gCons, gNil, gSub, tTup, tLst, tPar, L2.rI, List.map_cons, List.map_nil, List.length_cons, List.length_nil, List.cons_append, List.nil_append, List.append_nil, List.getElem?_cons_zero, List.getElem?_cons_succ, List.set_cons_zero, List.set_cons_succ, Option.some.injEq, exists_eq_left, exists_eq_left', exists_eq_right, exists_and_left, exists_and_right, List.cons.injEq, and_true, true_and, V.int.injEq, V.str.injEq, V.bl.injEq, V.ref.injEq, List.replicate, Nat.reduceAdd, Nat.reduceSub, reduceCtorEq, false_and, and_false, if_true, if_false, Bool.false_eq_true, Bool.not_true, Bool.not_false, decide_eq_true_eq, z0, o1, es]
            have second : ¬ ((bareP top).head? = some 48 ∧ top ≠ [48]) → scal (V.str (S (if tail.isSome = true then [47] else []))) (V.str (S [47])) = true ∧
                if S (if tail.isSome = true then [47] else []) = S [47] then
                  rIxS (V.str (S (tail.getD []))) (V.int 0) H' fun x H1 => scal x (V.str (S [48])) = true ∧ if x = V.str (S [48]) then R true H1 else scal (V.str (S (tail.getD []))) (V.str (S [49])) = true ∧ R (decide (S (tail.getD []) = S [49])) H1
                else R false H' := by
              intro nw
              refine ⟨rfl, ?_⟩
              cases tail with
              | none =>
                rw [if_neg (fun z => by cases (SX.S_inj z))]
                exact kk _ (by simp only [nw, Option.isSome_none, Bool.false_eq_true, false_and, or_self])
              | some t =>
                rw [if_pos (show S (if (some t).isSome = true then [47] else []) = S [47] from rfl)]
                obtain ⟨c2, r2, e2⟩ : ∃ c r, t = c :: r := by
                  cases t with
                  | nil => exact absurd g2 (by decide)
                  | cons c r => exact ⟨c, r, rfl⟩
                have lt : t.length ≤ 10000 := lu
                refine ⟨_, 0, c2, rfl, rfl, small (by show (S t).length ≤ _; rw [S_len]; omega), by show atI t 0 = some c2; rw [e2]; exact at_zero, rfl, ?_⟩
                show if V.str (S [c2]) = V.str (S [48]) then _ else _
                simp only [one48]
                by_cases h48 : c2 = 48
                · rw [if_pos h48]
                  exact kk _ ⟨fun _ => .inr ⟨rfl, .inl (by show t.head? = _; rw [e2, h48]; rfl)⟩, fun _ => rfl⟩
                · rw [if_neg h48]
                  refine ⟨rfl, kk _ ?_⟩
                  have h1 : ¬ t.head? = some 48 := by rw [e2]; simpa using h48
                  rw [decide_eq_true_eq]
                  constructor
                  · intro z
                    exact .inr ⟨rfl, .inr (SX.S_inj z)⟩
                  · rintro (z | ⟨_, z | z⟩)
                    · exact absurd z nw
                    · exact absurd z h1
                    · exact congrArg S z
            refine ⟨_, 0, c, rfl, rfl, small (by rw [S_len]; omega), by show atI (bareP top) 0 = some c; rw [ec]; exact at_zero, rfl, ?_⟩
            show if V.str (S [c]) = V.str (S [48]) then _ else _
            simp only [one48]
            by_cases h48 : c = 48
            · rw [if_pos h48]
              refine ⟨rfl, ?_⟩
              by_cases t48 : top = [48]
              · rw [if_neg (by simp [t48])]
                exact second fun z => z.2 t48
              · rw [if_pos (by
                  have : ¬ S top = S [48] := fun z => t48 (SX.S_inj z)
                  simp [this])]
                exact kk _ ⟨fun _ => .inl ⟨by rw [ec, h48]; rfl, t48⟩, fun _ => rfl⟩
            · rw [if_neg h48]
              exact second fun z => h48 (by
                have := z.1
                rw [ec] at this
                simpa using this)
          · by_cases wrong : ((bareP top).head? = some 48 ∧ top ≠ [48]) ∨ (tail.isSome = true ∧ ((tail.getD [49]).head? = some 48 ∨ tail.getD [49] = [49]))
            · rw [if_pos wrong] at q
              rw [if_pos (decide_eq_true wrong)]
              exact q _ s5
            · rw [if_neg wrong] at q
              rw [if_neg (by simpa using wrong)]
              have parts : ∀ {d : List Nat}, bad d = false → d ≠ [] ∧ d.length ≤ 4000 ∧ d.all dig = true := fun {d} h => by
                unfold bad at h
                simp only [Bool.or_eq_false_iff, decide_eq_false_iff_not, Bool.not_eq_false'] at h
                exact ⟨h.1.1, by omega, h.2⟩
              obtain ⟨b1, b2, b3⟩ := parts g1
              obtain ⟨u1, u2, u3⟩ := parts g2
              have lt : top.length ≤ 4001 := by
                unfold bareP at b2
                split at b2
                · rw [List.length_drop] at b2; omega
                · omega
              have it : intText? (S top) = some (if isNeg top = true then -(NumText.digitsVal (bareP top) : Int) else NumText.digitsVal (bareP top)) := by
                cases hn : isNeg top with
                | true =>
                  have et : top = 45 :: bareP top := by
                    unfold bareP
                    rw [hn, if_pos rfl]
                    unfold isNeg at hn
                    have hn := of_decide_eq_true hn
                    cases top with
                    | nil => cases hn
                    | cons c r =>
                      have : c = 45 := by simpa using hn
                      rw [this] <;> rfl
                  rw [if_pos rfl]
                  refine intText_neg (x := S top) (cs := bareP top) et (fun c hc => ?_) b1 (by rw [S_len]; omega)
                  have := List.all_eq_true.mp b3 c hc
                  simp only [dig, Bool.and_eq_true, decide_eq_true_eq] at this
                  exact this
                | false =>
                  have et : bareP top = top := by
                    unfold bareP
                    rw [hn, if_neg Bool.false_ne_true]
                  rw [et] at b1 b3
                  rw [if_neg Bool.false_ne_true, et]
                  exact SX.int_S b3 b1 (by omega)
              simp only [L2.start, cxOf, tRet, tAndV, tOrV, tNotV, tCB, tCons, tNil, tVar, tC, tOp, tUn, tTest, tB, tIf, tIfS, tSeq, tAsg, tAnd, tOr, tNot, gName, tNext, tCall, tChain, rI, rI0, rEq, rNe, rGcd, rU, tM1, tM0, tSl, tFmtB, tJs, tPart, tNoPart, gTup, gCons, gNil, gSub, tTup, tLst, tPar, L2.rI, List.map_cons, List.map_nil, List.length_cons, List.length_nil, List.cons_append, List.nil_append, List.append_nil, List.getElem?_cons_zero, List.getElem?_cons_succ, List.set_cons_zero, List.set_cons_succ, Option.some.injEq, exists_eq_left, exists_eq_left', exists_eq_right, exists_and_left, exists_and_right, List.cons.injEq, and_true, true_and, V.int.injEq, V.str.injEq, V.bl.injEq, V.ref.injEq, List.replicate, Nat.reduceAdd, Nat.reduceSub, reduceCtorEq, false_and, and_false, if_true, if_false, Bool.false_eq_true, Bool.not_true, Bool.not_false, decide_eq_true_eq, spGcd, n0]
              refine ⟨rfl, ?_⟩
              cases tail with
              | none =>
                rw [if_pos (show S (if (none : Option (List Nat)).isSome = true then [47] else []) = S [] from rfl)]
                rw [if_neg (by decide)] at q
                exact ⟨_, it, by rw [S_len]; omega, small (by decide), fun t ht => q _ t (s5.trans (same_new ht)) (s5.free ht) upd_same⟩
              | some t =>
                rw [if_neg (fun z => by cases (SX.S_inj z))]
                rw [if_pos (show (some t).isSome = true from rfl)] at q
                simp only [Option.getD_some] at q
                have l2 : t.length ≤ 4000 := u2
                have i2 : intText? (S t) = some (NumText.digitsVal t : Int) := SX.int_S u3 u1 (by omega)
                refine ⟨_, SX.int_S b3 b1 (by omega), by rw [S_len]; omega, _, i2, by show (S t).length ≤ _; rw [S_len]; omega, _, _, ⟨rfl, rfl⟩, rfl, ?_⟩
                by_cases g : Nat.gcd (NumText.digitsVal (bareP top)) (NumText.digitsVal t) = 1
                · rw [if_neg (by simp [g])]
                  rw [if_neg (not_not_intro g)] at q
                  exact ⟨_, it, by rw [S_len]; omega, _, i2, by show (S t).length ≤ _; rw [S_len]; omega, small (by decide), fun p hp => q _ p (s5.trans (same_new hp)) (s5.free hp) upd_same⟩
                · rw [if_pos (by
                    have : ¬ ((Nat.gcd (NumText.digitsVal (bareP top)) (NumText.digitsVal t) : Nat) : Int) = 1 := by omega
                    simp [this])]
                  rw [if_pos g] at q
                  exact q _ s5
end
end W17

set_option Elab.async false
set_option linter.all false
set_option maxRecDepth 100000
set_option maxHeartbeats 4000000
/-! D17: what a value tells; likeness -/
namespace W17
open PySem PySem.Spec PyProof.Rows L2 Lay P17
open SX (S S_len S_cat S_tl)
open C8 (Cal pe_c pe_gc fnScope_by E0 sl_txt rSlX)
theorem tyx_non {K : PySem.W.Frag} {H : Hp} {x : V} {t : Value} (ty : TyX K H x t) : x = .non ↔ t = .type "NoneType" := by
  have key : ∀ {a : String}, Value.type a = Value.type "NoneType" → a ≠ "NoneType" → False := fun e n => n (Value.type.inj e)
  cases ty with
  | base h => cases h <;> first
    | exact ⟨fun _ => rfl, fun _ => rfl⟩
    | exact ⟨fun z => (by cases z), fun z => (key z (by decide)).elim⟩
    | exact ⟨fun z => (by cases z), fun z => (by cases z)⟩
  | _ => first
    | exact ⟨fun z => (by cases z), fun z => (key z (by decide)).elim⟩
theorem kd_is_non {K : PySem.W.Frag} {H : Hp} {x : V} (k : Kd K H x "NoneType") : x = .non := (tyx_non k.2).mpr rfl
theorem kd_not_non {K : PySem.W.Frag} {H : Hp} {x : V} {t : String} (k : Kd K H x t) (h : t ≠ "NoneType") : ¬ x = .non := fun e => h (Value.type.inj ((tyx_non k.2).mp e))
/-- a value of the law, and the number that it tells -/
inductive Sh (K : PySem.W.Frag) (H : Hp) : V → Option (Int × Int) → Prop
  | int (i : Int) (h : i.natAbs < Lim) : Sh K H (.int i) (some (i, 1))
  | str (a : List Nat) (h : a.length ≤ 10000) : Sh K H (.str (S a)) (readP a)
  | pair (t : Addr) (i j : Int) (ht : H t = some (.tup [.int i, .int j])) (h1 : i.natAbs < Lim) (h2 : j.natAbs < Lim) : Sh K H (.ref t) (if 1 ≤ j ∧ Nat.gcd i.natAbs j.natAbs = 1 then some (i, j) else none)
  | two (t : Addr) (u v : V) (ku kv : String) (ht : H t = some (.tup [u, v])) (tu : Kd K H u ku) (tv : Kd K H v kv) (ne : ¬ (ku = "int" ∧ kv = "int")) : Sh K H (.ref t) none
  | tup (t : Addr) (xs : List V) (ht : H t = some (.tup xs)) (ne : xs.length ≠ 2) : Sh K H (.ref t) none
  | other (x : V) (k : String) (tk : Kd K H x k) (hk : k ∈ (["bool", "NoneType", "list", "dict"] : List String)) : Sh K H x none
theorem Sh.same {K : PySem.W.Frag} {H H' : Hp} {x : V} {n : Option (Int × Int)} (s : Sh K H x n) (e : Same H H') : Sh K H' x n := by
  cases s with
  | int i h => exact .int i h
  | str a h => exact .str a h
  | pair t i j ht h1 h2 => exact .pair t i j (e _ _ ht) h1 h2
  | two t u v ku kv ht tu tv ne => exact .two t u v ku kv (e _ _ ht) (tu.same e) (tv.same e) ne
  | tup t xs ht ne => exact .tup t xs (e _ _ ht) ne
  | other x k tk hk => exact .other x k (tk.same e) hk
theorem Sh.good {K : PySem.W.Frag} {H : Hp} {x : V} {n : Option (Int × Int)} (s : Sh K H x n) {p : Int × Int} (e : n = some p) : Good p := by
  cases s with
  | int i h =>
    cases e
    exact ⟨Int.le_refl _, by show Nat.gcd _ 1 = 1; exact Nat.gcd_one_right _, h, one_lim⟩
  | str a h => exact read_good e
  | pair t i j ht h1 h2 =>
    split at e
    · rename_i g
      cases e
      exact ⟨g.1, g.2, h1, h2⟩
    · cases e
  | two => cases e
  | tup => cases e
  | other => cases e
section
variable {P : Program} {w : World} {K : PySem.W.Frag} {mg : Str → Option Value} {base : Heap} {f : Addr} {fd : FuncData}
theorem sc46 : FnScope ["value", "top", "under", "part"] ["value"] (defScope (top 46)) := fnScope_by (by decide +kernel)
def spNum (K : PySem.W.Frag) : Sp := fun vs H Q _ => ∃ x n, vs = [x] ∧ Sh K H x n ∧ Answer H Q n
theorem ok_number_of (m : Mg mg) (c__law_read : Cal P w K mg base 2 "_law_read" (spRead readL) []) (c__law_gcd : Cal P w K mg base 1 "_law_gcd" spGcd []) (F : Fn K "_law_number_of" 46 f fd) (g : mg "_law_number_of" = some (.ref f)) :
    Cal P w K mg base 3 "_law_number_of" (spNum K) [] := by
  have sc := sc46
  refine calD F g sc (fun _ _ _ _ _ _ us hl => match us, hl with | [_], _ => rfl) ?_ fun cdv A outer s H vs Q E hr h => ?_
  · rintro vs H Q E ⟨x, n, rfl, _⟩
    rfl
  · obtain ⟨x, n, rfl, sh, q⟩ := h
    refine ⟨_, (pss_cons (ps_if ((pw_or (pt_val (pe_callB call_isB (by rfl) m.isinstance_ boot_isinstance (pa_cons (pv 0) (pa_cons (pe_bltn (v := .ty "bool") (by rfl) m.bool_ boot_bool rfl) pa_nil)))) (pw_or1 (pt_cmpR op_isN (pv 0) pe_non (nomark _))))).pt
        (pss_one (ps_ret pe_non))
        pss_nil)
      (pss_cons (ps_if (pt_val (pe_callB call_isB (by rfl) m.isinstance_ boot_isinstance (pa_cons (pv 0) (pa_cons (pe_bltn (v := .ty "int") (by rfl) m.int_ boot_int rfl) pa_nil))))
        (pss_one (ps_ret (pe_tup (pa_cons (pv 0) (pa_cons pe_int pa_nil)))))
        pss_nil)
      (pss_cons (ps_if (pt_val (pe_callB call_isB (by rfl) m.isinstance_ boot_isinstance (pa_cons (pv 0) (pa_cons (pe_bltn (v := .ty "str") (by rfl) m.str_ boot_str rfl) pa_nil))))
        (pss_one (ps_ret (pe_c c__law_read hr (by decide) (by rfl) (pa_cons (pv 0) pa_nil))))
        pss_nil)
      (pss_cons (ps_if ((pw_or (pt_not (pt_val (pe_callB call_isB (by rfl) m.isinstance_ boot_isinstance (pa_cons (pv 0) (pa_cons (pe_bltn (v := .ty "tuple") (by rfl) m.tuple_ boot_tuple rfl) pa_nil))))) (pw_or1 (pt_cmpR op_ne (pe_callB call_len (by rfl) m.len_ boot_len (pa_cons (pv 0) pa_nil)) pe_int (nomark _))))).pt
        (pss_one (ps_ret pe_non))
        pss_nil)
      (pss_cons (ps_asg (pv 0) (pg_tup rfl (pgs_cons (pg_name (i := 1) sc.nd rfl (.inl rfl)) (pgs_cons (pg_name (i := 2) sc.nd rfl (.inl rfl)) pgs_nil))))
      (pss_cons (ps_for pown rfl (pi_list (pe_lst (pa_cons (pv 1) (pa_cons (pv 2) pa_nil)))) (pg_name (i := 3) sc.nd rfl (.inl rfl))
        (pss_one (ps_if ((pw_or (pt_val (pe_callB call_isB (by rfl) m.isinstance_ boot_isinstance (pa_cons (pv 3) (pa_cons (pe_bltn (v := .ty "bool") (by rfl) m.bool_ boot_bool rfl) pa_nil)))) (pw_or1 (pt_not (pt_val (pe_callB call_isB (by rfl) m.isinstance_ boot_isinstance (pa_cons (pv 3) (pa_cons (pe_bltn (v := .ty "int") (by rfl) m.int_ boot_int rfl) pa_nil)))))))).pt
          (pss_one (ps_ret pe_non))
          pss_nil)))
      (pss_one (ps_ret (pe_ifExp ((pw_and (pt_cmpR op_gt (pv 2) pe_int (nomark _)) (pw_and1 (pt_cmpR op_eq (pe_c c__law_gcd hr (by decide) (by rfl) (pa_cons (pe_callB call_abs (by rfl) m.abs_ boot_abs (pa_cons (pv 1) pa_nil)) (pa_cons (pv 2) pa_nil))) pe_int (nomark _))))).pt (pe_tup (pa_cons (pv 1) (pa_cons (pv 2) pa_nil))) pe_non))))))))), ?_⟩
    have nn : ∀ {t : Addr}, ¬ (V.ref t = V.non) := fun z => by cases z
    simp only [L2.start, cxOf, tRet, tAndV, tOrV, tNotV, tCB, tCons, tNil, tVar, tC, tOp, tUn, tTest, tB, tIf, tIfS, tSeq, tAsg, tAnd, tOr, tNot, gName, tNext, tCall, tChain, rI, rI0, rEq, rNe, rGcd, rU, tM1, tM0, tSl, tFmtB, tJs, tPart, tNoPart, gTup, gCons, gNil, gSub, tTup, tLst, tPar, L2.rI, List.map_cons, List.map_nil, List.length_cons, List.length_nil, List.cons_append, List.nil_append, List.append_nil, List.getElem?_cons_zero, List.getElem?_cons_succ, List.set_cons_zero, List.set_cons_succ, Option.some.injEq, exists_eq_left, exists_eq_left', exists_eq_right, exists_and_left, exists_and_right, List.cons.injEq, and_true, true_and, V.int.injEq, V.str.injEq, V.bl.injEq, V.ref.injEq, List.replicate, Nat.reduceAdd, Nat.reduceSub, reduceCtorEq, false_and, and_false, if_true, if_false, Bool.false_eq_true, Bool.not_true, Bool.not_false, decide_eq_true_eq, spRead, spGcd]
    cases sh with
    | int i h =>
      refine isi_f (T := "bool") kd_int ?_
      rw [if_neg (by simp)]
      exact isi_t (T := "int") kd_int ⟨small (by decide), fun t ht => q _ t (same_new ht) ht upd_same⟩
    | str a h =>
      refine isi_f (T := "bool") kd_str ?_
      rw [if_neg (by simp)]
      exact isi_f (T := "int") kd_str (isi_t (T := "str") kd_str ⟨a, rfl, h, by rw [← read_same]; exact q⟩)
    | pair t i j ht h1 h2 =>
      have kt : Kd K H (.ref t) "tuple" := kd_tup ht
      refine isi_f (T := "bool") kt ?_
      rw [if_neg nn]
      refine isi_f (T := "int") kt (isi_f (T := "str") kt (isi_nt (T := "tuple") kt ⟨2, len_T ht, rfl, ?_⟩))
      rw [if_neg (by simp)]
      refine ⟨t, rfl, _, sqT_of ht, rfl, _, _, rfl, _, _, rfl, rfl, ?_⟩
      refine for_list_new [.int i, .int j] (small (by simp)) (fun R k => by simp only [L2.start, cxOf, tRet, tAndV, tOrV, tNotV, tCB, tCons, tNil, tVar, tC, tOp, tUn, tTest, tB, tIf, tIfS, tSeq, tAsg, tAnd, tOr, tNot, gName, tNext, tCall, tChain, rI, rI0, rEq, rNe, rGcd, rU, tM1, tM0, tSl, tFmtB, tJs, tPart, tNoPart, gTup, gCons, gNil, gSub, tTup, tLst, tPar, L2.rI, List.map_cons, List.map_nil, List.length_cons, List.length_nil, List.cons_append, List.nil_append, List.append_nil, List.getElem?_cons_zero, List.getElem?_cons_succ, List.set_cons_zero, List.set_cons_succ, Option.some.injEq, exists_eq_left, exists_eq_left', exists_eq_right, exists_and_left, exists_and_right, List.cons.injEq, and_true, true_and, V.int.injEq, V.str.injEq, V.bl.injEq, V.ref.injEq, List.replicate, Nat.reduceAdd, Nat.reduceSub, reduceCtorEq, false_and, and_false, if_true, if_false, Bool.false_eq_true, Bool.not_true, Bool.not_false, decide_eq_true_eq]; exact k) (fun l hl => ?_)
      have s0 : Same H (upd H l (.lst [.int i, .int j])) := same_new hl
      have l0 : (upd H l (.lst [.int i, .int j])) l = some (.lst [.int i, .int j]) := upd_same
      refine ⟨fun n σ' H' => Same (upd H l (.lst [.int i, .int j])) H' ∧ ∃ y, σ' = [some (.ref t), some (.int i), some (.int j), y], ⟨Same.refl _, none, rfl⟩, fun n σ' H' _ hP => SqL.of (hP.1 _ _ l0), ?_, ?_⟩
      · rintro n x σ' H' hx ⟨s1, y, rfl⟩
        obtain ⟨z, rfl⟩ : ∃ z, x = .int z := by
          match n, hx with
          | 0, hx => exact ⟨_, (Option.some.inj hx).symm⟩
          | 1, hx => exact ⟨_, (Option.some.inj hx).symm⟩
          | n + 2, hx => simp at hx
        simp only [L2.start, cxOf, tRet, tAndV, tOrV, tNotV, tCB, tCons, tNil, tVar, tC, tOp, tUn, tTest, tB, tIf, tIfS, tSeq, tAsg, tAnd, tOr, tNot, gName, tNext, tCall, tChain, rI, rI0, rEq, rNe, rGcd, rU, tM1, tM0, tSl, tFmtB, tJs, tPart, tNoPart, gTup, gCons, gNil, gSub, tTup, tLst, tPar, L2.rI, List.map_cons, List.map_nil, List.length_cons, List.length_nil, List.cons_append, List.nil_append, List.append_nil, List.getElem?_cons_zero, List.getElem?_cons_succ, List.set_cons_zero, List.set_cons_succ, Option.some.injEq, exists_eq_left, exists_eq_left', exists_eq_right, exists_and_left, exists_and_right, List.cons.injEq, and_true, true_and, V.int.injEq, V.str.injEq, V.bl.injEq, V.ref.injEq, List.replicate, Nat.reduceAdd, Nat.reduceSub, reduceCtorEq, false_and, and_false, if_true, if_false, Bool.false_eq_true, Bool.not_true, Bool.not_false, decide_eq_true_eq]
        exact isi_f (T := "bool") kd_int (isi_nt (T := "int") kd_int ⟨s1, _, rfl⟩)
      · rintro σ' H' ⟨s1, y, rfl⟩
        have s2 := s0.trans s1
        simp only [L2.start, cxOf, tRet, tAndV, tOrV, tNotV, tCB, tCons, tNil, tVar, tC, tOp, tUn, tTest, tB, tIf, tIfS, tSeq, tAsg, tAnd, tOr, tNot, gName, tNext, tCall, tChain, rI, rI0, rEq, rNe, rGcd, rU, tM1, tM0, tSl, tFmtB, tJs, tPart, tNoPart, gTup, gCons, gNil, gSub, tTup, tLst, tPar, L2.rI, List.map_cons, List.map_nil, List.length_cons, List.length_nil, List.cons_append, List.nil_append, List.append_nil, List.getElem?_cons_zero, List.getElem?_cons_succ, List.set_cons_zero, List.set_cons_succ, Option.some.injEq, exists_eq_left, exists_eq_left', exists_eq_right, exists_and_left, exists_and_right, List.cons.injEq, and_true, true_and, V.int.injEq, V.str.injEq, V.bl.injEq, V.ref.injEq, List.replicate, Nat.reduceAdd, Nat.reduceSub, reduceCtorEq, false_and, and_false, if_true, if_false, Bool.false_eq_true, Bool.not_true, Bool.not_false, decide_eq_true_eq, spGcd]
        by_cases hj : (0 : Int) < j
        · rw [if_pos hj]
          refine ⟨i.natAbs, j.natAbs, ⟨by split <;> omega, by omega⟩, rfl, ?_⟩
          by_cases hg : Nat.gcd i.natAbs j.natAbs = 1
          · rw [if_pos (show ((Nat.gcd i.natAbs j.natAbs : Nat) : Int) = 1 by omega)]
            rw [if_pos ⟨by omega, hg⟩] at q
            exact ⟨small (by decide), fun p hp => q _ p (s2.trans (same_new hp)) (s2.free hp) upd_same⟩
          · rw [if_neg (show ¬ ((Nat.gcd i.natAbs j.natAbs : Nat) : Int) = 1 by omega)]
            rw [if_neg (fun z => hg z.2)] at q
            exact q _ s2
        · rw [if_neg hj]
          rw [if_neg (fun z => by omega)] at q
          exact q _ s2
    | two t u v ku kv ht tu tv ne =>
      have kt : Kd K H (.ref t) "tuple" := kd_tup ht
      refine isi_f (T := "bool") kt ?_
      rw [if_neg nn]
      refine isi_f (T := "int") kt (isi_f (T := "str") kt (isi_nt (T := "tuple") kt ⟨2, len_T ht, rfl, ?_⟩))
      rw [if_neg (by simp)]
      refine ⟨t, rfl, _, sqT_of ht, rfl, _, _, rfl, _, _, rfl, rfl, ?_⟩
      refine for_list_new [u, v] (small (by simp)) (fun R k => by simp only [L2.start, cxOf, tRet, tAndV, tOrV, tNotV, tCB, tCons, tNil, tVar, tC, tOp, tUn, tTest, tB, tIf, tIfS, tSeq, tAsg, tAnd, tOr, tNot, gName, tNext, tCall, tChain, rI, rI0, rEq, rNe, rGcd, rU, tM1, tM0, tSl, tFmtB, tJs, tPart, tNoPart, gTup, gCons, gNil, gSub, tTup, tLst, tPar, L2.rI, List.map_cons, List.map_nil, List.length_cons, List.length_nil, List.cons_append, List.nil_append, List.append_nil, List.getElem?_cons_zero, List.getElem?_cons_succ, List.set_cons_zero, List.set_cons_succ, Option.some.injEq, exists_eq_left, exists_eq_left', exists_eq_right, exists_and_left, exists_and_right, List.cons.injEq, and_true, true_and, V.int.injEq, V.str.injEq, V.bl.injEq, V.ref.injEq, List.replicate, Nat.reduceAdd, Nat.reduceSub, reduceCtorEq, false_and, and_false, if_true, if_false, Bool.false_eq_true, Bool.not_true, Bool.not_false, decide_eq_true_eq]; exact k) (fun l hl => ?_)
      have s0 : Same H (upd H l (.lst [u, v])) := same_new hl
      have l0 : (upd H l (.lst [u, v])) l = some (.lst [u, v]) := upd_same
      refine ⟨fun n σ' H' => Same (upd H l (.lst [u, v])) H' ∧ (∃ y, σ' = [some (.ref t), some u, some v, y]) ∧ (1 ≤ n → ku = "int") ∧ (2 ≤ n → kv = "int"), ⟨Same.refl _, ⟨none, rfl⟩, by omega, by omega⟩, fun n σ' H' _ hP => SqL.of (hP.1 _ _ l0), ?_, ?_⟩
      · rintro n x σ' H' hx ⟨s1, ⟨y, rfl⟩, p1, p2⟩
        have s2 := s0.trans s1
        obtain ⟨kx, tx, hk⟩ : ∃ kx, Kd K H' x kx ∧ ((n = 0 ∧ kx = ku) ∨ (n = 1 ∧ kx = kv)) := by
          match n, hx with
          | 0, hx => exact ⟨ku, by rw [← Option.some.inj hx]; exact tu.same s2, .inl ⟨rfl, rfl⟩⟩
          | 1, hx => exact ⟨kv, by rw [← Option.some.inj hx]; exact tv.same s2, .inr ⟨rfl, rfl⟩⟩
          | n + 2, hx => simp at hx
        simp only [L2.start, cxOf, tRet, tAndV, tOrV, tNotV, tCB, tCons, tNil, tVar, tC, tOp, tUn, tTest, tB, tIf, tIfS, tSeq, tAsg, tAnd, tOr, tNot, gName, tNext, tCall, tChain, rI, rI0, rEq, rNe, rGcd, rU, tM1, tM0, tSl, tFmtB, tJs, tPart, tNoPart, gTup, gCons, gNil, gSub, tTup, tLst, tPar, L2.rI, List.map_cons, List.map_nil, List.length_cons, List.length_nil, List.cons_append, List.nil_append, List.append_nil, List.getElem?_cons_zero, List.getElem?_cons_succ, List.set_cons_zero, List.set_cons_succ, Option.some.injEq, exists_eq_left, exists_eq_left', exists_eq_right, exists_and_left, exists_and_right, List.cons.injEq, and_true, true_and, V.int.injEq, V.str.injEq, V.bl.injEq, V.ref.injEq, List.replicate, Nat.reduceAdd, Nat.reduceSub, reduceCtorEq, false_and, and_false, if_true, if_false, Bool.false_eq_true, Bool.not_true, Bool.not_false, decide_eq_true_eq]
        have out : Q .non H' := q _ s2
        have on : kx = "int" → (Same (upd H l (.lst [u, v])) H' ∧ (∃ y, [some (V.ref t), some u, some v, some x] = [some (V.ref t), some u, some v, y]) ∧ (1 ≤ n + 1 → ku = "int") ∧ (2 ≤ n + 1 → kv = "int")) := fun e => by
          refine ⟨s1, ⟨_, rfl⟩, fun _ => ?_, fun h2 => ?_⟩
          · rcases hk with ⟨h, h3⟩ | ⟨h, h3⟩
            · rw [← h3]; exact e
            · exact p1 (by omega)
          · rcases hk with ⟨h, h3⟩ | ⟨h, h3⟩
            · omega
            · rw [← h3]; exact e
        by_cases e : kx = "int"
        · have k2 := on e
          subst e
          refine isi_f (T := "bool") tx (isi_nt (T := "int") tx ?_)
          exact ⟨k2.1, ⟨_, rfl⟩, k2.2.2⟩
        · have kk := tx.1
          simp only [kinds, List.mem_cons, List.not_mem_nil, or_false] at kk
          rcases kk with h | h | h | h | h | h | h <;> subst h
          · exact absurd rfl e
          · exact isi_t (T := "bool") tx out
          all_goals exact isi_f (T := "bool") tx (isi_nf (T := "int") tx out)
      · rintro σ' H' ⟨s1, ⟨y, rfl⟩, p1, p2⟩
        exact absurd ⟨p1 (by show 1 ≤ 2; decide), p2 (by show 2 ≤ 2; decide)⟩ ne
    | tup t xs ht ne =>
      have kt : Kd K H (.ref t) "tuple" := kd_tup ht
      refine isi_f (T := "bool") kt ?_
      rw [if_neg nn]
      refine isi_f (T := "int") kt (isi_f (T := "str") kt (isi_nt (T := "tuple") kt ⟨_, len_T ht, rfl, ?_⟩))
      rw [if_pos (by
        have : ¬ (xs.length : Int) = 2 := by omega
        simp [this])]
      exact q _ (Same.refl H)
    | other x k tk hk =>
      have out : Q .non H := q _ (Same.refl H)
      simp only [List.mem_cons, List.not_mem_nil, or_false] at hk
      rcases hk with h | h | h | h <;> subst h
      · exact isi_t (T := "bool") tk out
      · refine isi_f (T := "bool") tk ?_
        rw [if_pos (kd_is_non tk)]
        exact out
      · refine isi_f (T := "bool") tk ?_
        rw [if_neg (kd_not_non tk (by decide))]
        exact isi_f (T := "int") tk (isi_f (T := "str") tk (isi_nf (T := "tuple") tk out))
      · refine isi_f (T := "bool") tk ?_
        rw [if_neg (kd_not_non tk (by decide))]
        exact isi_f (T := "int") tk (isi_f (T := "str") tk (isi_nf (T := "tuple") tk out))
/-- what is compared by == -/
def flat : V → Prop
  | .bl _ => True
  | .int _ => True
  | .str _ => True
  | .non => True
  | _ => False
/-- likeness, to a depth -/
def Lk (H : Hp) : Nat → V → V → Prop
  | 0 => fun _ _ => False
  | n + 1 => fun x y => (x = y ∧ flat x) ∨ (∃ (a b : Addr) (xs ys : List V), x = .ref a ∧ y = .ref b ∧ ((H a = some (.tup xs) ∧ H b = some (.tup ys)) ∨ (H a = some (.lst xs) ∧ H b = some (.lst ys))) ∧ xs.length = ys.length ∧ xs.length ≤ 1000 ∧ ∀ (i : Nat) (u v : V), xs[i]? = some u → ys[i]? = some v → Lk H n u v) ∨
    (∃ (a : Addr) (kvs : List (Key × V)), x = .ref a ∧ y = .ref a ∧ H a = some (.dK kvs) ∧ kvs.length ≤ 1000 ∧ 2 ≤ n ∧ ∀ kv ∈ kvs, valV kvs kv.1 = some kv.2 ∧ flat kv.2)
theorem Lk.same {H H' : Hp} (e : Same H H') : ∀ (n : Nat) {x y : V}, Lk H n x y → Lk H' n x y
  | 0, _, _, h => False.elim h
  | n + 1, x, y, h => by
    rcases h with h | ⟨a, b, xs, ys, rfl, rfl, h, hl, hz, hi⟩ | ⟨a, kvs, rfl, rfl, h, hz, hn, hk⟩
    · exact .inl h
    · exact .inr (.inl ⟨a, b, xs, ys, rfl, rfl, h.imp (fun z => ⟨e _ _ z.1, e _ _ z.2⟩) (fun z => ⟨e _ _ z.1, e _ _ z.2⟩), hl, hz, fun i u v h1 h2 => Lk.same e n (hi i u v h1 h2)⟩)
    · exact .inr (.inr ⟨a, kvs, rfl, rfl, e _ _ h, hz, hn, hk⟩)
def spLike : Nat → Sp := fun n vs H Q _ => ∃ x y, vs = [x, y] ∧ Lk H n x y ∧ ∀ H', Same H H' → Q (.bl true) H'
theorem sc32 : FnScope ["told", "due", "key", "k"] ["told", "due"] (defScope (top 32)) := fnScope_by (by decide +kernel)
theorem ok_like_step (m : Mg mg) (F : Fn K "_law_like" 32 f fd) (g : mg "_law_like" = some (.ref f)) (n : Nat) (c__law_like : Cal P w K mg base (n + 1) "_law_like" (spLike n) []) : Cal P w K mg base (n + 2) "_law_like" (spLike (n + 1)) [] := by
  have sc := sc32
  refine calD F g sc (fun _ _ _ _ _ _ us hl => match us, hl with | [_, _], _ => rfl) ?_ fun cdv A outer s H vs Q E hr h => ?_
  · rintro vs H Q E ⟨x, y, rfl, _⟩
    rfl
  · obtain ⟨x, y, rfl, lk, q⟩ := h
    have room1 : (A.deeper (envOfC "_law_like" (defScope (top 32)) s.heap.objs.size f cdv)).units + 1 < cLine := by have := hr.un; omega
    refine ⟨_, (pss_cons (ps_if (pt_val (pe_callB call_isB (by rfl) m.isinstance_ boot_isinstance (pa_cons (pv 1) (pa_cons (pe_bltn (v := .ty "bool") (by rfl) m.bool_ boot_bool rfl) pa_nil))))
        (pss_one (ps_ret (pe_and (pe_callB call_isB (by rfl) m.isinstance_ boot_isinstance (pa_cons (pv 0) (pa_cons (pe_bltn (v := .ty "bool") (by rfl) m.bool_ boot_bool rfl) pa_nil))) (pe_one (pe_cmpR op_eq (pv 0) (pv 1) (nomark _))))))
        pss_nil)
      (pss_cons (ps_if (pt_val (pe_callB call_isB (by rfl) m.isinstance_ boot_isinstance (pa_cons (pv 1) (pa_cons (pe_bltn (v := .ty "int") (by rfl) m.int_ boot_int rfl) pa_nil))))
        (pss_one (ps_ret (pe_and (pe_callB call_isB (by rfl) m.isinstance_ boot_isinstance (pa_cons (pv 0) (pa_cons (pe_bltn (v := .ty "int") (by rfl) m.int_ boot_int rfl) pa_nil))) (pe_and (pe_not (pe_callB call_isB (by rfl) m.isinstance_ boot_isinstance (pa_cons (pv 0) (pa_cons (pe_bltn (v := .ty "bool") (by rfl) m.bool_ boot_bool rfl) pa_nil)))) (pe_one (pe_cmpR op_eq (pv 0) (pv 1) (nomark _)))))))
        pss_nil)
      (pss_cons (ps_if (pt_val (pe_callB call_isB (by rfl) m.isinstance_ boot_isinstance (pa_cons (pv 1) (pa_cons (pe_bltn (v := .ty "str") (by rfl) m.str_ boot_str rfl) pa_nil))))
        (pss_one (ps_ret (pe_and (pe_callB call_isB (by rfl) m.isinstance_ boot_isinstance (pa_cons (pv 0) (pa_cons (pe_bltn (v := .ty "str") (by rfl) m.str_ boot_str rfl) pa_nil))) (pe_one (pe_cmpR op_eq (pv 0) (pv 1) (nomark _))))))
        pss_nil)
      (pss_cons (ps_if (pt_val (pe_callB call_isB (by rfl) m.isinstance_ boot_isinstance (pa_cons (pv 1) (pa_cons (pe_bltn (v := .ty "dict") (by rfl) m.dict_ boot_dict rfl) pa_nil))))
        (pss_cons (ps_if ((pw_or (pt_not (pt_val (pe_callB call_isB (by rfl) m.isinstance_ boot_isinstance (pa_cons (pv 0) (pa_cons (pe_bltn (v := .ty "dict") (by rfl) m.dict_ boot_dict rfl) pa_nil))))) (pw_or1 (pt_not (pt_val (pe_c c__law_like hr (Nat.le_refl _) (by rfl) (pa_cons (pe_callTy (call_list_dK rfl) (by rfl) m.list_ boot_list (pa_cons (pv 0) pa_nil)) (pa_cons (pe_callTy (call_list_dK rfl) (by rfl) m.list_ boot_list (pa_cons (pv 1) pa_nil)) pa_nil)))))))).pt
          (pss_one (ps_ret pe_bl))
          pss_nil)
        (pss_cons (ps_lock (ps_for pown rfl (pi_keys (pv 1)) (pg_name (i := 2) sc.nd rfl (.inl rfl)) (pss_one (ps_if (pt_not (pt_val (pe_c c__law_like hr (Nat.le_refl _) (by rfl) (pa_cons (pe_dget room1 (pv 0) (pv 2) (fun _ _ => rfl)) (pa_cons (pe_dget room1 (pv 1) (pv 2) (fun _ _ => rfl)) pa_nil)))))
            (pss_one (ps_ret pe_bl))
            pss_nil))))
        (pss_one (ps_ret pe_bl))))
        pss_nil)
      (pss_cons (ps_if ((pw_or (pt_val (pe_callB call_isB (by rfl) m.isinstance_ boot_isinstance (pa_cons (pv 1) (pa_cons (pe_bltn (v := .ty "list") (by rfl) m.list_ boot_list rfl) pa_nil)))) (pw_or1 (pt_val (pe_callB call_isB (by rfl) m.isinstance_ boot_isinstance (pa_cons (pv 1) (pa_cons (pe_bltn (v := .ty "tuple") (by rfl) m.tuple_ boot_tuple rfl) pa_nil))))))).pt
        (pss_cons (ps_if ((pw_or (pt_cmpR op_ne (pe_callB call_isB (by rfl) m.isinstance_ boot_isinstance (pa_cons (pv 0) (pa_cons (pe_bltn (v := .ty "list") (by rfl) m.list_ boot_list rfl) pa_nil))) (pe_callB call_isB (by rfl) m.isinstance_ boot_isinstance (pa_cons (pv 1) (pa_cons (pe_bltn (v := .ty "list") (by rfl) m.list_ boot_list rfl) pa_nil))) (nomark _)) (pw_or1 (pt_cmpR op_ne (pe_callB call_isB (by rfl) m.isinstance_ boot_isinstance (pa_cons (pv 0) (pa_cons (pe_bltn (v := .ty "tuple") (by rfl) m.tuple_ boot_tuple rfl) pa_nil))) (pe_callB call_isB (by rfl) m.isinstance_ boot_isinstance (pa_cons (pv 1) (pa_cons (pe_bltn (v := .ty "tuple") (by rfl) m.tuple_ boot_tuple rfl) pa_nil))) (nomark _))))).pt
          (pss_one (ps_ret pe_bl))
          pss_nil)
        (pss_cons (ps_if (pt_cmpR op_ne (pe_callB call_len (by rfl) m.len_ boot_len (pa_cons (pv 0) pa_nil)) (pe_callB call_len (by rfl) m.len_ boot_len (pa_cons (pv 1) pa_nil)) (nomark _))
          (pss_one (ps_ret pe_bl))
          pss_nil)
        (pss_cons (ps_for pown rfl (pi_range1 rfl m.range_ (pa_cons (pe_callB call_len (by rfl) m.len_ boot_len (pa_cons (pv 1) pa_nil)) pa_nil)) (pg_name (i := 3) sc.nd rfl (.inl rfl))
          (pss_one (ps_if (pt_not (pt_val (pe_c c__law_like hr (Nat.le_refl _) (by rfl) (pa_cons (pe_ix ix_seq (pv 0) (pv 3) (fun _ _ => rfl)) (pa_cons (pe_ix ix_seq (pv 1) (pv 3) (fun _ _ => rfl)) pa_nil)))))
            (pss_one (ps_ret pe_bl))
            pss_nil)))
        (pss_one (ps_ret pe_bl)))))
        pss_nil)
      (pss_one (ps_ret (pe_and (pe_cmpR op_isN (pv 1) pe_non (nomark _)) (pe_one (pe_cmpR op_isN (pv 0) pe_non (nomark _))))))))))), ?_⟩
    have qf := q H (Same.refl H)
    simp only [L2.start, cxOf, tRet, tAndV, tOrV, tNotV, tCB, tCons, tNil, tVar, tC, tOp, tUn, tTest, tB, tIf, tIfS, tSeq, tAsg, tAnd, tOr, tNot, gName, tNext, tCall, tChain, rI, rI0, rEq, rNe, rGcd, rU, tM1, tM0, tSl, tFmtB, tJs, tPart, tNoPart, gTup, gCons, gNil, gSub, tTup, tLst, tPar, L2.rI, List.map_cons, List.map_nil, List.length_cons, List.length_nil, List.cons_append, List.nil_append, List.append_nil, List.getElem?_cons_zero, List.getElem?_cons_succ, List.set_cons_zero, List.set_cons_succ, Option.some.injEq, exists_eq_left, exists_eq_left', exists_eq_right, exists_and_left, exists_and_right, List.cons.injEq, and_true, true_and, V.int.injEq, V.str.injEq, V.bl.injEq, V.ref.injEq, List.replicate, Nat.reduceAdd, Nat.reduceSub, reduceCtorEq, false_and, and_false, if_true, if_false, Bool.false_eq_true, Bool.not_true, Bool.not_false, decide_eq_true_eq, spLike]
    rcases lk with ⟨rfl, fl⟩ | ⟨a, b, xs, ys, rfl, rfl, h, hl, hz, hi⟩ | ⟨a, kvs, rfl, rfl, h, hz, hn, hk⟩
    · cases x with
      | bl b => exact isi_t (T := "bool") kd_bl (isi_t (T := "bool") kd_bl ⟨rfl, by simpa using qf⟩)
      | int b => exact isi_f (T := "bool") kd_int (isi_t (T := "int") kd_int (isi_t (T := "int") kd_int (rIsB_i (T := "bool") kd_int ⟨_, rfl, by rw [if_pos (by decide)]; exact ⟨rfl, by simpa using qf⟩⟩)))
      | str b => exact isi_f (T := "bool") kd_str (isi_f (T := "int") kd_str (isi_t (T := "str") kd_str (isi_t (T := "str") kd_str ⟨rfl, by simpa using qf⟩)))
      | non =>
        refine isi_f (T := "bool") kd_non (isi_f (T := "int") kd_non (isi_f (T := "str") kd_non (isi_f (T := "dict") kd_non (isi_f (T := "list") kd_non (isi_f (T := "tuple") kd_non ?_)))))
        rw [if_pos rfl]
        simpa using qf
      | _ => exact False.elim fl
    · rcases h with ⟨ha, hb⟩ | ⟨ha, hb⟩
      · have ka : Kd K H (.ref a) "tuple" := kd_tup ha
        have kb : Kd K H (.ref b) "tuple" := kd_tup hb
        refine isi_f (T := "bool") kb (isi_f (T := "int") kb (isi_f (T := "str") kb (isi_f (T := "dict") kb (isi_f (T := "list") kb (isi_t (T := "tuple") kb (rIsB_i (T := "list") ka (rIsB_i (T := "list") kb ⟨rfl, ?_⟩)))))))
        rw [if_neg (by simp)]
        refine rIsB_i (T := "tuple") ka (rIsB_i (T := "tuple") kb ⟨rfl, ?_⟩)
        rw [if_neg (by simp)]
        have la : LenV K (.ref a) H xs.length := len_T ha
        have lb : LenV K (.ref b) H ys.length := len_T hb
        have ixa : ∀ H', Same H H' → ∀ (i : Nat) (u : V) (R : VK), xs[i]? = some u → R u H' → rIx K (.ref a) (.int (i : Int)) H' R := fun H' e i u R h1 k => .inr (.inl (ixT (e _ _ ha) i h1 k))
        have ixb : ∀ H', Same H H' → ∀ (i : Nat) (u : V) (R : VK), ys[i]? = some u → R u H' → rIx K (.ref b) (.int (i : Int)) H' R := fun H' e i u R h1 k => .inr (.inl (ixT (e _ _ hb) i h1 k))
        refine ⟨_, la, _, lb, rfl, ?_⟩
        rw [if_neg (by simp [hl])]
        have n62 : ys.length < 2 ^ 62 := Nat.lt_of_le_of_lt (show ys.length ≤ 1000 by omega) (by decide)
        refine for_range_at (n := ys.length) (H1 := H) n62 (fun R k => ?_) ⟨fun i σ' H' => Same H H' ∧ ∃ y3, σ' = [some (V.ref a), some (V.ref b), none, y3], ⟨Same.refl _, none, rfl⟩, ?_, ?_⟩
        · simp only [L2.start, cxOf, tRet, tAndV, tOrV, tNotV, tCB, tCons, tNil, tVar, tC, tOp, tUn, tTest, tB, tIf, tIfS, tSeq, tAsg, tAnd, tOr, tNot, gName, tNext, tCall, tChain, rI, rI0, rEq, rNe, rGcd, rU, tM1, tM0, tSl, tFmtB, tJs, tPart, tNoPart, gTup, gCons, gNil, gSub, tTup, tLst, tPar, L2.rI, List.map_cons, List.map_nil, List.length_cons, List.length_nil, List.cons_append, List.nil_append, List.append_nil, List.getElem?_cons_zero, List.getElem?_cons_succ, List.set_cons_zero, List.set_cons_succ, Option.some.injEq, exists_eq_left, exists_eq_left', exists_eq_right, exists_and_left, exists_and_right, List.cons.injEq, and_true, true_and, V.int.injEq, V.str.injEq, V.bl.injEq, V.ref.injEq, List.replicate, Nat.reduceAdd, Nat.reduceSub, reduceCtorEq, false_and, and_false, if_true, if_false, Bool.false_eq_true, Bool.not_true, Bool.not_false, decide_eq_true_eq]
          exact ⟨_, lb, k⟩
        · rintro i σ' H' hlt ⟨s1, y3, rfl⟩
          simp only [L2.start, cxOf, tRet, tAndV, tOrV, tNotV, tCB, tCons, tNil, tVar, tC, tOp, tUn, tTest, tB, tIf, tIfS, tSeq, tAsg, tAnd, tOr, tNot, gName, tNext, tCall, tChain, rI, rI0, rEq, rNe, rGcd, rU, tM1, tM0, tSl, tFmtB, tJs, tPart, tNoPart, gTup, gCons, gNil, gSub, tTup, tLst, tPar, L2.rI, List.map_cons, List.map_nil, List.length_cons, List.length_nil, List.cons_append, List.nil_append, List.append_nil, List.getElem?_cons_zero, List.getElem?_cons_succ, List.set_cons_zero, List.set_cons_succ, Option.some.injEq, exists_eq_left, exists_eq_left', exists_eq_right, exists_and_left, exists_and_right, List.cons.injEq, and_true, true_and, V.int.injEq, V.str.injEq, V.bl.injEq, V.ref.injEq, List.replicate, Nat.reduceAdd, Nat.reduceSub, reduceCtorEq, false_and, and_false, if_true, if_false, Bool.false_eq_true, Bool.not_true, Bool.not_false, decide_eq_true_eq, spLike]
          have h1 : xs[i]? = some (xs[i]'(by omega)) := List.getElem?_eq_getElem _
          have h2 : ys[i]? = some (ys[i]'hlt) := List.getElem?_eq_getElem _
          refine ixa H' s1 i _ _ h1 (ixb H' s1 i _ _ h2 ⟨_, _, ⟨rfl, rfl⟩, Lk.same s1 n (hi i _ _ h1 h2), fun H'' s2 => ⟨s1.trans s2, _, rfl⟩⟩)
        · rintro σ' H' ⟨s1, y3, rfl⟩
          exact q H' s1
      · have ka : Kd K H (.ref a) "list" := kd_lst ha
        have kb : Kd K H (.ref b) "list" := kd_lst hb
        refine isi_f (T := "bool") kb (isi_f (T := "int") kb (isi_f (T := "str") kb (isi_f (T := "dict") kb (isi_t (T := "list") kb (rIsB_i (T := "list") ka (rIsB_i (T := "list") kb ⟨rfl, ?_⟩))))))
        rw [if_neg (by simp)]
        refine rIsB_i (T := "tuple") ka (rIsB_i (T := "tuple") kb ⟨rfl, ?_⟩)
        rw [if_neg (by simp)]
        have la : LenV K (.ref a) H xs.length := len_L (SqL.of ha)
        have lb : LenV K (.ref b) H ys.length := len_L (SqL.of hb)
        have ixa : ∀ H', Same H H' → ∀ (i : Nat) (u : V) (R : VK), xs[i]? = some u → R u H' → rIx K (.ref a) (.int (i : Int)) H' R := fun H' e i u R h1 k => .inl (ixL (SqL.of (e _ _ ha)) i h1 k)
        have ixb : ∀ H', Same H H' → ∀ (i : Nat) (u : V) (R : VK), ys[i]? = some u → R u H' → rIx K (.ref b) (.int (i : Int)) H' R := fun H' e i u R h1 k => .inl (ixL (SqL.of (e _ _ hb)) i h1 k)
        refine ⟨_, la, _, lb, rfl, ?_⟩
        rw [if_neg (by simp [hl])]
        have n62 : ys.length < 2 ^ 62 := Nat.lt_of_le_of_lt (show ys.length ≤ 1000 by omega) (by decide)
        refine for_range_at (n := ys.length) (H1 := H) n62 (fun R k => ?_) ⟨fun i σ' H' => Same H H' ∧ ∃ y3, σ' = [some (V.ref a), some (V.ref b), none, y3], ⟨Same.refl _, none, rfl⟩, ?_, ?_⟩
        · simp only [L2.start, cxOf, tRet, tAndV, tOrV, tNotV, tCB, tCons, tNil, tVar, tC, tOp, tUn, tTest, tB, tIf, tIfS, tSeq, tAsg, tAnd, tOr, tNot, gName, tNext, tCall, tChain, rI, rI0, rEq, rNe, rGcd, rU, tM1, tM0, tSl, tFmtB, tJs, tPart, tNoPart, gTup, gCons, gNil, gSub, tTup, tLst, tPar, L2.rI, List.map_cons, List.map_nil, List.length_cons, List.length_nil, List.cons_append, List.nil_append, List.append_nil, List.getElem?_cons_zero, List.getElem?_cons_succ, List.set_cons_zero, List.set_cons_succ, Option.some.injEq, exists_eq_left, exists_eq_left', exists_eq_right, exists_and_left, exists_and_right, List.cons.injEq, and_true, true_and, V.int.injEq, V.str.injEq, V.bl.injEq, V.ref.injEq, List.replicate, Nat.reduceAdd, Nat.reduceSub, reduceCtorEq, false_and, and_false, if_true, if_false, Bool.false_eq_true, Bool.not_true, Bool.not_false, decide_eq_true_eq]
          exact ⟨_, lb, k⟩
        · rintro i σ' H' hlt ⟨s1, y3, rfl⟩
          simp only [L2.start, cxOf, tRet, tAndV, tOrV, tNotV, tCB, tCons, tNil, tVar, tC, tOp, tUn, tTest, tB, tIf, tIfS, tSeq, tAsg, tAnd, tOr, tNot, gName, tNext, tCall, tChain, rI, rI0, rEq, rNe, rGcd, rU, tM1, tM0, tSl, tFmtB, tJs, tPart, tNoPart, gTup, gCons, gNil, gSub, tTup, tLst, tPar, L2.rI, List.map_cons, List.map_nil, List.length_cons, List.length_nil, List.cons_append, List.nil_append, List.append_nil, List.getElem?_cons_zero, List.getElem?_cons_succ, List.set_cons_zero, List.set_cons_succ, Option.some.injEq, exists_eq_left, exists_eq_left', exists_eq_right, exists_and_left, exists_and_right, List.cons.injEq, and_true, true_and, V.int.injEq, V.str.injEq, V.bl.injEq, V.ref.injEq, List.replicate, Nat.reduceAdd, Nat.reduceSub, reduceCtorEq, false_and, and_false, if_true, if_false, Bool.false_eq_true, Bool.not_true, Bool.not_false, decide_eq_true_eq, spLike]
          have h1 : xs[i]? = some (xs[i]'(by omega)) := List.getElem?_eq_getElem _
          have h2 : ys[i]? = some (ys[i]'hlt) := List.getElem?_eq_getElem _
          refine ixa H' s1 i _ _ h1 (ixb H' s1 i _ _ h2 ⟨_, _, ⟨rfl, rfl⟩, Lk.same s1 n (hi i _ _ h1 h2), fun H'' s2 => ⟨s1.trans s2, _, rfl⟩⟩)
        · rintro σ' H' ⟨s1, y3, rfl⟩
          exact q H' s1
    · obtain ⟨m, rfl⟩ : ∃ m, n = m + 2 := ⟨n - 2, by omega⟩
      have ka : Kd K H (.ref a) "dict" := kd_dK h
      refine isi_f (T := "bool") ka (isi_f (T := "int") ka (isi_f (T := "str") ka (isi_t (T := "dict") ka (isi_nt (T := "dict") ka ?_))))
      refine ⟨a, kvs, rfl, h, fun l1 h1 => ⟨a, kvs, rfl, (same_new h1) _ _ h, fun l2 h2 => ?_⟩⟩
      have n12 : l1 ≠ l2 := fun z => by
        rw [← z, upd_same] at h2
        cases h2
      have e1 : (upd (upd H l1 (.lst (kvs.map fun kv => kV kv.1))) l2 (.lst (kvs.map fun kv => kV kv.1))) l1 = some (.lst (kvs.map fun kv => kV kv.1)) := by rw [upd_ne n12, upd_same]
      have fk : ∀ k : Key, flat (kV k) := fun k => by cases k <;> trivial
      refine ⟨_, _, ⟨rfl, rfl⟩, ?_, fun H' s1 => ?_⟩
      · · refine .inr (.inl ⟨l1, l2, _, _, rfl, rfl, .inr ⟨e1, upd_same⟩, rfl, by rw [List.length_map]; exact hz, fun i u v g1 g2 => .inl ⟨?_, ?_⟩⟩)
          · exact Option.some.inj (g1.symm.trans g2)
          · rw [List.getElem?_map] at g1
            cases e : kvs[i]? with
            | none => rw [e] at g1; cases g1
            | some kv =>
              rw [e] at g1
              cases g1
              exact fk _
      · have s2 : Same H H' := (same_new h1).trans ((same_new h2).trans s1)
        refine ⟨a, .dK kvs, s2 _ _ h, trivial, fun od => ?_⟩
        have s3 : ∀ H'', Same (upd H' a (.frz od (.dK kvs))) H'' → Same H (upd H'' a (.dK kvs)) := fun H'' e b o hb => by
          by_cases hba : b = a
          · rw [hba, h] at hb
            cases hb
            rw [hba, upd_same]
          · rw [upd_ne hba]
            exact e _ _ (by rw [upd_ne hba]; exact s2 _ _ hb)
        have fz : ∀ H'', Same (upd H' a (.frz od (.dK kvs))) H'' → H'' a = some (.frz od (.dK kvs)) := fun H'' e => e _ _ upd_same
        refine for_keys_at (d := a) (o := od) (kvs := kvs) (fun R k => ⟨_, rfl, k⟩) upd_same ⟨fun i σ' H'' => Same (upd H' a (.frz od (.dK kvs))) H'' ∧ ∃ y2, σ' = [some (V.ref a), some (V.ref a), y2, none], ⟨Same.refl _, none, rfl⟩, fun i σ' H'' _ hP => fz _ hP.1, ?_, ?_⟩
        · rintro i k v σ' H3 hkv ⟨s4, y2, rfl⟩
          have hm := hk (k, v) (List.mem_of_getElem? hkv)
          have dg : DGet H3 a (kV k) (some v) := .inl ⟨kvs, k, .inr ⟨od, fz _ s4⟩, rfl, hm.1.symm⟩
          simp only [L2.start, cxOf, tRet, tAndV, tOrV, tNotV, tCB, tCons, tNil, tVar, tC, tOp, tUn, tTest, tB, tIf, tIfS, tSeq, tAsg, tAnd, tOr, tNot, gName, tNext, tCall, tChain, rI, rI0, rEq, rNe, rGcd, rU, tM1, tM0, tSl, tFmtB, tJs, tPart, tNoPart, gTup, gCons, gNil, gSub, tTup, tLst, tPar, L2.rI, List.map_cons, List.map_nil, List.length_cons, List.length_nil, List.cons_append, List.nil_append, List.append_nil, List.getElem?_cons_zero, List.getElem?_cons_succ, List.set_cons_zero, List.set_cons_succ, Option.some.injEq, exists_eq_left, exists_eq_left', exists_eq_right, exists_and_left, exists_and_right, List.cons.injEq, and_true, true_and, V.int.injEq, V.str.injEq, V.bl.injEq, V.ref.injEq, List.replicate, Nat.reduceAdd, Nat.reduceSub, reduceCtorEq, false_and, and_false, if_true, if_false, Bool.false_eq_true, Bool.not_true, Bool.not_false, decide_eq_true_eq, tDGet, spLike]
          refine ⟨v, dg, v, dg, _, _, ⟨rfl, rfl⟩, .inl ⟨rfl, hm.2⟩, fun H4 s5 => ⟨s4.trans s5, _, rfl⟩⟩
        · rintro σ' H'' ⟨s4, y2, rfl⟩
          exact ⟨fz _ s4, q _ (s3 _ s4)⟩
end
end W17

set_option Elab.async false
set_option linter.all false
set_option maxRecDepth 100000
set_option maxHeartbeats 4000000
/-! E17: BadNumber, what raises it -/
namespace W17
open PySem PySem.Spec PyProof.Rows L2 Lay P17
open SX (S S_len S_cat S_tl)
open C8 (Cal pe_c pe_gc fnScope_by E0 sl_txt rSlX)
def blts : List String := ["KeyError", "ValueError", "LookupError", "RuntimeError", "IndexError"]
/-- what the written part says of BadNumber, at CB, and of its __init__ -/
structure Bad (K : PySem.W.Frag) (mg : Str → Option Value) (CB fI : Addr) (fdI : FuncData) : Prop where
  oex : OexC K CB
  init : PySem.W.findIn K (.ref CB) "__init__" = some (some (.ref fI))
  initT : PySem.W.typeIn K (.ref fI) = some (.type "function")
  F : FunD K "__init__" "BadNumber.__init__" (defArgs (inClass (top 9) 0)) (defBody (inClass (top 9) 0)) (defScope (inClass (top 9) 0)) [] [] fI fdI
  noVal : PySem.W.findIn K (.ref CB) "value" = some none
  xf : XfC K CB
  exc : ExcC K CB
  gB : mg "BadNumber" = some (.ref CB)
  own : ∀ x ∈ excs, ∃ C, mg x = some (.ref C) ∧ PySem.W.exmOne K (.ref CB) (.ref C) = some (decide (x = "BadNumber")) ∧ PySem.W.kitOne K (.ref CB) (.ref C) = some (decide (x = "BadNumber"))
  blt : ∀ x ∈ blts, mg (Str.ofString x) = none ∧ PySem.W.kitOne K (.ref CB) (.type x) = some (decide (x = "ValueError"))
section
variable {P : Program} {w : World} {K : PySem.W.Frag} {mg : Str → Option Value} {base : Heap} {f fI CB : Addr} {fd fdI : FuncData}
theorem scI : FnScope ["self", "value"] ["self", "value"] (defScope (inClass (top 9) 0)) := fnScope_by (by decide +kernel)
def spInit (CB : Addr) : Sp := fun vs H Q _ => ∃ a y, vs = [.ref a, y] ∧ H a = some (exo a CB none) ∧ ∀ dx, H dx = none → dx ≠ a → Q .non (upd (upd H dx (exd dx [("value", y)])) a (exo a CB (some dx)))
theorem ok_init (B : Bad K mg CB fI fdI) : FnOk P w K mg base C8.CX0 1 fI fdI ["self", "value"] (spInit CB) := by
  refine B.F.ok scI (fun vs H Q E h => ?_) fun cdv A outer s H vs Q E hr h => ?_
  · obtain ⟨a, y, rfl, _⟩ := h
    rfl
  · obtain ⟨a, y, rfl, ha, q⟩ := h
    refine ⟨_, pss_one (ps_ost (pv 0) (pv 1)), ?_⟩
    exact ⟨y, rfl, .ref a, rfl, a, CB, rfl, B.oex, B.noVal, .inl ⟨ha, q⟩⟩
/-- BadNumber(x) was raised -/
def Raised (CB : Addr) (x : V) (H : Hp) (E : XK) : Prop := ∀ H' d, Same H H' → H d = none → H' d = some (.xd [("value", x)]) → E (.ref CB) (some d) H'
def spNumRead (K : PySem.W.Frag) (CB : Addr) : Sp := fun vs H Q E => ∃ x n, vs = [x] ∧ Sh K H x n ∧ match n with
  | some p => Answer H Q (some p)
  | none => Raised CB x H E
theorem sc26 : FnScope ["value", "found"] ["value"] (defScope (top 26)) := fnScope_by (by decide +kernel)
theorem ok_read_number (m : Mg mg) (B : Bad K mg CB fI fdI) (c_ratio_of : Cal P w K mg base 2 "ratio_of" (spRead readP) []) (c_is_whole : Cal P w K mg base 1 "is_whole" (spIsWhole K) []) (c_is_lowest : Cal P w K mg base 2 "is_lowest" (spIsLowest K) [])
    (F : Fn K "read_number" 26 f fd) (g : mg "read_number" = some (.ref f)) : CalN P w K mg base 3 "read_number" (spNumRead K CB) := by
  have sc := sc26
  have bI : Binds K fdI ["self", "value"] [] := B.F.bindsN fun _ _ _ _ _ _ us hl => match us, hl with | [_, _], _ => rfl
  refine calN F g sc (fun _ _ _ _ _ _ us hl => match us, hl with | [_], _ => rfl) ?_ fun cdv A outer s H vs Q E hr h => ?_
  · rintro vs H Q E ⟨x, n, rfl, _⟩
    rfl
  · obtain ⟨x, n, rfl, sh, q⟩ := h
    refine ⟨_, (pss_cons (ps_set (i := 1) sc.nd rfl (.inl rfl) pe_non)
      (pss_cons (ps_if (pt_val (pe_callB call_isB (by rfl) m.isinstance_ boot_isinstance (pa_cons (pv 0) (pa_cons (pe_bltn (v := .ty "str") (by rfl) m.str_ boot_str rfl) pa_nil))))
        (pss_one (ps_set (i := 1) sc.nd rfl (.inl rfl) (pe_c c_ratio_of hr (by decide) (by rfl) (pa_cons (pv 0) pa_nil))))
        (pss_one (ps_if (pt_val (pe_c c_is_whole hr (by decide) (by rfl) (pa_cons (pv 0) pa_nil)))
          (pss_one (ps_set (i := 1) sc.nd rfl (.inl rfl) (pe_tup (pa_cons (pv 0) (pa_cons pe_int pa_nil)))))
          (pss_one (ps_if (pt_val (pe_c c_is_lowest hr (by decide) (by rfl) (pa_cons (pv 0) pa_nil)))
            (pss_one (ps_set (i := 1) sc.nd rfl (.inl rfl) (pe_tup (pa_cons (pe_ix ix_tup (pv 0) pe_int (fun _ _ => rfl)) (pa_cons (pe_ix ix_tup (pv 0) pe_int (fun _ _ => rfl)) pa_nil)))))
            pss_nil)))))
      (pss_cons (ps_if (pt_cmpR op_isN (pv 1) pe_non (nomark _))
        (pss_one (L2N.ps_raise rfl takesN (pmk_oexN B.oex B.init B.initT (ok_init B) (hr.mono (by decide)) bI C8.pass0 (by rfl) B.gB (pa_cons (pv 0) pa_nil))))
        pss_nil)
      (pss_one (ps_ret (pv 1)))))), ?_⟩
    have mk : ∀ H' y, Same H H' → n = none → tMkO CB (spInit CB) [] (tCons (tVar 0) tNil) [some x, y] H' (fun cls d H' => E cls d H') := by
      rintro H' y s1 rfl
      refine ⟨x, rfl, (by decide : (1 : Nat) ≤ 1000), fun a ha => ⟨a, x, rfl, upd_same, fun dx hdx ne => ⟨rfl, dx, [("value", x)], upd_same, ?_, ?_, ?_⟩⟩⟩
      · rw [upd_ne ne, upd_same]
      · rw [upd_ne ne] at hdx
        exact hdx
      · rw [upd_ne ne] at hdx
        refine q _ dx (fun b o hb => ?_) (s1.free hdx) upd_same
        have nb : b ≠ dx := ne_of_none (s1 _ _ hb) hdx
        have na : b ≠ a := ne_of_none (s1 _ _ hb) ha
        rw [upd_ne nb, del_ne na, upd_ne na, upd_ne nb, upd_ne na]
        exact s1 _ _ hb
    have told : ∀ {p : Int × Int}, n = some p → ∀ H' t, Same H H' → H t = none → H' t = some (.tup [.int p.1, .int p.2]) → Q (.ref t) H' := by
      rintro p rfl H' t s1 ht e
      exact q H' t s1 ht e
    have nn : ∀ {t : Addr}, ¬ (V.ref t = V.non) := fun z => by cases z
    simp only [L2.start, cxOf, tRet, tAndV, tOrV, tNotV, tCB, tCons, tNil, tVar, tC, tOp, tUn, tTest, tB, tIf, tIfS, tSeq, tAsg, tAnd, tOr, tNot, gName, tNext, tCall, tChain, rI, rI0, rEq, rNe, rGcd, rU, tM1, tM0, tSl, tFmtB, tJs, tPart, tNoPart, gTup, gCons, gNil, gSub, tTup, tLst, tPar, L2.rI, List.map_cons, List.map_nil, List.length_cons, List.length_nil, List.cons_append, List.nil_append, List.append_nil, List.getElem?_cons_zero, List.getElem?_cons_succ, List.set_cons_zero, List.set_cons_succ, Option.some.injEq, exists_eq_left, exists_eq_left', exists_eq_right, exists_and_left, exists_and_right, List.cons.injEq, and_true, true_and, V.int.injEq, V.str.injEq, V.bl.injEq, V.ref.injEq, List.replicate, Nat.reduceAdd, Nat.reduceSub, reduceCtorEq, false_and, and_false, if_true, if_false, Bool.false_eq_true, Bool.not_true, Bool.not_false, decide_eq_true_eq, spRead, spIsWhole]
    cases sh with
    | int i h =>
      refine isi_f (T := "str") kd_int ⟨"int", kd_int, ?_⟩
      rw [if_pos (by decide)]
      refine ⟨small (by decide), fun t ht => ?_⟩
      exact told rfl _ t (same_new ht) ht upd_same
    | str a h =>
      refine isi_t (T := "str") kd_str ⟨a, rfl, h, ?_⟩
      cases e : readP a with
      | none =>
        intro H' s1
        rw [if_pos rfl]
        exact mk H' _ s1 e
      | some p =>
        intro H' t s1 ht e2
        rw [if_neg nn]
        exact told e H' t s1 ht e2
    | pair t i j ht h1 h2 =>
      refine isi_f (T := "str") (kd_tup ht) ⟨"tuple", kd_tup ht, ?_⟩
      rw [if_neg (by decide)]
      refine ⟨_, rfl, .inr (.inr (.inr ⟨t, i, j, rfl, ht, ⟨_, rfl, ?_⟩⟩))⟩
      by_cases g : 1 ≤ j ∧ Nat.gcd i.natAbs j.natAbs = 1
      · rw [if_pos (by rw [decide_eq_true g.1, decide_eq_true g.2] <;> rfl)]
        refine ixT ht 0 rfl (ixT ht 1 rfl ⟨small (by decide), fun p hp => ?_⟩)
        exact told (if_pos g) _ p (same_new hp) hp upd_same
      · rw [if_neg (by
          rw [Bool.and_eq_true, decide_eq_true_eq, decide_eq_true_eq]
          exact g)]
        exact mk H _ (Same.refl H) (if_neg g)
    | two t u v ku kv ht tu tv ne =>
      refine isi_f (T := "str") (kd_tup ht) ⟨"tuple", kd_tup ht, ?_⟩
      rw [if_neg (by decide)]
      refine ⟨_, rfl, .inr (.inr (.inl ⟨t, u, v, ku, kv, rfl, ht, tu, tv, ne, ⟨_, rfl, ?_⟩⟩))⟩
      rw [if_neg (by decide)]
      exact mk H _ (Same.refl H) rfl
    | tup t xs ht ne =>
      refine isi_f (T := "str") (kd_tup ht) ⟨"tuple", kd_tup ht, ?_⟩
      rw [if_neg (by decide)]
      refine ⟨_, rfl, .inr (.inl ⟨t, xs, rfl, ht, ne, ⟨_, rfl, ?_⟩⟩)⟩
      rw [if_neg (by decide)]
      exact mk H _ (Same.refl H) rfl
    | other x k tk hk =>
      have ns : k ≠ "str" ∧ k ≠ "int" ∧ k ≠ "tuple" := by
        simp only [List.mem_cons, List.not_mem_nil, or_false] at hk
        rcases hk with h | h | h | h <;> subst h <;> decide
      have e1 : isaB k "str" = false := by
        simp only [List.mem_cons, List.not_mem_nil, or_false] at hk
        rcases hk with h | h | h | h <;> subst h <;> decide
      refine isi_f (T := "str") tk ⟨k, tk, ?_⟩ e1
      rw [if_neg (by simpa using ns.2.1)]
      refine ⟨_, rfl, .inl ⟨k, tk, ns.2.2, ⟨_, rfl, ?_⟩⟩⟩
      rw [if_neg (by decide)]
      exact mk H _ (Same.refl H) rfl
theorem sc27 : FnScope ["number"] ["number"] (defScope (top 27)) := fnScope_by (by decide +kernel)
def spNumText (K : PySem.W.Frag) (CB : Addr) : Sp := fun vs H Q E => ∃ x n, vs = [x] ∧ Sh K H x n ∧ match n with
  | some p => ∀ H', Same H H' → Q (.str (S (wroteL p))) H'
  | none => Raised CB x H E
theorem ok_number_text (m : Mg mg) (c_read_number : CalN P w K mg base 3 "read_number" (spNumRead K CB)) (c_ratio_text : Cal P w K mg base 1 "ratio_text" spText []) (F : Fn K "number_text" 27 f fd) (g : mg "number_text" = some (.ref f)) :
    CalN P w K mg base 4 "number_text" (spNumText K CB) := by
  have sc := sc27
  refine calN F g sc (fun _ _ _ _ _ _ us hl => match us, hl with | [_], _ => rfl) ?_ fun cdv A outer s H vs Q E hr h => ?_
  · rintro vs H Q E ⟨x, n, rfl, _⟩
    rfl
  · obtain ⟨x, n, rfl, sh, q⟩ := h
    refine ⟨_, (pss_one (ps_ret (pe_c c_ratio_text hr (by decide) (by rfl) (pa_cons (pe_cN c_read_number hr (by decide) (by rfl) takesN (pa_cons (pv 0) pa_nil)) pa_nil)))), ?_⟩
    simp only [L2.start, cxOf, tRet, tAndV, tOrV, tNotV, tCB, tCons, tNil, tVar, tC, tOp, tUn, tTest, tB, tIf, tIfS, tSeq, tAsg, tAnd, tOr, tNot, gName, tNext, tCall, tChain, rI, rI0, rEq, rNe, rGcd, rU, tM1, tM0, tSl, tFmtB, tJs, tPart, tNoPart, gTup, gCons, gNil, gSub, tTup, tLst, tPar, L2.rI, List.map_cons, List.map_nil, List.length_cons, List.length_nil, List.cons_append, List.nil_append, List.append_nil, List.getElem?_cons_zero, List.getElem?_cons_succ, List.set_cons_zero, List.set_cons_succ, Option.some.injEq, exists_eq_left, exists_eq_left', exists_eq_right, exists_and_left, exists_and_right, List.cons.injEq, and_true, true_and, V.int.injEq, V.str.injEq, V.bl.injEq, V.ref.injEq, List.replicate, Nat.reduceAdd, Nat.reduceSub, reduceCtorEq, false_and, and_false, if_true, if_false, Bool.false_eq_true, Bool.not_true, Bool.not_false, decide_eq_true_eq, tCallS, spNumRead, spText]
    refine ⟨n, sh, ?_⟩
    cases n with
    | none => exact q
    | some p => exact fun H' t s1 ht e => ⟨t, rfl, p, e, sh.good rfl, q H' s1⟩
end
end W17

set_option Elab.async false
set_option linter.all false
set_option maxRecDepth 100000
set_option maxHeartbeats 4000000
/-! G17: what is told of a caught error -/
namespace W17
open PySem PySem.Spec PyProof.Rows L2 Lay P17 L2H
open SX (S S_len S_cat S_tl)
open C8 (Cal pe_c pe_gc fnScope_by E0 sl_txt rSlX)
theorem bootX_KeyError : bootBuiltins "KeyError" = some (.type "KeyError") := by decide +kernel
theorem bootX_ValueError : bootBuiltins "ValueError" = some (.type "ValueError") := by decide +kernel
theorem bootX_LookupError : bootBuiltins "LookupError" = some (.type "LookupError") := by decide +kernel
theorem bootX_RuntimeError : bootBuiltins "RuntimeError" = some (.type "RuntimeError") := by decide +kernel
theorem bootX_IndexError : bootBuiltins "IndexError" = some (.type "IndexError") := by decide +kernel
theorem handB {X : Cx} {s : Shared} {H : Hp} {scope : Scope} {cenv : Env} {fp : List Addr} (w : Warm X) : HandX (blkP X s H scope cenv fp) := (w.blk).hand
theorem dictP_same {H H' : Hp} {o : Obj} (d : DictP H o) (e : Same H H') : DictP H' o := d.imp id fun ⟨dd, fs, h1, h2⟩ => ⟨dd, fs, h1, e _ _ h2⟩
section
variable {P : Program} {w : World} {K : PySem.W.Frag} {mg : Str → Option Value} {base : Heap} {f fI CB : Addr} {fd fdI : FuncData}
/-- one mark -/
def tMark (K : PySem.W.Frag) (CB : Addr) (p : Addr × Obj) (n : Str) (c : V) : TE := tTup (tCons (tC (.str n)) (tCons (tCB (rIsP K CB p) (tCons (tVar 0) (tCons (tC c) tNil))) tNil))
abbrev Mk : Type := Str × V × Bool
def tMarks (K : PySem.W.Frag) (CB : Addr) (p : Addr × Obj) : List Mk → TA
  | [] => tNil
  | mk :: r => tCons (tMark K CB p mk.1 mk.2.1) (tMarks K CB p r)
def MkOk (K : PySem.W.Frag) (CB : Addr) (mk : Mk) : Prop := ∃ cv, (∀ u, RelV mk.2.1 u → u = cv) ∧ PySem.W.kitOne K (.ref CB) cv = some mk.2.2
theorem marks_run {p : Addr × Obj} {σ : L2.St} (hσ : σ[0]? = some (some (.ref p.1))) : ∀ (ms : List Mk) (H : Hp) (R : List V → Hp → Prop), (∀ mk ∈ ms, MkOk K CB mk) → DictP H p.2 →
    (∀ ts H', Same H H' → Paired (fun (mk : Mk) v => ∃ t, v = .ref t ∧ H' t = some (.tup [.str mk.1, .bl mk.2.2])) ms ts → R ts H') → tMarks K CB p ms σ H R
  | [], H, R, _, _, k => k [] H (Same.refl H) .nil
  | mk :: r, H, R, ok, dp, k => by
    obtain ⟨cv, h1, h2⟩ := ok mk List.mem_cons_self
    refine ⟨_, hσ, _, cv, _, rfl, h1, h2, dp, small (by simp), fun t ht => ?_⟩
    have s1 : Same H (upd H t (.tup [.str mk.1, .bl mk.2.2])) := same_new ht
    refine marks_run hσ r _ _ (fun x hx => ok x (List.mem_cons_of_mem _ hx)) (dictP_same dp s1) fun ts H' s2 pr => ?_
    exact k (.ref t :: ts) H' (s1.trans s2) (.cons ⟨t, rfl, s2 _ _ upd_same⟩ pr)
/-- the word of a mark that says yes -/
def fW (H : Hp) : V → Option V
  | .ref t => (match H t with
    | some (.tup [.str n, .bl true]) => some (.str n)
    | _ => none)
  | _ => none
theorem fW_at {H : Hp} {t : Addr} {n : Str} {b : Bool} (h : H t = some (.tup [.str n, .bl b])) : fW H (.ref t) = if b = true then some (.str n) else none := by
  cases b <;> simp only [fW, h] <;> rfl
theorem paired_right {α β : Type} {R : α → β → Prop} : ∀ {xs : List α} {ys : List β} {y : β}, Paired R xs ys → y ∈ ys → ∃ x, R x y
  | _, _, _, .nil, h => by cases h
  | _, _, _, .cons r t, h => by
    rcases List.mem_cons.mp h with e | h
    · rw [e]; exact ⟨_, r⟩
    · exact paired_right t h
theorem words_of {H : Hp} : ∀ {ms : List Mk} {ts : List V}, Paired (fun (mk : Mk) v => ∃ t, v = .ref t ∧ H t = some (.tup [.str mk.1, .bl mk.2.2])) ms ts → ts.filterMap (fW H) = (ms.filter (fun mk => mk.2.2)).map (fun mk => V.str mk.1)
  | _, _, .nil => rfl
  | _, _, @Paired.cons _ _ _ mk v ms ts h t => by
    obtain ⟨a, rfl, ha⟩ := h
    rw [List.filterMap_cons, fW_at ha, List.filter_cons, words_of t]
    cases mk.2.2 <;> rfl
theorem sc37 : FnScope ["error", "marks", "word", "yes"] ["error"] (defScope (top 37)) := fnScope_by (by decide +kernel)
/-- what the defs are told of the error -/
structure Caught (CB : Addr) (p : Addr × Obj) (H : Hp) : Prop where
  cls : p.2.cls = .ref CB
  fld : ∃ fs, p.2.data = .fields fs
  dict : DictP H p.2
theorem Caught.same {p : Addr × Obj} {H H' : Hp} (c : Caught CB p H) (e : Same H H') : Caught CB p H' := ⟨c.cls, c.fld, dictP_same c.dict e⟩
def spClasses (CB : Addr) (p : Addr × Obj) : Sp := fun vs H Q _ => vs = [.ref p.1] ∧ Caught CB p H ∧ ∀ H' l, Same H H' → H' l = some (.lst [.str "BadNumber", .str "ValueError"]) → Q (.ref l) H'
theorem ok_classes (m : Mg mg) (B : Bad K mg CB fI fdI) (F : Fn K "_law_classes" 37 f fd) (g : mg "_law_classes" = some (.ref f)) : CalE P w K mg base 1 "_law_classes" (spClasses CB) := by
  have sc := sc37
  refine calE F g sc (fun _ _ _ _ _ _ us hl => match us, hl with | [_], _ => rfl) ?_ fun p cdv A outer s H vs Q E hot hr h => ?_
  · rintro p vs H Q E ⟨rfl, _⟩
    rfl
  · obtain ⟨rfl, ct, q⟩ := h
    have hp := hasP_cx (CX := C8.CX0) (P := P) (w := w) (K := K) (mg := mg) (base := base) (N := ["error", "marks", "word", "yes"]) (qual := "_law_classes") (scope := defScope (top 37)) (f := f) (cd := cdv) (outer := outer) (s := s) (H := H) (E := E) hot
    have hc := ct.cls
    have hf := ct.fld
    obtain ⟨C_BadBook, g_BadBook, _, k_BadBook⟩ := B.own "BadBook" (by decide)
    obtain ⟨C_BadTree, g_BadTree, _, k_BadTree⟩ := B.own "BadTree" (by decide)
    obtain ⟨C_BadForm, g_BadForm, _, k_BadForm⟩ := B.own "BadForm" (by decide)
    obtain ⟨C_BadPaper, g_BadPaper, _, k_BadPaper⟩ := B.own "BadPaper" (by decide)
    obtain ⟨C_BadDrawing, g_BadDrawing, _, k_BadDrawing⟩ := B.own "BadDrawing" (by decide)
    obtain ⟨C_BadScript, g_BadScript, _, k_BadScript⟩ := B.own "BadScript" (by decide)
    obtain ⟨C_BadPart, g_BadPart, _, k_BadPart⟩ := B.own "BadPart" (by decide)
    obtain ⟨C_BadLot, g_BadLot, _, k_BadLot⟩ := B.own "BadLot" (by decide)
    obtain ⟨C_BadNumber, g_BadNumber, _, k_BadNumber⟩ := B.own "BadNumber" (by decide)
    obtain ⟨C_NotOne, g_NotOne, _, k_NotOne⟩ := B.own "NotOne" (by decide)
    obtain ⟨C_Lied, g_Lied, _, k_Lied⟩ := B.own "Lied" (by decide)
    obtain ⟨C_Unlike, g_Unlike, _, k_Unlike⟩ := B.own "Unlike" (by decide)
    obtain ⟨C_TooMany, g_TooMany, _, k_TooMany⟩ := B.own "TooMany" (by decide)
    obtain ⟨C_NoSuch, g_NoSuch, _, k_NoSuch⟩ := B.own "NoSuch" (by decide)
    obtain ⟨C_Ended, g_Ended, _, k_Ended⟩ := B.own "Ended" (by decide)
    obtain ⟨g_KeyError, k_KeyError⟩ := B.blt "KeyError" (by decide)
    obtain ⟨g_ValueError, k_ValueError⟩ := B.blt "ValueError" (by decide)
    obtain ⟨g_LookupError, k_LookupError⟩ := B.blt "LookupError" (by decide)
    obtain ⟨g_RuntimeError, k_RuntimeError⟩ := B.blt "RuntimeError" (by decide)
    obtain ⟨g_IndexError, k_IndexError⟩ := B.blt "IndexError" (by decide)
    refine ⟨tSeq (tAsg (tLst (tMarks K CB p [("BadBook", .ref C_BadBook, false), ("BadTree", .ref C_BadTree, false), ("BadForm", .ref C_BadForm, false), ("BadPaper", .ref C_BadPaper, false), ("BadDrawing", .ref C_BadDrawing, false), ("BadScript", .ref C_BadScript, false), ("BadPart", .ref C_BadPart, false), ("BadLot", .ref C_BadLot, false), ("BadNumber", .ref C_BadNumber, true), ("NotOne", .ref C_NotOne, false), ("Lied", .ref C_Lied, false), ("Unlike", .ref C_Unlike, false), ("TooMany", .ref C_TooMany, false), ("NoSuch", .ref C_NoSuch, false), ("Ended", .ref C_Ended, false), ("KeyError", .ty "KeyError", false), ("ValueError", .ty "ValueError", true), ("LookupError", .ty "LookupError", false), ("RuntimeError", .ty "RuntimeError", false), ("IndexError", .ty "IndexError", false)])) (gName 1)) (tRet (tLcW K (tVar 1) (gTup K 2 (gCons (gName 2) (gCons (gName 3) gNil))) (tB (tVar 3)) (tVar 2) [2, 3])), pss_cons (ps_set (i := 1) sc.nd rfl (.inl rfl) (pe_lst (pa_cons (pe_tup (pa_cons pe_str (pa_cons (pe_callB (call_isP hp.mem B.exc hc hf) (by rfl) m.isinstance_ boot_isinstance (pa_cons (pv 0) (pa_cons (pe_glob (v := .ref C_BadBook) (by rfl) g_BadBook rfl) pa_nil))) pa_nil)))
        (pa_cons (pe_tup (pa_cons pe_str (pa_cons (pe_callB (call_isP hp.mem B.exc hc hf) (by rfl) m.isinstance_ boot_isinstance (pa_cons (pv 0) (pa_cons (pe_glob (v := .ref C_BadTree) (by rfl) g_BadTree rfl) pa_nil))) pa_nil)))
        (pa_cons (pe_tup (pa_cons pe_str (pa_cons (pe_callB (call_isP hp.mem B.exc hc hf) (by rfl) m.isinstance_ boot_isinstance (pa_cons (pv 0) (pa_cons (pe_glob (v := .ref C_BadForm) (by rfl) g_BadForm rfl) pa_nil))) pa_nil)))
        (pa_cons (pe_tup (pa_cons pe_str (pa_cons (pe_callB (call_isP hp.mem B.exc hc hf) (by rfl) m.isinstance_ boot_isinstance (pa_cons (pv 0) (pa_cons (pe_glob (v := .ref C_BadPaper) (by rfl) g_BadPaper rfl) pa_nil))) pa_nil)))
        (pa_cons (pe_tup (pa_cons pe_str (pa_cons (pe_callB (call_isP hp.mem B.exc hc hf) (by rfl) m.isinstance_ boot_isinstance (pa_cons (pv 0) (pa_cons (pe_glob (v := .ref C_BadDrawing) (by rfl) g_BadDrawing rfl) pa_nil))) pa_nil)))
        (pa_cons (pe_tup (pa_cons pe_str (pa_cons (pe_callB (call_isP hp.mem B.exc hc hf) (by rfl) m.isinstance_ boot_isinstance (pa_cons (pv 0) (pa_cons (pe_glob (v := .ref C_BadScript) (by rfl) g_BadScript rfl) pa_nil))) pa_nil)))
        (pa_cons (pe_tup (pa_cons pe_str (pa_cons (pe_callB (call_isP hp.mem B.exc hc hf) (by rfl) m.isinstance_ boot_isinstance (pa_cons (pv 0) (pa_cons (pe_glob (v := .ref C_BadPart) (by rfl) g_BadPart rfl) pa_nil))) pa_nil)))
        (pa_cons (pe_tup (pa_cons pe_str (pa_cons (pe_callB (call_isP hp.mem B.exc hc hf) (by rfl) m.isinstance_ boot_isinstance (pa_cons (pv 0) (pa_cons (pe_glob (v := .ref C_BadLot) (by rfl) g_BadLot rfl) pa_nil))) pa_nil)))
        (pa_cons (pe_tup (pa_cons pe_str (pa_cons (pe_callB (call_isP hp.mem B.exc hc hf) (by rfl) m.isinstance_ boot_isinstance (pa_cons (pv 0) (pa_cons (pe_glob (v := .ref C_BadNumber) (by rfl) g_BadNumber rfl) pa_nil))) pa_nil)))
        (pa_cons (pe_tup (pa_cons pe_str (pa_cons (pe_callB (call_isP hp.mem B.exc hc hf) (by rfl) m.isinstance_ boot_isinstance (pa_cons (pv 0) (pa_cons (pe_glob (v := .ref C_NotOne) (by rfl) g_NotOne rfl) pa_nil))) pa_nil)))
        (pa_cons (pe_tup (pa_cons pe_str (pa_cons (pe_callB (call_isP hp.mem B.exc hc hf) (by rfl) m.isinstance_ boot_isinstance (pa_cons (pv 0) (pa_cons (pe_glob (v := .ref C_Lied) (by rfl) g_Lied rfl) pa_nil))) pa_nil)))
        (pa_cons (pe_tup (pa_cons pe_str (pa_cons (pe_callB (call_isP hp.mem B.exc hc hf) (by rfl) m.isinstance_ boot_isinstance (pa_cons (pv 0) (pa_cons (pe_glob (v := .ref C_Unlike) (by rfl) g_Unlike rfl) pa_nil))) pa_nil)))
        (pa_cons (pe_tup (pa_cons pe_str (pa_cons (pe_callB (call_isP hp.mem B.exc hc hf) (by rfl) m.isinstance_ boot_isinstance (pa_cons (pv 0) (pa_cons (pe_glob (v := .ref C_TooMany) (by rfl) g_TooMany rfl) pa_nil))) pa_nil)))
        (pa_cons (pe_tup (pa_cons pe_str (pa_cons (pe_callB (call_isP hp.mem B.exc hc hf) (by rfl) m.isinstance_ boot_isinstance (pa_cons (pv 0) (pa_cons (pe_glob (v := .ref C_NoSuch) (by rfl) g_NoSuch rfl) pa_nil))) pa_nil)))
        (pa_cons (pe_tup (pa_cons pe_str (pa_cons (pe_callB (call_isP hp.mem B.exc hc hf) (by rfl) m.isinstance_ boot_isinstance (pa_cons (pv 0) (pa_cons (pe_glob (v := .ref C_Ended) (by rfl) g_Ended rfl) pa_nil))) pa_nil)))
        (pa_cons (pe_tup (pa_cons pe_str (pa_cons (pe_callB (call_isP hp.mem B.exc hc hf) (by rfl) m.isinstance_ boot_isinstance (pa_cons (pv 0) (pa_cons (pe_bltn (v := .ty "KeyError") (by rfl) g_KeyError (bootX_KeyError) rfl) pa_nil))) pa_nil)))
        (pa_cons (pe_tup (pa_cons pe_str (pa_cons (pe_callB (call_isP hp.mem B.exc hc hf) (by rfl) m.isinstance_ boot_isinstance (pa_cons (pv 0) (pa_cons (pe_bltn (v := .ty "ValueError") (by rfl) g_ValueError (bootX_ValueError) rfl) pa_nil))) pa_nil)))
        (pa_cons (pe_tup (pa_cons pe_str (pa_cons (pe_callB (call_isP hp.mem B.exc hc hf) (by rfl) m.isinstance_ boot_isinstance (pa_cons (pv 0) (pa_cons (pe_bltn (v := .ty "LookupError") (by rfl) g_LookupError (bootX_LookupError) rfl) pa_nil))) pa_nil)))
        (pa_cons (pe_tup (pa_cons pe_str (pa_cons (pe_callB (call_isP hp.mem B.exc hc hf) (by rfl) m.isinstance_ boot_isinstance (pa_cons (pv 0) (pa_cons (pe_bltn (v := .ty "RuntimeError") (by rfl) g_RuntimeError (bootX_RuntimeError) rfl) pa_nil))) pa_nil)))
        (pa_cons (pe_tup (pa_cons pe_str (pa_cons (pe_callB (call_isP hp.mem B.exc hc hf) (by rfl) m.isinstance_ boot_isinstance (pa_cons (pv 0) (pa_cons (pe_bltn (v := .ty "IndexError") (by rfl) g_IndexError (bootX_IndexError) rfl) pa_nil))) pa_nil)))
        pa_nil))))))))))))))))))))))
      (pss_one (ps_ret (pe_lcW (own := [("word", 2), ("yes", 3)]) hp.warm sc.nd (pv 1) (blkOk_by (own := [("word", 2), ("yes", 3)]) (N := [("error" : Str), ("marks" : Str), ("word" : Str), ("yes" : Str)]) (sc := defScope (top 37)) (by decide +kernel))
        (fun _ _ _ _ _ => pg_tupH (handB hp.warm) (pgs_cons (pg_name (i := 2) sc.nd rfl (.inl rfl)) (pgs_cons (pg_name (i := 3) sc.nd rfl (.inl rfl)) pgs_nil))) (fun _ _ _ _ _ => pts_one (pt_val (pv 3))) (fun _ _ _ _ _ => pv 2)))), ?_⟩
    refine marks_run rfl _ _ _ ?_ ct.dict fun ts H1 s1 pr => ⟨?_, fun l hl => ?_⟩
    · intro mk hm
      simp only [List.mem_cons, List.not_mem_nil, or_false] at hm
      rcases hm with rfl | rfl | rfl | rfl | rfl | rfl | rfl | rfl | rfl | rfl | rfl | rfl | rfl | rfl | rfl | rfl | rfl | rfl | rfl | rfl
      · exact ⟨_, fun u r => r, k_BadBook⟩
      · exact ⟨_, fun u r => r, k_BadTree⟩
      · exact ⟨_, fun u r => r, k_BadForm⟩
      · exact ⟨_, fun u r => r, k_BadPaper⟩
      · exact ⟨_, fun u r => r, k_BadDrawing⟩
      · exact ⟨_, fun u r => r, k_BadScript⟩
      · exact ⟨_, fun u r => r, k_BadPart⟩
      · exact ⟨_, fun u r => r, k_BadLot⟩
      · exact ⟨_, fun u r => r, k_BadNumber⟩
      · exact ⟨_, fun u r => r, k_NotOne⟩
      · exact ⟨_, fun u r => r, k_Lied⟩
      · exact ⟨_, fun u r => r, k_Unlike⟩
      · exact ⟨_, fun u r => r, k_TooMany⟩
      · exact ⟨_, fun u r => r, k_NoSuch⟩
      · exact ⟨_, fun u r => r, k_Ended⟩
      · exact ⟨_, fun u r => r, k_KeyError⟩
      · exact ⟨_, fun u r => r, k_ValueError⟩
      · exact ⟨_, fun u r => r, k_LookupError⟩
      · exact ⟨_, fun u r => r, k_RuntimeError⟩
      · exact ⟨_, fun u r => r, k_IndexError⟩
    · have := pr.length
      exact small (by rw [← this]; simp)
    · have s2 : Same H (upd H1 l (.lst ts)) := s1.trans (same_new hl)
      refine ⟨.ref l, rfl, l, ts, fW H1, rfl, SqL.of upd_same, fun D acc y hD hy => ?_, fun D hD => ?_⟩
      · obtain ⟨mk, t, rfl, ht⟩ := paired_right pr hy
        have ht2 : (upd (upd H1 l (.lst ts)) D (.lst acc)) t = some (.tup [.str mk.1, .bl mk.2.2]) := (same_new hD) _ _ ((same_new hl) _ _ ht)
        refine ⟨t, _, rfl, sqT_of ht2, rfl, _, _, rfl, _, _, rfl, rfl, rfl, rfl, _, rfl, _, rfl, rfl, ?_⟩
        rw [fW_at ht]
        cases mk.2.2 with
        | false => exact rfl
        | true => exact ⟨rfl, _, rfl, rfl, rfl⟩
      · have e := words_of pr
        rw [e]
        exact q _ D (s2.trans (same_new hD)) upd_same
theorem sc38 : FnScope ["error", "word", "above", "fields"] ["error", "word", "above", "fields"] (defScope (top 38)) := fnScope_by (by decide +kernel)
def spCaught (CB : Addr) (p : Addr × Obj) : Sp := fun vs H Q _ => ∃ t v, vs = [.ref p.1, .str "BadNumber", .str "ValueError", .ref t] ∧ Caught CB p H ∧ H t = some (.tup [v]) ∧ ∀ H' t', Same H H' → H' t' = some (.tup [.str "BadNumber", v]) → Q (.ref t') H'
theorem ok_caught (c_classes : CalE P w K mg base 1 "_law_classes" (spClasses CB)) (F : Fn K "_law_caught" 38 f fd) (g : mg "_law_caught" = some (.ref f)) : CalE P w K mg base 2 "_law_caught" (spCaught CB) := by
  have sc := sc38
  refine calE F g sc (fun _ _ _ _ _ _ us hl => match us, hl with | [_, _, _, _], _ => rfl) ?_ fun p cdv A outer s H vs Q E hot hr h => ?_
  · rintro p vs H Q E ⟨t, v, rfl, _⟩
    rfl
  · obtain ⟨t, v, rfl, ct, ht, q⟩ := h
    have hp := hasP_cx (CX := C8.CX0) (P := P) (w := w) (K := K) (mg := mg) (base := base) (N := ["error", "word", "above", "fields"]) (qual := "_law_caught") (scope := defScope (top 38)) (f := f) (cd := cdv) (outer := outer) (s := s) (H := H) (E := E) hot
    have room64 : (A.deeper (envOfC "_law_caught" (defScope (top 38)) s.heap.objs.size f cdv)).units + 64 < cLine := by have := hr.un; omega
    refine ⟨_, pss_one (ps_ret (pe_ifExp (pt_cmpR (op_eqD room64) (pe_cE c_classes hr (by decide) hp (by rfl) (pa_cons (pv 0) pa_nil)) (pe_lst (pa_cons (pv 1) (pa_cons (pv 2) pa_nil))) (nomark _))
      (pe_op op_catA (pe_tup (pa_cons (pv 1) pa_nil)) (pv 3)) (pe_tup (pa_cons pe_str (pa_cons (pv 1) pa_nil))))), ?_⟩
    refine ⟨_, rfl, rfl, ct, fun H1 l s1 hl => ?_⟩
    refine ⟨_, rfl, _, rfl, small (by decide), fun l2 hl2 => ?_⟩
    have s2 : Same H1 (upd H1 l2 (.lst [.str "BadNumber", .str "ValueError"])) := same_new hl2
    have two : ∀ {a : Addr}, (upd H1 l2 (.lst [.str "BadNumber", .str "ValueError"])) a = some (.lst [.str "BadNumber", .str "ValueError"]) → Dp K (upd H1 l2 (.lst [.str "BadNumber", .str "ValueError"])) (.ref a) (.list [.str "BadNumber", .str "ValueError"]) := fun h =>
      .lst (SqL.of h) (.cons (.str _) (.cons (.str _) .nil))
    refine ⟨_, _, two (s2 _ _ hl), two upd_same, by decide +kernel, by decide +kernel, ⟨true, by decide +kernel, ?_⟩⟩
    simp only [if_true]
    refine ⟨_, rfl, small (by decide), fun a ha => ?_⟩
    have s3 := (s1.trans s2).trans (same_new (o := .tup [.str "BadNumber"]) ha)
    refine ⟨_, rfl, a, t, _, _, rfl, rfl, sqT_of upd_same, sqT_of (s3 _ _ ht), small (by simp), (fun z => nomatch z), (fun _ z => nomatch z), fun _ _ b hb => ?_⟩
    exact q _ b (s3.trans (same_new hb)) upd_same
theorem sc40 : FnScope ["call", "e"] ["call"] (defScope (top 40)) := fnScope_by (by decide +kernel)
/-- ('told', what the lambda tells), or ('BadNumber', v) -/
def spTried (CB : Addr) : (Hp → VK → XK → Prop) → Sp := fun spL vs H Q _ => vs = [] ∧ spL H (fun v H' => [V.str "told", v].length ≤ sizeLine ∧ ∀ t, H' t = none → Q (.ref t) (upd H' t (.tup [.str "told", v])))
  (fun cls d H' => cls = .ref CB ∧ ∃ dd v, d = some dd ∧ H' dd = some (.xd [("value", v)]) ∧ ∀ H'' t, Same H' H'' → H'' t = some (.tup [.str "BadNumber", v]) → Q (.ref t) H'')
theorem ok_tried (B : Bad K mg CB fI fdI) (c_caught : CalE P w K mg base 2 "_law_caught" (spCaught CB)) (F : Fn K "_law_tried" 40 f fd) (g : mg "_law_tried" = some (.ref f)) (j : Nat) (hj : 2 ≤ j) : CalL P w K mg base (j + 1) j "_law_tried" (spTried CB) := by
  have sc := sc40
  refine calL F g sc (fun _ _ _ _ _ _ us hl => match us, hl with | [_], _ => rfl) ?_ fun cdv A outer s H vs fl spL Q E hr l h => ?_
  · rintro spL vs H Q E ⟨rfl, _⟩
    rfl
  · obtain ⟨rfl, q⟩ := h
    obtain ⟨C_BadBook, g_BadBook, e_BadBook, _⟩ := B.own "BadBook" (by decide)
    obtain ⟨C_BadPart, g_BadPart, e_BadPart, _⟩ := B.own "BadPart" (by decide)
    obtain ⟨C_BadNumber, g_BadNumber, e_BadNumber, _⟩ := B.own "BadNumber" (by decide)
    obtain ⟨C_BadLot, g_BadLot, e_BadLot, _⟩ := B.own "BadLot" (by decide)
    obtain ⟨C_Unlike, g_Unlike, e_Unlike, _⟩ := B.own "Unlike" (by decide)
    obtain ⟨C_TooMany, g_TooMany, e_TooMany, _⟩ := B.own "TooMany" (by decide)
    obtain ⟨C_NoSuch, g_NoSuch, e_NoSuch, _⟩ := B.own "NoSuch" (by decide)
    refine ⟨_, pss_one (ps_try_all (i := 1) rfl rfl sc.nd rfl rfl takes_no (fun W pn xe tk _ => pss_one (ps_ret (pe_tup (pa_cons pe_str (pa_cons (pe_actW (i := 0) rfl l hr tk rfl (.inl rfl)) pa_nil)))))
      (HdsA.cons (tst_name ⟨rfl, by decide, .inl g_BadBook⟩) (fun p pn hp hf => pss_never)
        (HdsA.cons (tst_name ⟨rfl, by decide, .inl g_BadPart⟩) (fun p pn hp hf => pss_never)
        (HdsA.cons (tst_name ⟨rfl, by decide, .inl g_BadNumber⟩) (fun p pn hp hf => pss_one (ps_ret (pe_cE c_caught (roomH_mark hr _) hj hp (by rfl) (pa_cons (pv 1) (pa_cons pe_str (pa_cons pe_str (pa_cons (pe_tup (pa_cons (pe_xp hp.mem B.xf B.noVal hf (pv 1)) pa_nil)) pa_nil)))))))
        (HdsA.cons (tst_name ⟨rfl, by decide, .inl g_BadLot⟩) (fun p pn hp hf => pss_never)
        (HdsA.cons (tst_name ⟨rfl, by decide, .inl g_Unlike⟩) (fun p pn hp hf => pss_never)
        (HdsA.cons (tst_name ⟨rfl, by decide, .inl g_TooMany⟩) (fun p pn hp hf => pss_never)
        (HdsA.cons (tst_name ⟨rfl, by decide, .inl g_NoSuch⟩) (fun p pn hp hf => pss_never)
        HdsA.nil)))))))), ?_⟩
    refine ⟨fun cls d H' => cls = .ref CB ∧ ∃ dd v, d = some dd ∧ H' dd = some (.xd [("value", v)]) ∧ ∀ H'' t, Same H' H'' → H'' t = some (.tup [.str "BadNumber", v]) → Q (.ref t) H'', ?_, rfl, q⟩
    rintro cls d H' ⟨rfl, dd, v, rfl, hd, k⟩
    refine ⟨false, e_BadBook.trans (by decide +kernel), (fun z => nomatch z), fun _ => ⟨false, e_BadPart.trans (by decide +kernel), (fun z => nomatch z), fun _ => ⟨true, e_BadNumber.trans (by decide +kernel), fun _ p hc hdict hf hfree => ?_, (fun z => nomatch z)⟩⟩⟩
    refine ⟨_, rfl, _, rfl, rfl, hc, dd, _, v, hdict, hd, rfl, small (by simp), fun t ht => ?_⟩
    have s1 : Same H' (upd H' t (.tup [v])) := same_new ht
    exact ⟨t, v, rfl, ⟨hc, hf, .inr ⟨dd, _, hdict, s1 _ _ hd⟩⟩, upd_same, fun H'' t' s2 e => k _ t' (s1.trans s2) e⟩
end
end W17

set_option Elab.async false
set_option linter.all false
set_option maxRecDepth 100000
set_option maxHeartbeats 4000000
/-! F17: the bag and what is drawn from it -/
namespace W17
open PySem PySem.Spec PyProof.Rows L2 Lay P17
open SX (S S_len S_cat S_tl)
open C8 (Cal pe_c pe_gc fnScope_by E0 sl_txt rSlX)
section
variable {P : Program} {w : World} {K : PySem.W.Frag} {mg : Str → Option Value} {base : Heap} {f fI CB : Addr} {fd fdI : FuncData}
theorem sc29 : FnScope ["script", "mixed", "item"] ["script"] (defScope (top 29)) := fnScope_by (by decide +kernel)
def spBag (K : PySem.W.Frag) : Sp := fun vs H Q _ => ∃ (a : Addr) (ns : List Int), vs = [.ref a] ∧ SqL K H a (ns.map V.int) ∧ ∀ H' b, Same H H' → H b = none → Bag H' b → Q (.ref b) H'
theorem ok_bag (m : Mg mg) (F : Fn K "_law_bag" 29 f fd) (g : mg "_law_bag" = some (.ref f)) : Cal P w K mg base 1 "_law_bag" (spBag K) [] := by
  have sc := sc29
  refine calD F g sc (fun _ _ _ _ _ _ us hl => match us, hl with | [_], _ => rfl) ?_ fun cdv A outer s H vs Q E hr h => ?_
  · rintro vs H Q E ⟨x, _, rfl, _⟩
    rfl
  · obtain ⟨a, ns, rfl, hS, q⟩ := h
    refine ⟨_, (pss_cons (ps_set (i := 1) sc.nd rfl (.inl rfl) pe_int)
      (pss_cons (ps_for pown rfl (pi_list (pe_slice sl_list (pv 0) po_none (po_some pe_int))) (pg_name (i := 2) sc.nd rfl (.inl rfl))
        (pss_one (ps_set (i := 1) sc.nd rfl (.inl rfl) (pe_op op_mod (pe_callTy call_int1 (by rfl) m.int_ boot_int (pa_cons (pe_op op_add (pe_op op_add (pe_op op_mul (pv 1) pe_int) (pe_op op_mod (pe_callTy call_int1 (by rfl) m.int_ boot_int (pa_cons (pv 2) pa_nil)) pe_int)) pe_int) pa_nil)) pe_int))))
      (pss_one (ps_ret (pe_lst (pa_cons (pe_callTy call_list_of (by rfl) m.list_ boot_list (pa_cons (pe_slice sl_list (pv 0) po_none (po_some pe_int)) pa_nil)) (pa_cons pe_int (pa_cons pe_int (pa_cons (pv 1) (pa_cons pe_int (pa_cons pe_int pa_nil))))))))))), ?_⟩
    simp only [L2.start, cxOf, tRet, tAndV, tOrV, tNotV, tCB, tCons, tNil, tVar, tC, tOp, tUn, tTest, tB, tSeq, tAsg, tNot, gName, tNext, tCall, tChain, rI, rI0, rEq, rNe, rGcd, rU, tM1, tM0, tSl, tFmtB, tJs, tPart, tNoPart, gTup, gCons, gNil, gSub, tTup, tLst, tPar, L2.rI, List.map_cons, List.map_nil, List.length_cons, List.length_nil, List.cons_append, List.nil_append, List.append_nil, List.getElem?_cons_zero, List.getElem?_cons_succ, List.set_cons_zero, List.set_cons_succ, Option.some.injEq, exists_eq_left, exists_eq_left', exists_eq_right, exists_and_left, exists_and_right, List.cons.injEq, and_true, true_and, V.int.injEq, V.str.injEq, V.bl.injEq, V.ref.injEq, List.replicate, Nat.reduceAdd, Nat.reduceSub, reduceCtorEq, false_and, and_false, if_true, if_false, Bool.false_eq_true, Bool.not_true, Bool.not_false, decide_eq_true_eq, exists_false, or_false, false_or]
    have md : ∀ z : Int, 0 ≤ z % 2147483549 ∧ z % 2147483549 < 2147483549 := fun z => ⟨Int.emod_nonneg _ (by decide), Int.emod_lt_of_pos _ (by decide)⟩
    have cutI : ∀ ns' : List Int, ∃ ms : List Int, cutV (ns'.map V.int) none (some 63) = ms.map V.int := fun ns' => by
      unfold cutV
      rw [← List.map_drop, ← List.map_take]
      exact ⟨_, rfl⟩
    obtain ⟨ms, hms⟩ := cutI ns
    refine for_list_made (o := fun H _ => H) (xs := ms.map V.int) (fun R k => ?_) (fun l hl => ?_)
    · simp only [L2.start, cxOf, tRet, tAndV, tOrV, tNotV, tCB, tCons, tNil, tVar, tC, tOp, tUn, tTest, tB, tIf, tIfS, tSeq, tAsg, tAnd, tOr, tNot, gName, tNext, tCall, tChain, rI, rI0, rEq, rNe, rGcd, rU, tM1, tM0, tSl, tFmtB, tJs, tPart, tNoPart, gTup, gCons, gNil, gSub, tTup, tLst, tPar, L2.rI, List.map_cons, List.map_nil, List.length_cons, List.length_nil, List.cons_append, List.nil_append, List.append_nil, List.getElem?_cons_zero, List.getElem?_cons_succ, List.set_cons_zero, List.set_cons_succ, Option.some.injEq, exists_eq_left, exists_eq_left', exists_eq_right, exists_and_left, exists_and_right, List.cons.injEq, and_true, true_and, V.int.injEq, V.str.injEq, V.bl.injEq, V.ref.injEq, List.replicate, Nat.reduceAdd, Nat.reduceSub, reduceCtorEq, false_and, and_false, if_true, if_false, Bool.false_eq_true, Bool.not_true, Bool.not_false, decide_eq_true_eq, exists_false, or_false, false_or, rSlL]
      exact ⟨_, hS, fun p hp => by rw [hms]; exact k p hp⟩
    · have s0 : Same H (upd H l (.lst (ms.map V.int))) := same_new hl
      have l0 : (upd H l (.lst (ms.map V.int))) l = some (.lst (ms.map V.int)) := upd_same
      refine ⟨fun i σ' H' => Same (upd H l (.lst (ms.map V.int))) H' ∧ ∃ x y, σ' = [some (.ref a), some (.int x), y] ∧ 0 ≤ x ∧ x < 2147483549, ⟨Same.refl _, 17788, none, rfl, by decide, by decide⟩, fun i σ' H' _ hP => SqL.of (hP.1 _ _ l0), ?_, ?_⟩
      · rintro i x σ' H' hx ⟨s1, y, z, rfl, y1, y2⟩
        obtain ⟨v, rfl⟩ : ∃ v, x = .int v := by
          rw [List.getElem?_map] at hx
          cases e : ms[i]? with
          | none => rw [e] at hx; cases hx
          | some v => rw [e] at hx; exact ⟨v, (Option.some.inj hx).symm⟩
        simp only [L2.start, cxOf, tRet, tAndV, tOrV, tNotV, tCB, tCons, tNil, tVar, tC, tOp, tUn, tTest, tB, tIf, tIfS, tSeq, tAsg, tAnd, tOr, tNot, gName, tNext, tCall, tChain, rI, rI0, rEq, rNe, rGcd, rU, tM1, tM0, tSl, tFmtB, tJs, tPart, tNoPart, gTup, gCons, gNil, gSub, tTup, tLst, tPar, L2.rI, List.map_cons, List.map_nil, List.length_cons, List.length_nil, List.cons_append, List.nil_append, List.append_nil, List.getElem?_cons_zero, List.getElem?_cons_succ, List.set_cons_zero, List.set_cons_succ, Option.some.injEq, exists_eq_left, exists_eq_left', exists_eq_right, exists_and_left, exists_and_right, List.cons.injEq, and_true, true_and, V.int.injEq, V.str.injEq, V.bl.injEq, V.ref.injEq, List.replicate, Nat.reduceAdd, Nat.reduceSub, reduceCtorEq, false_and, and_false, if_true, if_false, Bool.false_eq_true, Bool.not_true, Bool.not_false, decide_eq_true_eq, exists_false, or_false, false_or]
        exact ⟨.inr (by decide), by decide, by decide, s1, _, ⟨rfl, _, rfl⟩, (md _).1, (md _).2⟩
      · rintro σ' H' ⟨s1, y, z, rfl, y1, y2⟩
        simp only [L2.start, cxOf, tRet, tAndV, tOrV, tNotV, tCB, tCons, tNil, tVar, tC, tOp, tUn, tTest, tB, tIf, tIfS, tSeq, tAsg, tAnd, tOr, tNot, gName, tNext, tCall, tChain, rI, rI0, rEq, rNe, rGcd, rU, tM1, tM0, tSl, tFmtB, tJs, tPart, tNoPart, gTup, gCons, gNil, gSub, tTup, tLst, tPar, L2.rI, List.map_cons, List.map_nil, List.length_cons, List.length_nil, List.cons_append, List.nil_append, List.append_nil, List.getElem?_cons_zero, List.getElem?_cons_succ, List.set_cons_zero, List.set_cons_succ, Option.some.injEq, exists_eq_left, exists_eq_left', exists_eq_right, exists_and_left, exists_and_right, List.cons.injEq, and_true, true_and, V.int.injEq, V.str.injEq, V.bl.injEq, V.ref.injEq, List.replicate, Nat.reduceAdd, Nat.reduceSub, reduceCtorEq, false_and, and_false, if_true, if_false, Bool.false_eq_true, Bool.not_true, Bool.not_false, decide_eq_true_eq, exists_false, or_false, false_or, rSlL]
        have s2 := s0.trans s1
        refine ⟨_, s2.seq hS, fun p hp => ?_⟩
        rw [hms]
        refine ⟨_, .inl (SqL.of upd_same), fun l2 hl2 => ⟨small (by decide), fun b hb => ?_⟩⟩
        have s3 := (s2.trans (same_new hp)).trans (same_new (o := .lst (ms.map V.int)) hl2)
        have s4 := s3.trans (same_new (o := .lst [V.ref l2, V.int 0, V.int 0, V.int y, V.int 0, V.int 0]) hb)
        have nb : l2 ≠ b := fun z => by
          rw [← z, upd_same] at hb
          cases hb
        exact q _ b s4 (s3.free hb) ⟨l2, ms, 0, 0, y, 0, 0, upd_same, by rw [upd_ne nb]; exact upd_same, nb, y1, y2⟩
theorem sc30 : FnScope ["bag", "size", "item", "digit"] ["bag", "size"] (defScope (top 30)) := fnScope_by (by decide +kernel)
def spDraw : Sp := fun vs H Q _ => ∃ b size, vs = [.ref b, .int size] ∧ Bag H b ∧ 0 < size ∧ size < 1073741824 ∧ ∀ H' d, Ex b H H' → 0 ≤ d → d < size → Q (.int d) H'
theorem ok_draw (m : Mg mg) (F : Fn K "_law_draw" 30 f fd) (g : mg "_law_draw" = some (.ref f)) : Cal P w K mg base 1 "_law_draw" spDraw [] := by
  have sc := sc30
  refine calD F g sc (fun _ _ _ _ _ _ us hl => match us, hl with | [_, _], _ => rfl) ?_ fun cdv A outer s H vs Q E hr h => ?_
  · rintro vs H Q E ⟨x, _, rfl, _⟩
    rfl
  · obtain ⟨b, size, rfl, bag, p1, p2, q⟩ := h
    refine ⟨_, (pss_cons (ps_asg (pe_op op_add (pe_ix ix_list (pv 0) pe_int (fun _ _ => rfl)) pe_int) (pg_sub (pv 0) pe_int set_list))
      (pss_cons (ps_if ((pw_and (pt_cmpR op_eq (pe_ix ix_list (pv 0) pe_int (fun _ _ => rfl)) pe_int (nomark _)) (pw_and1 (pt_cmpR op_lt (pe_ix ix_list (pv 0) pe_int (fun _ _ => rfl)) (pe_callB call_len (by rfl) m.len_ boot_len (pa_cons (pe_ix ix_list (pv 0) pe_int (fun _ _ => rfl)) pa_nil)) (nomark _))))).pt
        (pss_cons (ps_set (i := 2) sc.nd rfl (.inl rfl) (pe_ix ix_list (pe_ix ix_list (pv 0) pe_int (fun _ _ => rfl)) (pe_ix ix_list (pv 0) pe_int (fun _ _ => rfl)) (fun _ _ => rfl)))
        (pss_cons (ps_asg (pe_op op_add (pe_ix ix_list (pv 0) pe_int (fun _ _ => rfl)) pe_int) (pg_sub (pv 0) pe_int set_list))
        (pss_one (ps_if (pt_cmpR op_ge (pv 2) (pe_op op_pow pe_int pe_int) (nomark _))
          (pss_cons (ps_asg (pv 2) (pg_sub (pv 0) pe_int set_list))
          (pss_one (ps_asg pe_int (pg_sub (pv 0) pe_int set_list))))
          (pss_one (ps_asg (pe_op op_mod (pe_callTy call_int1 (by rfl) m.int_ boot_int (pa_cons (pe_op op_add (pe_op op_add (pe_op op_mul (pe_ix ix_list (pv 0) pe_int (fun _ _ => rfl)) pe_int) (pe_op op_mul (pe_op op_mod (pe_callTy call_int1 (by rfl) m.int_ boot_int (pa_cons (pv 2) pa_nil)) pe_int) pe_int)) pe_int) pa_nil)) pe_int) (pg_sub (pv 0) pe_int set_list)))))))
        pss_nil)
      (pss_cons (ps_if (pt_cmpR op_gt (pe_ix ix_list (pv 0) pe_int (fun _ _ => rfl)) pe_int (nomark _))
        (pss_cons (ps_set (i := 3) sc.nd rfl (.inl rfl) (pe_op op_mod (pe_callTy call_int1 (by rfl) m.int_ boot_int (pa_cons (pe_ix ix_list (pv 0) pe_int (fun _ _ => rfl)) pa_nil)) (pv 1)))
        (pss_cons (ps_asg (pe_op op_sub (pe_ix ix_list (pv 0) pe_int (fun _ _ => rfl)) pe_int) (pg_sub (pv 0) pe_int set_list))
        (pss_cons (ps_asg (pe_ifExp (pt_cmpR op_gt (pe_ix ix_list (pv 0) pe_int (fun _ _ => rfl)) pe_int (nomark _)) (pe_op op_fdiv (pe_ix ix_list (pv 0) pe_int (fun _ _ => rfl)) (pv 1)) pe_int) (pg_sub (pv 0) pe_int set_list))
        (pss_one (ps_ret (pv 3))))))
        pss_nil)
      (pss_cons (ps_asg (pe_op op_mod (pe_callTy call_int1 (by rfl) m.int_ boot_int (pa_cons (pe_op op_add (pe_op op_add (pe_op op_pow (pe_ix ix_list (pv 0) pe_int (fun _ _ => rfl)) pe_int) (pe_op op_mul (pe_ix ix_list (pv 0) pe_int (fun _ _ => rfl)) pe_int)) pe_int) pa_nil)) pe_int) (pg_sub (pv 0) pe_int set_list))
      (pss_one (ps_ret (pe_op op_mod (pe_callTy call_int1 (by rfl) m.int_ boot_int (pa_cons (pe_op op_add (pe_op op_fdiv (pe_ix ix_list (pv 0) pe_int (fun _ _ => rfl)) pe_int) (pe_op op_mul (pe_op op_mod (pe_callTy call_int1 (by rfl) m.int_ boot_int (pa_cons (pe_ix ix_list (pv 0) pe_int (fun _ _ => rfl)) pa_nil)) pe_int) pe_int)) pa_nil)) (pv 1)))))))), ?_⟩
    obtain ⟨l, ns, pos, big, mixed, cnt, left, hb, hl, nb, m1, m2⟩ := bag
    -- the bag's list, all else as at the entry
    have done : ∀ H' pos' big' mixed' cnt' left' d, (∀ a o, a ≠ b → H a = some o → H' a = some o) → H' b = some (.lst [.ref l, .int ((pos' : Nat) : Int), .int big', .int mixed', .int cnt', .int left']) → 0 ≤ mixed' → mixed' < 2147483549 → 0 ≤ d → d < size → Q (.int d) H' :=
      fun H' pos' big' mixed' cnt' left' d k h1 h2 h3 h4 h5 => q H' d ⟨k, l, ns, pos', big', mixed', cnt', left', h1, k _ _ nb hl, nb, h2, h3⟩ h4 h5
    have set : ∀ {H' : Hp} {o : HO}, (∀ a o, a ≠ b → H a = some o → H' a = some o) → ∀ a u, a ≠ b → H a = some u → (upd H' b o) a = some u := fun k a u n e => by
      rw [upd_ne n]
      exact k a u n e
    have md : ∀ z : Int, 0 ≤ z % 2147483549 ∧ z % 2147483549 < 2147483549 := fun z => ⟨Int.emod_nonneg _ (by decide), Int.emod_lt_of_pos _ (by decide)⟩
    have sm : ∀ {i c : Int}, -(2 ^ 64) < c ∧ c < 2 ^ 64 → CMul i c := fun h => .inr h
    refine seq_cut (fun σ' H' => σ' = [some (.ref b), some (.int size), none, none] ∧ (∀ a o, a ≠ b → H a = some o → H' a = some o) ∧ H' b = some (.lst [.ref l, .int (pos : Int), .int big, .int mixed, .int (cnt + 1), .int left])) ?_ ?_
    · intro D' e nx
      simp only [L2.start, cxOf, tRet, tAndV, tOrV, tNotV, tCB, tCons, tNil, tVar, tC, tOp, tUn, tTest, tB, tIf, tIfS, tSeq, tAsg, tAnd, tOr, tNot, gName, tNext, tCall, tChain, rI, rI0, rEq, rNe, rGcd, rU, tM1, tM0, tSl, tFmtB, tJs, tPart, tNoPart, gTup, gCons, gNil, gSub, tTup, tLst, tPar, L2.rI, List.map_cons, List.map_nil, List.length_cons, List.length_nil, List.cons_append, List.nil_append, List.append_nil, List.getElem?_cons_zero, List.getElem?_cons_succ, List.set_cons_zero, List.set_cons_succ, Option.some.injEq, exists_eq_left, exists_eq_left', exists_eq_right, exists_and_left, exists_and_right, List.cons.injEq, and_true, true_and, V.int.injEq, V.str.injEq, V.bl.injEq, V.ref.injEq, List.replicate, Nat.reduceAdd, Nat.reduceSub, reduceCtorEq, false_and, and_false, if_true, if_false, Bool.false_eq_true, Bool.not_true, Bool.not_false, decide_eq_true_eq, exists_false, or_false, false_or]
      exact ixL (SqL.of hb) 4 rfl ⟨cnt, rfl, setL hb 4 (by simp) (nx _ _ ⟨rfl, set fun _ _ _ h => h, upd_same⟩)⟩
    · rintro σ' H1 ⟨rfl, k1, b1⟩
      refine seq_cut (fun σ' H' => (∃ y, σ' = [some (.ref b), some (.int size), y, none]) ∧ (∀ a o, a ≠ b → H a = some o → H' a = some o) ∧ ∃ (pos' : Nat) (big' mixed' left' : Int), 0 ≤ mixed' ∧ mixed' < 2147483549 ∧ H' b = some (.lst [.ref l, .int (pos' : Int), .int big', .int mixed', .int (cnt + 1), .int left'])) ?_ ?_
      · intro D' e nx
        simp only [L2.start, cxOf, tRet, tAndV, tOrV, tNotV, tCB, tCons, tNil, tVar, tC, tOp, tUn, tTest, tB, tIf, tIfS, tSeq, tAsg, tAnd, tOr, tNot, gName, tNext, tCall, tChain, rI, rI0, rEq, rNe, rGcd, rU, tM1, tM0, tSl, tFmtB, tJs, tPart, tNoPart, gTup, gCons, gNil, gSub, tTup, tLst, tPar, L2.rI, List.map_cons, List.map_nil, List.length_cons, List.length_nil, List.cons_append, List.nil_append, List.append_nil, List.getElem?_cons_zero, List.getElem?_cons_succ, List.set_cons_zero, List.set_cons_succ, Option.some.injEq, exists_eq_left, exists_eq_left', exists_eq_right, exists_and_left, exists_and_right, List.cons.injEq, and_true, true_and, V.int.injEq, V.str.injEq, V.bl.injEq, V.ref.injEq, List.replicate, Nat.reduceAdd, Nat.reduceSub, reduceCtorEq, false_and, and_false, if_true, if_false, Bool.false_eq_true, Bool.not_true, Bool.not_false, decide_eq_true_eq, exists_false, or_false, false_or]
        refine ixL (SqL.of b1) 2 rfl ⟨rfl, ?_⟩
        have stay : D'.nx [some (.ref b), some (.int size), none, none] H1 := nx _ _ ⟨⟨none, rfl⟩, k1, pos, big, mixed, left, m1, m2, b1⟩
        by_cases h0 : V.int big = V.int 0
        · rw [if_pos h0]
          have l1 : SqL K H1 l (ns.map V.int) := SqL.of (k1 _ _ nb hl)
          refine ixL (SqL.of b1) 1 rfl (ixL (SqL.of b1) 0 rfl ⟨_, len_L l1, pos, rfl, ?_⟩)
          by_cases hp : (pos : Int) < ((ns.map V.int).length : Int)
          · rw [if_pos hp]
            have hlt : pos < ns.length := by
              rw [List.length_map] at hp
              omega
            have it : (ns.map V.int)[pos]? = some (.int ns[pos]) := by
              rw [List.getElem?_map, List.getElem?_eq_getElem hlt] <;> rfl
            refine ixL (SqL.of b1) 0 rfl (ixL (SqL.of b1) 1 rfl (ixL l1 pos it (ixL (SqL.of b1) 1 rfl ⟨(pos : Int), rfl, setL b1 1 (by simp) ⟨⟨by decide, by decide, by decide⟩, ns[pos], rfl, ?_⟩⟩)))
            have k2 : ∀ a o, a ≠ b → H a = some o → (upd H1 b (.lst ([V.ref l, V.int (pos : Int), V.int big, V.int mixed, V.int (cnt + 1), V.int left].set 1 (V.int ((pos : Int) + 1))))) a = some o := set k1
            have b2 : (upd H1 b (.lst ([V.ref l, V.int (pos : Int), V.int big, V.int mixed, V.int (cnt + 1), V.int left].set 1 (V.int ((pos : Int) + 1))))) b = some (.lst [V.ref l, V.int ((pos + 1 : Nat) : Int), V.int big, V.int mixed, V.int (cnt + 1), V.int left]) := upd_same
            revert k2 b2
            generalize upd H1 b (.lst ([V.ref l, V.int (pos : Int), V.int big, V.int mixed, V.int (cnt + 1), V.int left].set 1 (V.int ((pos : Int) + 1)))) = H2
            intro k2 b2
            by_cases hbig : (10 : Int) ^ Int.toNat 18 ≤ ns[pos]
            · rw [if_pos hbig]
              refine setL b2 2 (by simp) ?_
              refine setL (xs := [V.ref l, V.int ((pos + 1 : Nat) : Int), V.int ns[pos], V.int mixed, V.int (cnt + 1), V.int left]) upd_same 5 (by simp) ?_
              exact nx _ _ ⟨⟨_, rfl⟩, set (set k2), pos + 1, ns[pos], mixed, 60, m1, m2, upd_same⟩
            · rw [if_neg hbig]
              refine ixL (SqL.of b2) 3 rfl ⟨mixed, rfl, sm (by decide), .inl ⟨_, rfl, by decide, sm (by decide), by decide, ?_⟩⟩
              exact setL b2 3 (by simp) (nx _ _ ⟨⟨_, rfl⟩, set k2, pos + 1, big, _, left, (md _).1, (md _).2, upd_same⟩)
          · rw [if_neg hp]
            exact stay
        · rw [if_neg h0]
          exact stay
      · rintro σ' H2 ⟨⟨y, rfl⟩, k2, pos', big', mixed', left', n1, n2, b2⟩
        simp only [L2.start, cxOf, tRet, tAndV, tOrV, tNotV, tCB, tCons, tNil, tVar, tC, tOp, tUn, tTest, tB, tIf, tIfS, tSeq, tAsg, tAnd, tOr, tNot, gName, tNext, tCall, tChain, rI, rI0, rEq, rNe, rGcd, rU, tM1, tM0, tSl, tFmtB, tJs, tPart, tNoPart, gTup, gCons, gNil, gSub, tTup, tLst, tPar, L2.rI, List.map_cons, List.map_nil, List.length_cons, List.length_nil, List.cons_append, List.nil_append, List.append_nil, List.getElem?_cons_zero, List.getElem?_cons_succ, List.set_cons_zero, List.set_cons_succ, Option.some.injEq, exists_eq_left, exists_eq_left', exists_eq_right, exists_and_left, exists_and_right, List.cons.injEq, and_true, true_and, V.int.injEq, V.str.injEq, V.bl.injEq, V.ref.injEq, List.replicate, Nat.reduceAdd, Nat.reduceSub, reduceCtorEq, false_and, and_false, if_true, if_false, Bool.false_eq_true, Bool.not_true, Bool.not_false, decide_eq_true_eq, exists_false, or_false, false_or]
        refine ixL (SqL.of b2) 2 rfl ⟨big', rfl, ?_⟩
        by_cases hg : 0 < big'
        · rw [if_pos hg]
          refine ixL (SqL.of b2) 2 rfl (.inl ⟨big', rfl, p1, ?_⟩)
          refine ixL (SqL.of b2) 5 rfl ⟨left', rfl, setL b2 5 (by simp) ?_⟩
          have dg : 0 ≤ big' % size ∧ big' % size < size := ⟨Int.emod_nonneg _ (by omega), Int.emod_lt_of_pos _ p1⟩
          have b3 : (upd H2 b (.lst ([V.ref l, V.int (pos' : Int), V.int big', V.int mixed', V.int (cnt + 1), V.int left'].set 5 (V.int (left' - 1))))) b = some (.lst [V.ref l, V.int (pos' : Int), V.int big', V.int mixed', V.int (cnt + 1), V.int (left' - 1)]) := upd_same
          refine ixL (SqL.of b3) 5 rfl ⟨left' - 1, rfl, ?_⟩
          by_cases h5 : 0 < left' - 1
          · rw [if_pos h5]
            exact ixL (SqL.of b3) 2 rfl ⟨big', rfl, ⟨p1, p2⟩, setL b3 2 (by simp) (done _ pos' _ _ _ _ _ (set (set k2)) upd_same n1 n2 dg.1 dg.2)⟩
          · rw [if_neg h5]
            exact setL b3 2 (by simp) (done _ pos' _ _ _ _ _ (set (set k2)) upd_same n1 n2 dg.1 dg.2)
        · rw [if_neg hg]
          refine ixL (SqL.of b2) 3 rfl ⟨mixed', rfl, ⟨by decide, by decide, by omega⟩, ?_⟩
          refine ixL (SqL.of b2) 4 rfl ⟨cnt + 1, rfl, sm (by decide), ?_⟩
          refine ⟨by decide, setL b2 3 (by simp) ?_⟩
          generalize hz : (mixed' ^ Int.toNat 3 + (cnt + 1) * 1299689 + 60029) % 2147483549 = z
          have mz := md (mixed' ^ Int.toNat 3 + (cnt + 1) * 1299689 + 60029)
          rw [hz] at mz
          have b3 : (upd H2 b (.lst ([V.ref l, V.int (pos' : Int), V.int big', V.int mixed', V.int (cnt + 1), V.int left'].set 3 (V.int z)))) b = some (.lst [V.ref l, V.int (pos' : Int), V.int big', V.int z, V.int (cnt + 1), V.int left']) := upd_same
          refine ixL (SqL.of b3) 3 rfl ⟨z, rfl, ⟨by decide, by decide⟩, ixL (SqL.of b3) 3 rfl (.inl ⟨z, rfl, by decide, sm (by decide), p1, ?_⟩)⟩
          exact done _ pos' _ _ _ _ _ (set k2) b3 mz.1 mz.2 (Int.emod_nonneg _ (by omega)) (Int.emod_lt_of_pos _ p1)
theorem sc31 : FnScope ["bag", "menu"] ["bag", "menu"] (defScope (top 31)) := fnScope_by (by decide +kernel)
def spOf : Sp := fun vs H Q _ => ∃ (b l : Addr) (xs : List V), vs = [.ref b, .ref l] ∧ Bag H b ∧ H l = some (.lst xs) ∧ l ≠ b ∧ 0 < xs.length ∧ xs.length ≤ 1000 ∧ ∀ H' (i : Nat) v, Ex b H H' → xs[i]? = some v → Q v H'
theorem ok_of (m : Mg mg) (c__law_draw : Cal P w K mg base 1 "_law_draw" spDraw []) (F : Fn K "_law_of" 31 f fd) (g : mg "_law_of" = some (.ref f)) : Cal P w K mg base 2 "_law_of" spOf [] := by
  have sc := sc31
  refine calD F g sc (fun _ _ _ _ _ _ us hl => match us, hl with | [_, _], _ => rfl) ?_ fun cdv A outer s H vs Q E hr h => ?_
  · rintro vs H Q E ⟨x, _, _, rfl, _⟩
    rfl
  · obtain ⟨b, l, xs, rfl, bag, hl, nb, p1, p2, q⟩ := h
    refine ⟨_, (pss_one (ps_ret (pe_ix ix_list (pv 1) (pe_c c__law_draw hr (by decide) (by rfl) (pa_cons (pv 0) (pa_cons (pe_callB call_len (by rfl) m.len_ boot_len (pa_cons (pv 1) pa_nil)) pa_nil))) (fun _ _ => rfl)))), ?_⟩
    simp only [L2.start, cxOf, tRet, tAndV, tOrV, tNotV, tCB, tCons, tNil, tVar, tC, tOp, tUn, tTest, tB, tIf, tIfS, tSeq, tAsg, tAnd, tOr, tNot, gName, tNext, tCall, tChain, rI, rI0, rEq, rNe, rGcd, rU, tM1, tM0, tSl, tFmtB, tJs, tPart, tNoPart, gTup, gCons, gNil, gSub, tTup, tLst, tPar, L2.rI, List.map_cons, List.map_nil, List.length_cons, List.length_nil, List.cons_append, List.nil_append, List.append_nil, List.getElem?_cons_zero, List.getElem?_cons_succ, List.set_cons_zero, List.set_cons_succ, Option.some.injEq, exists_eq_left, exists_eq_left', exists_eq_right, exists_and_left, exists_and_right, List.cons.injEq, and_true, true_and, V.int.injEq, V.str.injEq, V.bl.injEq, V.ref.injEq, List.replicate, Nat.reduceAdd, Nat.reduceSub, reduceCtorEq, false_and, and_false, if_true, if_false, Bool.false_eq_true, Bool.not_true, Bool.not_false, decide_eq_true_eq, exists_false, or_false, false_or, spDraw]
    refine ⟨_, len_L (SqL.of hl), b, _, ⟨rfl, rfl⟩, bag, by omega, by omega, fun H' d ex h0 hlt => ?_⟩
    obtain ⟨n, rfl⟩ := Int.eq_ofNat_of_zero_le h0
    have hn : n < xs.length := by omega
    have hx : xs[n]? = some xs[n] := List.getElem?_eq_getElem hn
    exact ixL (SqL.of (ex.keep _ _ nb hl)) n hx (q H' n _ ex hx)
end
end W17

set_option Elab.async false
set_option linter.all false
set_option maxRecDepth 100000
set_option maxHeartbeats 4000000
set_option exponentiation.threshold 5000
/-! H17: the values that are drawn -/
namespace W17
open PySem PySem.Spec PyProof.Rows L2 Lay P17
open SX (S S_len S_cat S_tl)
open C8 (Cal pe_c pe_gc fnScope_by E0 sl_txt rSlX)
theorem frac_good (a : Int) (b : Nat) (hb : 0 < b) (ha : a.natAbs < Lim) (hb2 : b < Lim) : Good (a / (Nat.gcd a.natAbs b : Nat), (b : Int) / (Nat.gcd a.natAbs b : Nat)) := by
  have gp : 0 < Nat.gcd a.natAbs b := Nat.gcd_pos_of_pos_right _ hb
  obtain ⟨m, hm⟩ := Nat.gcd_dvd_right a.natAbs b
  obtain ⟨k, hk⟩ : ((Nat.gcd a.natAbs b : Nat) : Int) ∣ a := Int.ofNat_dvd_left.mpr (Nat.gcd_dvd_left _ _)
  generalize hg : Nat.gcd a.natAbs b = g at *
  have e1 : a / (g : Int) = k := by
    rw [hk]
    exact Int.mul_ediv_cancel_left _ (by omega)
  have e2 : (b : Int) / (g : Int) = m := by
    rw [hm]
    push_cast
    exact Int.mul_ediv_cancel_left _ (by omega)
  rw [e1, e2]
  have hka : a.natAbs = g * k.natAbs := by
    rw [hk, Int.natAbs_mul]
    simp
  have one : Nat.gcd k.natAbs m = 1 := by
    have : g * Nat.gcd k.natAbs m = g := by
      rw [← Nat.gcd_mul_left, ← hka, ← hm]
      exact hg
    exact Nat.eq_of_mul_eq_mul_left gp (by rw [this, Nat.mul_one])
  have mp : 0 < m := Nat.pos_of_ne_zero fun z => by
    rw [z] at hm
    omega
  refine ⟨by show (1 : Int) ≤ (m : Int); omega, one, ?_, ?_⟩
  · refine Nat.lt_of_le_of_lt ?_ ha
    rw [hka]
    exact Nat.le_mul_of_pos_left _ gp
  · refine Nat.lt_of_le_of_lt ?_ hb2
    show m ≤ b
    rw [hm]
    exact Nat.le_mul_of_pos_left _ gp
theorem big_lim {n : Nat} (h : n < 10 ^ 31) : n < Lim := Nat.lt_of_lt_of_le h (Nat.pow_le_pow_right (n := 10) (by decide) (by decide))
section
variable {P : Program} {w : World} {K : PySem.W.Frag} {mg : Str → Option Value} {base : Heap} {f fI CB : Addr} {fd fdI : FuncData}
theorem bag_ne {b l : Addr} {H : Hp} (g : Bag H b) (h : H l = none) : l ≠ b := fun z => by
  obtain ⟨xs, e, _⟩ := g.at
  rw [← z, h] at e
  cases e
theorem draw_i {b : Addr} {size : Int} {H : Hp} {Q : VK} {E : XK} (bag : Bag H b) (p1 : 0 < size) (p2 : size < 1073741824) (k : ∀ H' (n : Nat), Ex b H H' → (n : Int) < size → Q (.int (n : Int)) H') : spDraw [.ref b, .int size] H Q E :=
  ⟨b, size, rfl, bag, p1, p2, fun H' d ex h0 hlt => by
    obtain ⟨n, rfl⟩ := Int.eq_ofNat_of_zero_le h0
    exact k H' n ex hlt⟩
/-- _law_of of a list just laid -/
theorem of_i {b l : Addr} {xs : List V} {H : Hp} {Q : VK} {E : XK} (bag : Bag H b) (hl : H l = none) (p1 : 0 < xs.length) (p2 : xs.length ≤ 1000) (k : ∀ H' v, Ex b H H' → v ∈ xs → Q v H') : spOf [.ref b, .ref l] (upd H l (.lst xs)) Q E :=
  ⟨b, l, xs, rfl, bag.same (same_new hl), upd_same, bag_ne bag hl, p1, p2, fun H' i v ex hv => k H' v ((Ex.of bag (same_new hl)).trans ex) (List.mem_of_getElem? hv)⟩
theorem sc41 : FnScope ["bag", "digits", "made"] ["bag"] (defScope (top 41)) := fnScope_by (by decide +kernel)
def spWhole : Sp := fun vs H Q _ => ∃ (b : Addr), vs = [.ref b] ∧ Bag H b ∧ ∀ H' (i : Int), Ex b H H' → i.natAbs < 10 ^ 31 → Q (.int i) H'
theorem ok_whole (m : Mg mg) (c__law_draw : Cal P w K mg base 1 "_law_draw" spDraw []) (c__law_of : Cal P w K mg base 2 "_law_of" spOf []) (F : Fn K "_law_whole" 41 f fd) (g : mg "_law_whole" = some (.ref f)) : Cal P w K mg base 3 "_law_whole" spWhole [] := by
  have sc := sc41
  refine calD F g sc (fun _ _ _ _ _ _ us hl => match us, hl with | [_], _ => rfl) ?_ fun cdv A outer s H vs Q E hr h => ?_
  · rintro vs H Q E ⟨x, rfl, _⟩
    rfl
  · obtain ⟨b, rfl, bag, q⟩ := h
    refine ⟨_, (pss_cons (ps_set (i := 1) sc.nd rfl (.inl rfl) (pe_c c__law_of hr (by decide) (by rfl) (pa_cons (pv 0) (pa_cons (pe_lst (pa_cons pe_int (pa_cons pe_int (pa_cons (pe_op op_pow pe_int pe_int) (pa_cons (pe_op op_pow pe_int pe_int) pa_nil))))) pa_nil))))
      (pss_cons (ps_set (i := 2) sc.nd rfl (.inl rfl) (pe_op op_mod (pe_callTy call_int1 (by rfl) m.int_ boot_int (pa_cons (pe_op op_add (pe_op op_mul (pe_c c__law_draw hr (by decide) (by rfl) (pa_cons (pv 0) (pa_cons (pe_op op_pow pe_int pe_int) pa_nil))) (pe_op op_pow pe_int pe_int)) (pe_c c__law_draw hr (by decide) (by rfl) (pa_cons (pv 0) (pa_cons (pe_op op_pow pe_int pe_int) pa_nil)))) pa_nil)) (pv 1)))
      (pss_one (ps_ret (pe_ifExp (pt_cmpR op_eq (pe_c c__law_draw hr (by decide) (by rfl) (pa_cons (pv 0) (pa_cons pe_int pa_nil))) pe_int (nomark _)) (pe_un un_neg (pv 2)) (pv 2)))))), ?_⟩
    simp only [L2.start, cxOf, tRet, tAndV, tOrV, tNotV, tCB, tCons, tNil, tVar, tC, tOp, tUn, tTest, tB, tIf, tIfS, tSeq, tAsg, tAnd, tOr, tNot, gName, tNext, tCall, tChain, rI, rI0, rEq, rNe, rGcd, rU, tM1, tM0, tSl, tFmtB, tJs, tPart, tNoPart, gTup, gCons, gNil, gSub, tTup, tLst, tPar, L2.rI, List.map_cons, List.map_nil, List.length_cons, List.length_nil, List.cons_append, List.nil_append, List.append_nil, List.getElem?_cons_zero, List.getElem?_cons_succ, List.set_cons_zero, List.set_cons_succ, Option.some.injEq, exists_eq_left, exists_eq_left', exists_eq_right, exists_and_left, exists_and_right, List.cons.injEq, and_true, true_and, V.int.injEq, V.str.injEq, V.bl.injEq, V.ref.injEq, List.replicate, Nat.reduceAdd, Nat.reduceSub, reduceCtorEq, false_and, and_false, if_true, if_false, Bool.false_eq_true, Bool.not_true, Bool.not_false, decide_eq_true_eq, exists_false, or_false, false_or]
    refine ⟨⟨by decide, by decide, by decide⟩, ⟨by decide, by decide, by decide⟩, small (by decide), fun l hl => of_i bag hl (by simp) (by simp) fun H1 v x1 hv => ?_⟩
    obtain ⟨z, rfl, z0, z1⟩ : ∃ z : Int, v = .int z ∧ 0 < z ∧ z ≤ 10 ^ 31 := by
      simp only [List.mem_cons, List.not_mem_nil, or_false] at hv
      rcases hv with rfl | rfl | rfl | rfl
      · exact ⟨_, rfl, by decide, by decide⟩
      · exact ⟨_, rfl, by decide, by decide⟩
      · exact ⟨_, rfl, by decide, by decide⟩
      · exact ⟨_, rfl, by decide, by decide⟩
    refine ⟨⟨by decide, by decide, by decide⟩, draw_i x1.bag (by decide) (by decide) fun H2 n1 x2 l2 => ?_⟩
    have l2 : (n1 : Int) < 1000000 := l2
    refine ⟨⟨by decide, by decide, by decide⟩, _, rfl, .inl ⟨by omega, by omega⟩, ⟨by decide, by decide, by decide⟩, draw_i x2.bag (by decide) (by decide) fun H3 n2 x3 l3 => ⟨_, rfl, _, rfl, z0, draw_i x3.bag (by decide) (by decide) fun H4 n3 x4 l4 => ⟨rfl, ?_⟩⟩⟩
    generalize (n1 : Int) * 1000003 ^ Int.toNat 4 + (n2 : Int) = y
    have x5 := ((x1.trans x2).trans x3).trans x4
    have r1 : 0 ≤ y % z := Int.emod_nonneg _ (by omega)
    have r2 : y % z < z := Int.emod_lt_of_pos _ z0
    have e31 : ((10 : Int) ^ 31) = ((10 ^ 31 : Nat) : Int) := by decide
    have r3 : (y % z).natAbs < 10 ^ 31 := by
      have : ((y % z).natAbs : Int) < ((10 ^ 31 : Nat) : Int) := by omega
      exact Int.ofNat_lt.mp this
    by_cases h3 : V.int (n3 : Int) = V.int 0
    · rw [if_pos h3]
      exact q _ _ x5 (by rw [Int.natAbs_neg]; exact r3)
    · rw [if_neg h3]
      exact q _ _ x5 r3
theorem sc42 : FnScope ["bag", "made", "k"] ["bag"] (defScope (top 42)) := fnScope_by (by decide +kernel)
def spStr : Sp := fun vs H Q _ => ∃ (b : Addr), vs = [.ref b] ∧ Bag H b ∧ ∀ H' (a : List Nat), Ex b H H' → a.length ≤ 10000 → Q (.str (S a)) H'
theorem ok_string (m : Mg mg) (c__law_draw : Cal P w K mg base 1 "_law_draw" spDraw []) (F : Fn K "_law_string" 42 f fd) (g : mg "_law_string" = some (.ref f)) : Cal P w K mg base 3 "_law_string" spStr [] := by
  have sc := sc42
  refine calD F g sc (fun _ _ _ _ _ _ us hl => match us, hl with | [_], _ => rfl) ?_ fun cdv A outer s H vs Q E hr h => ?_
  · rintro vs H Q E ⟨x, rfl, _⟩
    rfl
  · obtain ⟨b, rfl, bag, q⟩ := h
    refine ⟨_, (pss_cons (ps_set (i := 1) sc.nd rfl (.inl rfl) pe_str)
      (pss_cons (ps_for pown rfl (pi_range1 rfl m.range_ (pa_cons (pe_c c__law_draw hr (by decide) (by rfl) (pa_cons (pv 0) (pa_cons pe_int pa_nil))) pa_nil)) (pg_name (i := 2) sc.nd rfl (.inl rfl))
        (pss_one (ps_set (i := 1) sc.nd rfl (.inl rfl) (pe_op op_add_str (pv 1) (pe_ix ix_str pe_str (pe_c c__law_draw hr (by decide) (by rfl) (pa_cons (pv 0) (pa_cons pe_int pa_nil))) (fun _ _ => rfl))))))
      (pss_one (ps_ret (pv 1))))), ?_⟩
    simp only [L2.start, cxOf, tRet, tAndV, tOrV, tNotV, tCB, tCons, tNil, tVar, tC, tOp, tUn, tTest, tB, tSeq, tAsg, tNot, gName, tNext, tCall, tChain, rI, rI0, rEq, rNe, rGcd, rU, tM1, tM0, tSl, tFmtB, tJs, tPart, tNoPart, gTup, gCons, gNil, gSub, tTup, tLst, tPar, L2.rI, List.map_cons, List.map_nil, List.length_cons, List.length_nil, List.cons_append, List.nil_append, List.append_nil, List.getElem?_cons_zero, List.getElem?_cons_succ, List.set_cons_zero, List.set_cons_succ, Option.some.injEq, exists_eq_left, exists_eq_left', exists_eq_right, exists_and_left, exists_and_right, List.cons.injEq, and_true, true_and, V.int.injEq, V.str.injEq, V.bl.injEq, V.ref.injEq, List.replicate, Nat.reduceAdd, Nat.reduceSub, reduceCtorEq, false_and, and_false, if_true, if_false, Bool.false_eq_true, Bool.not_true, Bool.not_false, decide_eq_true_eq, exists_false, or_false, false_or]
    have em : (Str.ofString "") = S [] := by decide +kernel
    rw [em]
    have lit : (Str.ofString "0123456789//--12+. a\n0").cps.toList.length = 22 := by decide +kernel
    have lit2 : (Str.ofString "0123456789//--12+. a\n0").length ≤ sizeLine := small (by decide +kernel)
    refine for_range_any (Pn := fun n H1 => Ex b H H1 ∧ n < 7) (fun R k => ?_) fun n H1 ⟨x1, hn⟩ => ⟨Nat.lt_trans hn (by decide), fun i σ' H' => Ex b H H' ∧ ∃ (a : List Nat) (y : Option V), σ' = [some (V.ref b), some (V.str (S a)), y] ∧ a.length ≤ i, ⟨x1, [], none, rfl, Nat.le_refl _⟩, ?_, ?_⟩
    · simp only [L2.start, cxOf, tRet, tAndV, tOrV, tNotV, tCB, tCons, tNil, tVar, tC, tOp, tUn, tTest, tB, tIf, tIfS, tSeq, tAsg, tAnd, tOr, tNot, gName, tNext, tCall, tChain, rI, rI0, rEq, rNe, rGcd, rU, tM1, tM0, tSl, tFmtB, tJs, tPart, tNoPart, gTup, gCons, gNil, gSub, tTup, tLst, tPar, L2.rI, List.map_cons, List.map_nil, List.length_cons, List.length_nil, List.cons_append, List.nil_append, List.append_nil, List.getElem?_cons_zero, List.getElem?_cons_succ, List.set_cons_zero, List.set_cons_succ, Option.some.injEq, exists_eq_left, exists_eq_left', exists_eq_right, exists_and_left, exists_and_right, List.cons.injEq, and_true, true_and, V.int.injEq, V.str.injEq, V.bl.injEq, V.ref.injEq, List.replicate, Nat.reduceAdd, Nat.reduceSub, reduceCtorEq, false_and, and_false, if_true, if_false, Bool.false_eq_true, Bool.not_true, Bool.not_false, decide_eq_true_eq, exists_false, or_false, false_or]
      exact draw_i bag (by decide) (by decide) fun H2 n x2 l2 => k n H2 ⟨x2, by omega⟩
    · rintro i σ' H' hi ⟨x2, a, y, rfl, ha⟩
      simp only [L2.start, cxOf, tRet, tAndV, tOrV, tNotV, tCB, tCons, tNil, tVar, tC, tOp, tUn, tTest, tB, tIf, tIfS, tSeq, tAsg, tAnd, tOr, tNot, gName, tNext, tCall, tChain, rI, rI0, rEq, rNe, rGcd, rU, tM1, tM0, tSl, tFmtB, tJs, tPart, tNoPart, gTup, gCons, gNil, gSub, tTup, tLst, tPar, L2.rI, List.map_cons, List.map_nil, List.length_cons, List.length_nil, List.cons_append, List.nil_append, List.append_nil, List.getElem?_cons_zero, List.getElem?_cons_succ, List.set_cons_zero, List.set_cons_succ, Option.some.injEq, exists_eq_left, exists_eq_left', exists_eq_right, exists_and_left, exists_and_right, List.cons.injEq, and_true, true_and, V.int.injEq, V.str.injEq, V.bl.injEq, V.ref.injEq, List.replicate, Nat.reduceAdd, Nat.reduceSub, reduceCtorEq, false_and, and_false, if_true, if_false, Bool.false_eq_true, Bool.not_true, Bool.not_false, decide_eq_true_eq, exists_false, or_false, false_or]
      refine draw_i x2.bag (by decide) (by decide) fun H3 j x3 l3 => ?_
      have hj : j < (Str.ofString "0123456789//--12+. a\n0").cps.toList.length := by rw [lit]; omega
      refine ⟨_, (j : Int), _, rfl, rfl, lit2, at_nat (List.getElem?_eq_getElem hj), ?_⟩
      refine ⟨_, rfl, ?_, x2.trans x3, a ++ [_], ⟨by rw [S_cat], _, rfl⟩, by simp; omega⟩
      rw [S_len]
      exact small (by show a.length + 1 ≤ _; omega)
    · rintro σ' H' ⟨x2, a, y, rfl, ha⟩
      simp only [L2.start, cxOf, tRet, tAndV, tOrV, tNotV, tCB, tCons, tNil, tVar, tC, tOp, tUn, tTest, tB, tIf, tIfS, tSeq, tAsg, tAnd, tOr, tNot, gName, tNext, tCall, tChain, rI, rI0, rEq, rNe, rGcd, rU, tM1, tM0, tSl, tFmtB, tJs, tPart, tNoPart, gTup, gCons, gNil, gSub, tTup, tLst, tPar, L2.rI, List.map_cons, List.map_nil, List.length_cons, List.length_nil, List.cons_append, List.nil_append, List.append_nil, List.getElem?_cons_zero, List.getElem?_cons_succ, List.set_cons_zero, List.set_cons_succ, Option.some.injEq, exists_eq_left, exists_eq_left', exists_eq_right, exists_and_left, exists_and_right, List.cons.injEq, and_true, true_and, V.int.injEq, V.str.injEq, V.bl.injEq, V.ref.injEq, List.replicate, Nat.reduceAdd, Nat.reduceSub, reduceCtorEq, false_and, and_false, if_true, if_false, Bool.false_eq_true, Bool.not_true, Bool.not_false, decide_eq_true_eq, exists_false, or_false, false_or]
      exact q H' a x2 (by omega)
theorem sc43 : FnScope ["bag", "x", "wrote", "at"] ["bag"] (defScope (top 43)) := fnScope_by (by decide +kernel)
theorem ok_bent (m : Mg mg) (c__law_draw : Cal P w K mg base 1 "_law_draw" spDraw []) (c__law_of : Cal P w K mg base 2 "_law_of" spOf []) (c__law_whole : Cal P w K mg base 3 "_law_whole" spWhole []) (c__law_frac : Cal P w K mg base 2 "_law_frac" spFrac []) (c__law_wrote : Cal P w K mg base 1 "_law_wrote" spText [])
    (F : Fn K "_law_bent_string" 43 f fd) (g : mg "_law_bent_string" = some (.ref f)) : Cal P w K mg base 4 "_law_bent_string" spStr [] := by
  have sc := sc43
  refine calD F g sc (fun _ _ _ _ _ _ us hl => match us, hl with | [_], _ => rfl) ?_ fun cdv A outer s H vs Q E hr h => ?_
  · rintro vs H Q E ⟨x, rfl, _⟩
    rfl
  · obtain ⟨b, rfl, bag, q⟩ := h
    refine ⟨_, (pss_cons (ps_set (i := 1) sc.nd rfl (.inl rfl) (pe_c c__law_frac hr (by decide) (by rfl) (pa_cons (pe_c c__law_whole hr (by decide) (by rfl) (pa_cons (pv 0) pa_nil)) (pa_cons (pe_op op_add pe_int (pe_c c__law_draw hr (by decide) (by rfl) (pa_cons (pv 0) (pa_cons pe_int pa_nil)))) pa_nil))))
      (pss_cons (ps_set (i := 2) sc.nd rfl (.inl rfl) (pe_c c__law_wrote hr (by decide) (by rfl) (pa_cons (pv 1) pa_nil)))
      (pss_cons (ps_set (i := 3) sc.nd rfl (.inl rfl) (pe_c c__law_draw hr (by decide) (by rfl) (pa_cons (pv 0) (pa_cons (pe_op op_add (pe_callB call_len (by rfl) m.len_ boot_len (pa_cons (pv 2) pa_nil)) pe_int) pa_nil))))
      (pss_one (ps_ret (pe_op op_add_str (pe_op op_add_str (pe_slice sl_txt (pv 2) po_none (po_some (pv 3))) (pe_c c__law_of hr (by decide) (by rfl) (pa_cons (pv 0) (pa_cons (pe_lst (pa_cons pe_str (pa_cons pe_str (pa_cons pe_str (pa_cons pe_str (pa_cons pe_str (pa_cons pe_str (pa_cons pe_str (pa_cons pe_str (pa_cons pe_str pa_nil)))))))))) pa_nil)))) (pe_slice sl_txt (pv 2) (po_some (pv 3)) po_none))))))), ?_⟩
    simp only [L2.start, cxOf, tRet, tAndV, tOrV, tNotV, tCB, tCons, tNil, tVar, tC, tOp, tUn, tTest, tB, tIf, tIfS, tSeq, tAsg, tAnd, tOr, tNot, gName, tNext, tCall, tChain, rI, rI0, rEq, rNe, rGcd, rU, tM1, tM0, tSl, tFmtB, tJs, tPart, tNoPart, gTup, gCons, gNil, gSub, tTup, tLst, tPar, L2.rI, List.map_cons, List.map_nil, List.length_cons, List.length_nil, List.cons_append, List.nil_append, List.append_nil, List.getElem?_cons_zero, List.getElem?_cons_succ, List.set_cons_zero, List.set_cons_succ, Option.some.injEq, exists_eq_left, exists_eq_left', exists_eq_right, exists_and_left, exists_and_right, List.cons.injEq, and_true, true_and, V.int.injEq, V.str.injEq, V.bl.injEq, V.ref.injEq, List.replicate, Nat.reduceAdd, Nat.reduceSub, reduceCtorEq, false_and, and_false, if_true, if_false, Bool.false_eq_true, Bool.not_true, Bool.not_false, decide_eq_true_eq, exists_false, or_false, false_or, rSlX]
    refine ⟨b, rfl, bag, fun H1 i x1 hi => draw_i x1.bag (by decide) (by decide) fun H2 n x2 l2 => ?_⟩
    have l2 : (n : Int) < 40 := l2
    refine ⟨_, rfl, i, 1 + n, by simp, by omega, by omega, fun t ht => ?_⟩
    have good := frac_good i (1 + n) (by omega) (big_lim hi) (big_lim (Nat.lt_of_lt_of_le (show 1 + n < 41 by omega) (by decide)))
    generalize hp : (i / ((Nat.gcd i.natAbs (1 + n) : Nat) : Int), ((1 + n : Nat) : Int) / ((Nat.gcd i.natAbs (1 + n) : Nat) : Int)) = p at good
    have e1 : i / ((Nat.gcd i.natAbs (1 + n) : Nat) : Int) = p.1 := by rw [← hp]
    have e2 : ((1 + n : Nat) : Int) / ((Nat.gcd i.natAbs (1 + n) : Nat) : Int) = p.2 := by rw [← hp]
    rw [e1, e2]
    have x3 := (x1.trans x2).more (same_new (o := .tup [V.int p.1, V.int p.2]) ht)
    have wl := wrote_len good
    refine ⟨t, p, rfl, upd_same, good, ⟨_, len_S (small (by omega)), draw_i x3.bag (by omega) (by omega) fun H3 n3 x4 l4 => ?_⟩⟩
    refine ⟨_, rfl, _, rfl, small (by rw [S_len]; omega), small (by decide), fun l hl => of_i x4.bag hl (by simp) (by simp) fun H4 v x5 hv => ?_⟩
    obtain ⟨c, rfl, lc⟩ : ∃ c : List Nat, v = .str (S c) ∧ c.length ≤ 2 := by
      simp only [List.mem_cons, List.not_mem_nil, or_false] at hv
      rcases hv with rfl | rfl | rfl | rfl | rfl | rfl | rfl | rfl | rfl <;> exact ⟨_, congrArg V.str (S_tl _).symm, by decide +kernel⟩
    have lt1 := List.length_take_le n3 (wroteL p)
    have lt2 : ((wroteL p).take n3).length ≤ (wroteL p).length := by rw [List.length_take]; omega
    have ld : ((wroteL p).drop n3).length = (wroteL p).length - n3 := List.length_drop
    have lt3 : ((wroteL p).take n3).length = min n3 (wroteL p).length := List.length_take
    have e3 : Txt.slice (S (wroteL p)) none (some (n3 : Int)) = S ((wroteL p).take n3) := by
      have := SX.slice_to (a := wroteL p) (i := (n3 : Int)) (by omega)
      rw [Int.toNat_natCast] at this
      exact this
    have e4 : Txt.slice (S (wroteL p)) (some (n3 : Int)) none = S ((wroteL p).drop n3) := by
      have := SX.slice_from (a := wroteL p) (i := (n3 : Int)) (by omega)
      rw [Int.toNat_natCast] at this
      exact this
    refine ⟨_, rfl, ?_, _, rfl, _, rfl, small (by rw [S_len]; omega), ?_, ?_⟩
    · rw [e3, S_len, S_len]
      exact small (by omega)
    · rw [e3, e4, S_cat, S_len, S_len, List.length_append]
      exact small (by omega)
    · rw [e3, e4, S_cat, S_cat]
      exact q _ _ (x3.trans (x4.trans x5)) (by rw [List.length_append, List.length_append]; omega)
theorem sc44 : FnScope ["bag", "many", "pick", "digits"] ["bag"] (defScope (top 44)) := fnScope_by (by decide +kernel)
theorem ok_long (m : Mg mg) (c__law_draw : Cal P w K mg base 1 "_law_draw" spDraw []) (c__law_of : Cal P w K mg base 2 "_law_of" spOf []) (F : Fn K "_law_long" 44 f fd) (g : mg "_law_long" = some (.ref f)) : Cal P w K mg base 3 "_law_long" spStr [] := by
  have sc := sc44
  refine calD F g sc (fun _ _ _ _ _ _ us hl => match us, hl with | [_], _ => rfl) ?_ fun cdv A outer s H vs Q E hr h => ?_
  · rintro vs H Q E ⟨x, rfl, _⟩
    rfl
  · obtain ⟨b, rfl, bag, q⟩ := h
    refine ⟨_, (pss_cons (ps_par (i := 1) (j := 2) rfl sc.nd rfl rfl (by decide) rfl rfl (pa_cons (pe_op op_add pe_int (pe_c c__law_draw hr (by decide) (by rfl) (pa_cons (pv 0) (pa_cons pe_int pa_nil)))) (pa_cons (pe_c c__law_draw hr (by decide) (by rfl) (pa_cons (pv 0) (pa_cons pe_int pa_nil))) pa_nil)) (by rfl))
      (pss_cons (ps_set (i := 3) sc.nd rfl (.inl rfl) (pe_op op_repS (pe_c c__law_of hr (by decide) (by rfl) (pa_cons (pv 0) (pa_cons (pe_lst (pa_cons pe_str (pa_cons pe_str pa_nil))) pa_nil))) (pv 1)))
      (pss_one (ps_ret (pe_ix ix_list (pe_lst (pa_cons (pv 3) (pa_cons (pe_op op_add_str pe_str (pv 3)) (pa_cons (pe_op op_add_str pe_str (pv 3)) (pa_cons (pe_op op_add_str pe_str (pv 3)) pa_nil))))) (pv 2) (fun _ _ => rfl)))))), ?_⟩
    simp only [L2.start, cxOf, tRet, tAndV, tOrV, tNotV, tCB, tCons, tNil, tVar, tC, tOp, tUn, tTest, tB, tIf, tIfS, tSeq, tAsg, tAnd, tOr, tNot, gName, tNext, tCall, tChain, rI, rI0, rEq, rNe, rGcd, rU, tM1, tM0, tSl, tFmtB, tJs, tPart, tNoPart, gTup, gCons, gNil, gSub, tTup, tLst, tPar, L2.rI, List.map_cons, List.map_nil, List.length_cons, List.length_nil, List.cons_append, List.nil_append, List.append_nil, List.getElem?_cons_zero, List.getElem?_cons_succ, List.set_cons_zero, List.set_cons_succ, Option.some.injEq, exists_eq_left, exists_eq_left', exists_eq_right, exists_and_left, exists_and_right, List.cons.injEq, and_true, true_and, V.int.injEq, V.str.injEq, V.bl.injEq, V.ref.injEq, List.replicate, Nat.reduceAdd, Nat.reduceSub, reduceCtorEq, false_and, and_false, if_true, if_false, Bool.false_eq_true, Bool.not_true, Bool.not_false, decide_eq_true_eq, exists_false, or_false, false_or]
    refine draw_i bag (by decide) (by decide) fun H1 n1 x1 l1 => ⟨_, rfl, draw_i x1.bag (by decide) (by decide) fun H2 n2 x2 l2 => ?_⟩
    refine ⟨_, _, ⟨rfl, rfl⟩, small (by decide), fun l hl => of_i x2.bag hl (by simp) (by simp) fun H3 v x3 hv => ?_⟩
    obtain ⟨c, rfl⟩ : ∃ c : Nat, v = .str (S [c]) := by
      simp only [List.mem_cons, List.not_mem_nil, or_false] at hv
      rcases hv with rfl | rfl
      · exact ⟨49, congrArg V.str (by decide +kernel)⟩
      · exact ⟨55, congrArg V.str (by decide +kernel)⟩
    have l1 : (n1 : Int) < 2 := l1
    have l2 : (n2 : Int) < 4 := l2
    refine ⟨c, 4000 + n1, rfl, by simp, by omega, by omega, ?_⟩
    generalize hd : List.replicate (4000 + n1) c = d
    have ld : d.length = 4000 + n1 := by rw [← hd, List.length_replicate]
    have p1 : (Str.ofString "-") = S [45] := by decide +kernel
    have p2 : (Str.ofString "1/") = S [49, 47] := by decide +kernel
    have p3 : (Str.ofString "-1/") = S [45, 49, 47] := by decide +kernel
    have lens : ∀ p : List Nat, p.length ≤ 3 → (S p).length + (S d).length ≤ sizeLine := fun p h => by
      rw [S_len, S_len]
      exact small (by omega)
    refine ⟨_, rfl, by rw [p1]; exact lens _ (by simp), _, rfl, by rw [p2]; exact lens _ (by simp), _, rfl, by rw [p3]; exact lens _ (by simp), small (by decide), fun a ha => ?_⟩
    rw [p1, p2, p3, S_cat, S_cat, S_cat]
    have x4 := (x1.trans x2).trans x3
    have x5 := x4.more (same_new (o := .lst [V.str (S d), V.str (S ([45] ++ d)), V.str (S ([49, 47] ++ d)), V.str (S ([45, 49, 47] ++ d))]) ha)
    have hn : n2 < 4 := by omega
    have pick : ∃ e : List Nat, [V.str (S d), V.str (S ([45] ++ d)), V.str (S ([49, 47] ++ d)), V.str (S ([45, 49, 47] ++ d))][n2]? = some (.str (S e)) ∧ e.length ≤ 10000 := by
      match n2, hn with
      | 0, _ => exact ⟨_, rfl, by omega⟩
      | 1, _ => exact ⟨_, rfl, by simp; omega⟩
      | 2, _ => exact ⟨_, rfl, by simp; omega⟩
      | 3, _ => exact ⟨_, rfl, by simp; omega⟩
    obtain ⟨e, he, le⟩ := pick
    exact ixL (SqL.of upd_same) n2 he (q _ e x5 le)
end
end W17

set_option Elab.async false
set_option linter.all false
set_option maxRecDepth 100000
set_option maxHeartbeats 4000000
set_option exponentiation.threshold 5000
/-! I17: the drawn value -/
namespace W17
open PySem PySem.Spec PyProof.Rows L2 Lay P17
open SX (S S_len S_cat S_tl)
open C8 (Cal pe_c pe_gc fnScope_by E0 sl_txt rSlX)
/-- all but what stands at b, and the tables, stays -/
def Keep (b : Addr) (H H' : Hp) : Prop := ∀ a o, a ≠ b → H a = some o → (∀ ps, o ≠ .tbl ps) → H' a = some o
theorem Keep.trans {b : Addr} {H H1 H2 : Hp} (x : Keep b H H1) (y : Keep b H1 H2) : Keep b H H2 := fun a o n e t => y a o n (x a o n e t) t
theorem nt_tup {xs : List V} : ∀ ps, HO.tup xs ≠ .tbl ps := fun _ z => by cases z
theorem nt_lst {xs : List V} : ∀ ps, HO.lst xs ≠ .tbl ps := fun _ z => by cases z
theorem nt_dK {xs : List (Key × V)} : ∀ ps, HO.dK xs ≠ .tbl ps := fun _ z => by cases z
theorem nt_xd {xs : List (Str × V)} : ∀ ps, HO.xd xs ≠ .tbl ps := fun _ z => by cases z
theorem exkp {b : Addr} {H H' : Hp} (x : Ex b H H') : Keep b H H' := fun a o n e _ => x.keep a o n e
theorem kp_same {b : Addr} {H H' : Hp} (x : Same H H') : Keep b H H' := fun a o _ e _ => x a o e
theorem kp_ext {b : Addr} {H H' : Hp} (x : LamX.ExtN H H') : Keep b H H' := fun a o _ e t => x a o e t
/-- a value that is fit for the law, whatever becomes of the bag -/
def Fine (K : PySem.W.Frag) (b : Addr) (H : Hp) (v : V) : Prop := ∃ n, ∀ H', Keep b H H' → Sh K H' v n ∧ Lk H' 4 v v
section
variable {K : PySem.W.Frag} {b t : Addr} {H : Hp}
theorem Fine.keep {H1 : Hp} {v : V} (f : Fine K b H v) (k : Keep b H H1) : Fine K b H1 v := by
  obtain ⟨n, h⟩ := f
  exact ⟨n, fun H' k' => h H' (k.trans k')⟩
theorem fine_int {i : Int} (h : i.natAbs < 10 ^ 31) : Fine K b H (.int i) := ⟨_, fun _ _ => ⟨.int i (big_lim h), .inl ⟨rfl, trivial⟩⟩⟩
theorem fine_str {a : List Nat} (h : a.length ≤ 10000) : Fine K b H (.str (S a)) := ⟨_, fun _ _ => ⟨.str a h, .inl ⟨rfl, trivial⟩⟩⟩
theorem fine_lit {x : Str} (h : x.length ≤ 10000) : Fine K b H (.str x) := by
  have := fine_str (K := K) (b := b) (H := H) (a := x.cps.toList) (by simpa [Str.length] using h)
  rw [S_tl] at this
  exact this
theorem fine_bl {y : Bool} : Fine K b H (.bl y) := ⟨none, fun _ _ => ⟨.other _ "bool" kd_bl (by decide), .inl ⟨rfl, trivial⟩⟩⟩
theorem fine_non : Fine K b H .non := ⟨none, fun _ _ => ⟨.other _ "NoneType" kd_non (by decide), .inl ⟨rfl, trivial⟩⟩⟩
theorem lk_flat {H : Hp} {n : Nat} {v : V} (h : flat v) : Lk H (n + 1) v v := .inl ⟨rfl, h⟩
theorem lk_tup {H : Hp} {n : Nat} {t : Addr} {xs : List V} (ht : H t = some (.tup xs)) (hl : xs.length ≤ 1000) (h : ∀ v ∈ xs, Lk H n v v) : Lk H (n + 1) (.ref t) (.ref t) :=
  .inr (.inl ⟨t, t, xs, xs, rfl, rfl, .inl ⟨ht, ht⟩, rfl, hl, fun i u v h1 h2 => by
    rw [h1] at h2
    cases h2
    exact h u (List.mem_of_getElem? h1)⟩)
theorem lk_lst {H : Hp} {n : Nat} {t : Addr} {xs : List V} (ht : H t = some (.lst xs)) (hl : xs.length ≤ 1000) (h : ∀ v ∈ xs, Lk H n v v) : Lk H (n + 1) (.ref t) (.ref t) :=
  .inr (.inl ⟨t, t, xs, xs, rfl, rfl, .inr ⟨ht, ht⟩, rfl, hl, fun i u v h1 h2 => by
    rw [h1] at h2
    cases h2
    exact h u (List.mem_of_getElem? h1)⟩)
theorem flats {xs : List V} {n : Nat} {H : Hp} (h : ∀ v ∈ xs, flat v) : ∀ v ∈ xs, Lk H (n + 1) v v := fun v hv => lk_flat (h v hv)
theorem fine_pair {i j : Int} (nb : t ≠ b) (ht : H t = some (.tup [.int i, .int j])) (h1 : i.natAbs < Lim) (h2 : j.natAbs < Lim) : Fine K b H (.ref t) :=
  ⟨_, fun H' k => ⟨.pair t i j (k _ _ nb ht nt_tup) h1 h2, lk_tup (k _ _ nb ht nt_tup) (by simp) (flats (by simp [flat]))⟩⟩
theorem fine_two {u v : V} {ku kv : String} (nb : t ≠ b) (ht : H t = some (.tup [u, v])) (tu : ∀ H, Kd K H u ku) (tv : ∀ H, Kd K H v kv) (ne : ¬ (ku = "int" ∧ kv = "int")) (fu : flat u) (fv : flat v) : Fine K b H (.ref t) :=
  ⟨_, fun H' k => ⟨.two t u v ku kv (k _ _ nb ht nt_tup) (tu _) (tv _) ne, lk_tup (k _ _ nb ht nt_tup) (by simp) (flats (by simp [fu, fv]))⟩⟩
theorem fine_nest {t2 : Addr} {i j k : Int} (nb : t ≠ b) (nb2 : t2 ≠ b) (h2 : H t2 = some (.tup [.int i, .int j])) (ht : H t = some (.tup [.ref t2, .int k])) : Fine K b H (.ref t) :=
  ⟨none, fun H' kp => ⟨.two t _ _ "tuple" "int" (kp _ _ nb ht nt_tup) (kd_tup (kp _ _ nb2 h2 nt_tup)) kd_int (by decide), lk_tup (kp _ _ nb ht nt_tup) (by simp) fun v hv => by
    rcases List.mem_cons.mp hv with rfl | hv
    · exact lk_tup (kp _ _ nb2 h2 nt_tup) (by simp) (flats (by simp [flat]))
    · rcases List.mem_cons.mp hv with rfl | hv
      · exact lk_flat trivial
      · cases hv⟩⟩
theorem fine_tup {xs : List V} (nb : t ≠ b) (ht : H t = some (.tup xs)) (ne : xs.length ≠ 2) (hl : xs.length ≤ 1000) (fl : ∀ v ∈ xs, flat v) : Fine K b H (.ref t) :=
  ⟨none, fun H' k => ⟨.tup t xs (k _ _ nb ht nt_tup) ne, lk_tup (k _ _ nb ht nt_tup) hl (flats fl)⟩⟩
theorem fine_lst {xs : List V} (nb : t ≠ b) (ht : H t = some (.lst xs)) (hl : xs.length ≤ 1000) (fl : ∀ v ∈ xs, flat v) : Fine K b H (.ref t) :=
  ⟨none, fun H' k => ⟨.other _ "list" (kd_lst (k _ _ nb ht nt_lst)) (by decide), lk_lst (k _ _ nb ht nt_lst) hl (flats fl)⟩⟩
theorem fine_dict {kvs : List (Key × V)} (nb : t ≠ b) (ht : H t = some (.dK kvs)) (hl : kvs.length ≤ 1000) (fl : ∀ kv ∈ kvs, valV kvs kv.1 = some kv.2 ∧ flat kv.2) : Fine K b H (.ref t) :=
  ⟨none, fun H' k => ⟨.other _ "dict" (kd_dK (k _ _ nb ht nt_dK)) (by decide), .inr (.inr ⟨t, kvs, rfl, rfl, k _ _ nb ht nt_dK, hl, by decide, fl⟩)⟩⟩
theorem all_cons {v : V} {r : List V} (h : Fine K b H v) (k : ∀ v ∈ r, Fine K b H v) : ∀ u ∈ v :: r, Fine K b H u := fun u hu => by
  rcases List.mem_cons.mp hu with rfl | hu
  · exact h
  · exact k u hu
theorem all_nil : ∀ u ∈ ([] : List V), Fine K b H u := fun u hu => by cases hu
end
section
variable {P : Program} {w : World} {K : PySem.W.Frag} {mg : Str → Option Value} {base : Heap} {f fI CB : Addr} {fd fdI : FuncData}
theorem sc45 : FnScope ["bag", "kind", "x"] ["bag"] (defScope (top 45)) := fnScope_by (by decide +kernel)
def spValue (K : PySem.W.Frag) : Sp := fun vs H Q _ => ∃ (b : Addr), vs = [.ref b] ∧ Bag H b ∧ ∀ H' x, Ex b H H' → Fine K b H' x → Q x H'
theorem ok_value (m : Mg mg) (dk : DigK K) (c__law_draw : Cal P w K mg base 1 "_law_draw" spDraw []) (c__law_of : Cal P w K mg base 2 "_law_of" spOf []) (c__law_whole : Cal P w K mg base 3 "_law_whole" spWhole []) (c__law_frac : Cal P w K mg base 2 "_law_frac" spFrac []) (c__law_wrote : Cal P w K mg base 1 "_law_wrote" spText [])
    (c__law_string : Cal P w K mg base 3 "_law_string" spStr []) (c__law_bent_string : Cal P w K mg base 4 "_law_bent_string" spStr [])
    (F : Fn K "_law_value" 45 f fd) (g : mg "_law_value" = some (.ref f)) : Cal P w K mg base 5 "_law_value" (spValue K) [] := by
  have sc := sc45
  refine calD F g sc (fun _ _ _ _ _ _ us hl => match us, hl with | [_], _ => rfl) ?_ fun cdv A outer s H vs Q E hr h => ?_
  · rintro vs H Q E ⟨x, rfl, _⟩
    rfl
  · obtain ⟨b, rfl, bag, q⟩ := h
    refine ⟨_, (pss_cons (ps_set (i := 1) sc.nd rfl (.inl rfl) (pe_c c__law_draw hr (by decide) (by rfl) (pa_cons (pv 0) (pa_cons pe_int pa_nil))))
      (pss_cons (ps_if (pt_cmpR op_lt (pv 1) pe_int (nomark _))
        (pss_one (ps_ret (pe_c c__law_whole hr (by decide) (by rfl) (pa_cons (pv 0) pa_nil))))
        pss_nil)
      (pss_cons (ps_if (pt_cmpR op_eq (pv 1) pe_int (nomark _))
        (pss_one (ps_ret (pe_c c__law_frac hr (by decide) (by rfl) (pa_cons (pe_c c__law_whole hr (by decide) (by rfl) (pa_cons (pv 0) pa_nil)) (pa_cons (pe_op op_add pe_int (pe_c c__law_draw hr (by decide) (by rfl) (pa_cons (pv 0) (pa_cons (pe_op op_pow pe_int pe_int) pa_nil)))) pa_nil)))))
        pss_nil)
      (pss_cons (ps_if (pt_cmpR op_lt (pv 1) pe_int (nomark _))
        (pss_one (ps_ret (pe_tup (pa_cons (pe_op op_sub (pe_c c__law_draw hr (by decide) (by rfl) (pa_cons (pv 0) (pa_cons pe_int pa_nil))) pe_int) (pa_cons (pe_op op_sub (pe_c c__law_draw hr (by decide) (by rfl) (pa_cons (pv 0) (pa_cons pe_int pa_nil))) pe_int) pa_nil)))))
        pss_nil)
      (pss_cons (ps_if (pt_cmpR op_eq (pv 1) pe_int (nomark _))
        (pss_cons (ps_set (i := 2) sc.nd rfl (.inl rfl) (pe_c c__law_frac hr (by decide) (by rfl) (pa_cons (pe_c c__law_whole hr (by decide) (by rfl) (pa_cons (pv 0) pa_nil)) (pa_cons (pe_op op_add pe_int (pe_c c__law_draw hr (by decide) (by rfl) (pa_cons (pv 0) (pa_cons pe_int pa_nil)))) pa_nil))))
        (pss_one (ps_ret (pe_c c__law_of hr (by decide) (by rfl) (pa_cons (pv 0) (pa_cons (pe_lst (pa_cons (pe_lst (pa_cons (pe_ix ix_tup (pv 2) pe_int (fun _ _ => rfl)) (pa_cons (pe_ix ix_tup (pv 2) pe_int (fun _ _ => rfl)) pa_nil))) (pa_cons (pe_tup (pa_cons (pe_ix ix_tup (pv 2) pe_int (fun _ _ => rfl)) pa_nil)) (pa_cons (pe_tup (pa_cons (pe_ix ix_tup (pv 2) pe_int (fun _ _ => rfl)) (pa_cons (pe_ix ix_tup (pv 2) pe_int (fun _ _ => rfl)) (pa_cons pe_int pa_nil)))) (pa_cons (pe_tup (pa_cons (pe_c c__law_wrote hr (by decide) (by rfl) (pa_cons (pv 2) pa_nil)) (pa_cons pe_int pa_nil))) (pa_cons (pe_tup (pa_cons (pe_ix ix_tup (pv 2) pe_int (fun _ _ => rfl)) (pa_cons pe_str pa_nil))) (pa_cons (pe_tup (pa_cons (pe_tup (pa_cons pe_int (pa_cons pe_int pa_nil))) (pa_cons (pe_ix ix_tup (pv 2) pe_int (fun _ _ => rfl)) pa_nil))) pa_nil))))))) pa_nil))))))
        pss_nil)
      (pss_cons (ps_if (pt_cmpR op_eq (pv 1) pe_int (nomark _))
        (pss_one (ps_ret (pe_c c__law_of hr (by decide) (by rfl) (pa_cons (pv 0) (pa_cons (pe_lst (pa_cons pe_bl (pa_cons pe_bl (pa_cons (pe_tup (pa_cons pe_bl (pa_cons pe_int pa_nil))) (pa_cons (pe_tup (pa_cons pe_int (pa_cons pe_bl pa_nil))) (pa_cons (pe_tup (pa_cons pe_int (pa_cons pe_bl pa_nil))) (pa_cons (pe_tup (pa_cons pe_bl (pa_cons pe_int pa_nil))) (pa_cons (pe_tup (pa_cons pe_int (pa_cons pe_non pa_nil))) pa_nil)))))))) pa_nil)))))
        pss_nil)
      (pss_cons (ps_if (pt_cmpR op_eq (pv 1) pe_int (nomark _))
        (pss_one (ps_ret (pe_c c__law_of hr (by decide) (by rfl) (pa_cons (pv 0) (pa_cons (pe_lst (pa_cons pe_non (pa_cons pe_dnewK (pa_cons (pe_lst pa_nil) (pa_cons pe_str (pa_cons (pe_tup pa_nil) (pa_cons (pe_disp (pps_cons pe_str pe_int pps_nil) rfl rfl (by simp) (by decide)) (pa_cons (pe_lst (pa_cons pe_int pa_nil)) (pa_cons (pe_lst (pa_cons pe_str pa_nil)) pa_nil))))))))) pa_nil)))))
        pss_nil)
      (pss_cons (ps_if (pt_cmpR op_lt (pv 1) pe_int (nomark _))
        (pss_one (ps_ret (pe_c c__law_string hr (by decide) (by rfl) (pa_cons (pv 0) pa_nil))))
        pss_nil)
      (pss_cons (ps_if (pt_cmpR op_lt (pv 1) pe_int (nomark _))
        (pss_one (ps_ret (pe_c c__law_bent_string hr (by decide) (by rfl) (pa_cons (pv 0) pa_nil))))
        pss_nil)
      (pss_one (ps_ret (pe_c c__law_of hr (by decide) (by rfl) (pa_cons (pv 0) (pa_cons (pe_lst (pa_cons pe_str (pa_cons pe_str (pa_cons pe_str (pa_cons pe_str (pa_cons pe_str (pa_cons pe_str (pa_cons pe_str (pa_cons pe_str (pa_cons pe_str (pa_cons pe_str (pa_cons pe_str (pa_cons pe_str (pa_cons pe_str (pa_cons pe_str (pa_cons pe_str (pa_cons pe_str (pa_cons pe_str (pa_cons pe_str (pa_cons pe_str (pa_cons pe_str pa_nil))))))))))))))))))))) pa_nil)))))))))))))), ?_⟩
    have frac : ∀ {H1 : Hp} {i : Int} {n d : Nat} {t : Addr}, Ex b H H1 → i.natAbs < 10 ^ 31 → d = 1 + n → d ≤ 1000000 → H1 t = none → ∃ p : Int × Int, p = (i / ((Nat.gcd i.natAbs d : Nat) : Int), (d : Int) / ((Nat.gcd i.natAbs d : Nat) : Int)) ∧ Good p ∧ p.1.natAbs < 10 ^ 31 ∧ p.2.natAbs < 10 ^ 31 ∧ Ex b H (upd H1 t (.tup [.int p.1, .int p.2])) ∧ t ≠ b := by
      rintro H1 i n d t x1 hi rfl hd ht
      have gp : 0 < Nat.gcd i.natAbs (1 + n) := Nat.gcd_pos_of_pos_right _ (by omega)
      refine ⟨_, rfl, frac_good i (1 + n) (by omega) (big_lim hi) (big_lim (Nat.lt_of_le_of_lt hd (by decide))), ?_, ?_, x1.more (same_new ht), bag_ne x1.bag ht⟩
      · refine Nat.lt_of_le_of_lt ?_ hi
        rw [show (i / ((Nat.gcd i.natAbs (1 + n) : Nat) : Int), ((1 + n : Nat) : Int) / ((Nat.gcd i.natAbs (1 + n) : Nat) : Int)).1 = i / ((Nat.gcd i.natAbs (1 + n) : Nat) : Int) from rfl]
        obtain ⟨k, hk⟩ : ((Nat.gcd i.natAbs (1 + n) : Nat) : Int) ∣ i := Int.ofNat_dvd_left.mpr (Nat.gcd_dvd_left _ _)
        generalize Nat.gcd i.natAbs (1 + n) = g at *
        rw [hk, Int.mul_ediv_cancel_left _ (by omega), Int.natAbs_mul]
        exact Nat.le_mul_of_pos_left _ (by simpa using gp)
      · refine Nat.lt_of_le_of_lt (?_ : _ ≤ 1 + n) (Nat.lt_of_le_of_lt hd (by decide))
        show (((1 + n : Nat) : Int) / ((Nat.gcd i.natAbs (1 + n) : Nat) : Int)).natAbs ≤ 1 + n
        rw [← Int.natCast_ediv, Int.natAbs_natCast]
        exact Nat.div_le_self _ _
    simp only [L2.start, cxOf, tRet, tAndV, tOrV, tNotV, tCB, tCons, tNil, tVar, tC, tOp, tUn, tTest, tB, tIf, tIfS, tSeq, tAsg, tAnd, tOr, tNot, gName, tNext, tCall, tChain, rI, rI0, rEq, rNe, rGcd, rU, tM1, tM0, tSl, tFmtB, tJs, tPart, tNoPart, gTup, gCons, gNil, gSub, tTup, tLst, tPar, L2.rI, List.map_cons, List.map_nil, List.length_cons, List.length_nil, List.cons_append, List.nil_append, List.append_nil, List.getElem?_cons_zero, List.getElem?_cons_succ, List.set_cons_zero, List.set_cons_succ, Option.some.injEq, exists_eq_left, exists_eq_left', exists_eq_right, exists_and_left, exists_and_right, List.cons.injEq, and_true, true_and, V.int.injEq, V.str.injEq, V.bl.injEq, V.ref.injEq, List.replicate, Nat.reduceAdd, Nat.reduceSub, reduceCtorEq, false_and, and_false, if_true, if_false, Bool.false_eq_true, Bool.not_true, Bool.not_false, decide_eq_true_eq, exists_false, or_false, false_or]
    refine draw_i bag (by decide) (by decide) fun H1 n x1 l1 => ⟨_, rfl, ?_⟩
    by_cases k3 : (n : Int) < 3
    · rw [if_pos k3]
      exact ⟨b, rfl, x1.bag, fun H2 i x2 hi => q _ _ (x1.trans x2) (fine_int hi)⟩
    rw [if_neg k3]
    refine ⟨rfl, ?_⟩
    by_cases k4 : V.int (n : Int) = V.int 3
    · rw [if_pos k4]
      refine ⟨b, rfl, x1.bag, fun H2 i x2 hi => ⟨⟨by decide, by decide, by decide⟩, draw_i x2.bag (by decide) (by decide) fun H3 n2 x3 l3 => ⟨_, rfl, ?_⟩⟩⟩
      have l3 : (n2 : Int) < 1000000 := l3
      refine ⟨i, 1 + n2, by simp, by omega, by omega, fun t ht => ?_⟩
      obtain ⟨p, ep, good, g1, g2, x4, nt⟩ := frac (n := n2) (d := 1 + n2) ((x1.trans x2).trans x3) hi rfl (by omega) ht
      have e1 : i / ((Nat.gcd i.natAbs (1 + n2) : Nat) : Int) = p.1 := by rw [ep]
      have e2 : ((1 + n2 : Nat) : Int) / ((Nat.gcd i.natAbs (1 + n2) : Nat) : Int) = p.2 := by rw [ep]
      rw [e1, e2]
      exact q _ _ x4 (fine_pair nt upd_same (big_lim g1) (big_lim g2))
    rw [if_neg k4]
    refine ⟨_, rfl, ?_⟩
    by_cases k6 : (n : Int) < 6
    · rw [if_pos k6]
      refine draw_i x1.bag (by decide) (by decide) fun H2 n2 x2 l2 => ⟨_, rfl, draw_i x2.bag (by decide) (by decide) fun H3 n3 x3 l3 => ⟨_, rfl, small (by decide), fun t ht => ?_⟩⟩
      have l2 : (n2 : Int) < 15 := l2
      have l3 : (n3 : Int) < 15 := l3
      have lim20 : ∀ {k : Nat}, k < 20 → k < Lim := fun h => Nat.lt_of_lt_of_le h (Nat.le_trans (by decide : 20 ≤ 10 ^ 31) (Nat.le_of_lt (Nat.lt_of_lt_of_le (Nat.lt_succ_self _) (Nat.pow_le_pow_right (n := 10) (by decide) (by decide : 32 ≤ 4000) |> Nat.le_trans (by decide)))))
      exact q _ _ (((x1.trans x2).trans x3).more (same_new ht)) (fine_pair (bag_ne x3.bag ht) upd_same (lim20 (by omega)) (lim20 (by omega)))
    rw [if_neg k6]
    refine ⟨rfl, ?_⟩
    by_cases k7 : V.int (n : Int) = V.int 6
    · rw [if_pos k7]
      refine ⟨b, rfl, x1.bag, fun H2 i x2 hi => draw_i x2.bag (by decide) (by decide) fun H3 n2 x3 l3 => ⟨_, rfl, ?_⟩⟩
      have l3 : (n2 : Int) < 9 := l3
      refine ⟨i, 1 + n2, by simp, by omega, by omega, fun t ht => ?_⟩
      obtain ⟨p, ep, good, g1, g2, x4, nt⟩ := frac (n := n2) (d := 1 + n2) ((x1.trans x2).trans x3) hi rfl (by omega) ht
      have e1 : i / ((Nat.gcd i.natAbs (1 + n2) : Nat) : Int) = p.1 := by rw [ep]
      have e2 : ((1 + n2 : Nat) : Int) / ((Nat.gcd i.natAbs (1 + n2) : Nat) : Int) = p.2 := by rw [ep]
      rw [e1, e2]
      have ht4 : (upd H3 t (.tup [V.int p.1, V.int p.2])) t = some (.tup [V.int p.1, V.int p.2]) := upd_same
      revert x4 ht4
      generalize upd H3 t (.tup [V.int p.1, V.int p.2]) = H4
      intro x4 ht4
      refine ixT ht4 0 rfl (ixT ht4 1 rfl ⟨small (by decide), fun a1 h1 => ?_⟩)
      have s1 := same_new (o := .lst [V.int p.1, V.int p.2]) h1
      have y1 := x4.more s1
      refine ixT (s1 _ _ ht4) 0 rfl ⟨small (by decide), fun a2 h2 => ?_⟩
      have s2 := s1.trans (same_new (o := .tup [V.int p.1]) h2)
      have y2 := x4.more s2
      refine ixT (s2 _ _ ht4) 0 rfl (ixT (s2 _ _ ht4) 1 rfl ⟨small (by decide), fun a3 h3 => ?_⟩)
      have s3 := s2.trans (same_new (o := .tup [V.int p.1, V.int p.2, V.int 1]) h3)
      have y3 := x4.more s3
      refine ⟨t, p, rfl, s3 _ _ ht4, good, ⟨small (by decide), fun a4 h4 => ?_⟩⟩
      have s4 := s3.trans (same_new (o := .tup [V.str (S (wroteL p)), V.int 1]) h4)
      have y4 := x4.more s4
      refine ixT (s4 _ _ ht4) 0 rfl ⟨small (by decide), fun a5 h5 => ?_⟩
      have s5 := s4.trans (same_new (o := .tup [V.int p.1, V.str "1"]) h5)
      have y5 := x4.more s5
      refine ⟨small (by decide), fun a6 h6 => ?_⟩
      have s6 := s5.trans (same_new (o := .tup [V.int 1, V.int 1]) h6)
      have y6 := x4.more s6
      refine ixT (s6 _ _ ht4) 1 rfl ⟨small (by decide), fun a7 h7 => ?_⟩
      have s7 := s6.trans (same_new (o := .tup [V.ref a6, V.int p.2]) h7)
      have y7 := x4.more s7
      have n1 := bag_ne x4.bag h1
      have n2' := bag_ne y1.bag h2
      have n3 := bag_ne y2.bag h3
      have n4 := bag_ne y3.bag h4
      have n5 := bag_ne y4.bag h5
      have n6 := bag_ne y5.bag h6
      have n7 := bag_ne y6.bag h7
      refine ⟨small (by decide), fun l hl => of_i y7.bag hl (by simp) (by simp) fun H8 v x8 hv => q H8 v (y7.trans x8) (Fine.keep ?_ (exkp x8))⟩
      have u7 := same_new (o := .tup [V.ref a6, V.int p.2]) h7
      have u6 := (same_new (o := .tup [V.int 1, V.int 1]) h6).trans u7
      have u5 := (same_new (o := .tup [V.int p.1, V.str "1"]) h5).trans u6
      have u4 := (same_new (o := .tup [V.str (S (wroteL p)), V.int 1]) h4).trans u5
      have u3 := (same_new (o := .tup [V.int p.1, V.int p.2, V.int 1]) h3).trans u4
      have u2 := (same_new (o := .tup [V.int p.1]) h2).trans u3
      exact all_cons (fine_lst n1 (u2 _ _ upd_same) (by simp) (by simp [flat])) (all_cons (fine_tup n2' (u3 _ _ upd_same) (by simp) (by simp) (by simp [flat])) (all_cons (fine_tup n3 (u4 _ _ upd_same) (by simp) (by simp) (by simp [flat]))
        (all_cons (fine_two (ku := "str") (kv := "int") n4 (u5 _ _ upd_same) (fun _ => kd_str) (fun _ => kd_int) (by decide) trivial trivial) (all_cons (fine_two (ku := "int") (kv := "str") n5 (u6 _ _ upd_same) (fun _ => kd_int) (fun _ => kd_str) (by decide) trivial trivial)
        (all_cons (fine_nest n7 n6 (u7 _ _ upd_same) upd_same) all_nil))))) v hv
    rw [if_neg k7]
    refine ⟨rfl, ?_⟩
    by_cases k8 : V.int (n : Int) = V.int 7
    · rw [if_pos k8]
      refine ⟨small (by decide), fun a1 h1 => ⟨small (by decide), fun a2 h2 => ⟨small (by decide), fun a3 h3 => ⟨small (by decide), fun a4 h4 => ⟨small (by decide), fun a5 h5 => ?_⟩⟩⟩⟩⟩
      have y1 := x1.more (same_new (o := .tup [V.bl true, V.int 1]) h1)
      have y2 := y1.more (same_new (o := .tup [V.int 1, V.bl true]) h2)
      have y3 := y2.more (same_new (o := .tup [V.int 0, V.bl true]) h3)
      have y4 := y3.more (same_new (o := .tup [V.bl false, V.int 1]) h4)
      have y5 := y4.more (same_new (o := .tup [V.int 2, V.non]) h5)
      refine ⟨small (by decide), fun l hl => of_i y5.bag hl (by simp) (by simp) fun H8 v x8 hv => q H8 v (y5.trans x8) (Fine.keep ?_ (exkp x8))⟩
      have u5 := same_new (o := .tup [V.int 2, V.non]) h5
      have u4 := (same_new (o := .tup [V.bl false, V.int 1]) h4).trans u5
      have u3 := (same_new (o := .tup [V.int 0, V.bl true]) h3).trans u4
      have u2 := (same_new (o := .tup [V.int 1, V.bl true]) h2).trans u3
      have n1 := bag_ne x1.bag h1
      have n2' := bag_ne y1.bag h2
      have n3 := bag_ne y2.bag h3
      have n4 := bag_ne y3.bag h4
      have n5 := bag_ne y4.bag h5
      exact all_cons fine_bl (all_cons fine_bl (all_cons (fine_two (ku := "bool") (kv := "int") n1 (u2 _ _ upd_same) (fun _ => kd_bl) (fun _ => kd_int) (by decide) trivial trivial)
        (all_cons (fine_two (ku := "int") (kv := "bool") n2' (u3 _ _ upd_same) (fun _ => kd_int) (fun _ => kd_bl) (by decide) trivial trivial)
        (all_cons (fine_two (ku := "int") (kv := "bool") n3 (u4 _ _ upd_same) (fun _ => kd_int) (fun _ => kd_bl) (by decide) trivial trivial)
        (all_cons (fine_two (ku := "bool") (kv := "int") n4 (u5 _ _ upd_same) (fun _ => kd_bl) (fun _ => kd_int) (by decide) trivial trivial)
        (all_cons (fine_two (ku := "int") (kv := "NoneType") n5 upd_same (fun _ => kd_int) (fun _ => kd_non) (by decide) trivial trivial) all_nil)))))) v hv
    rw [if_neg k8]
    refine ⟨rfl, ?_⟩
    by_cases k9 : V.int (n : Int) = V.int 8
    · rw [if_pos k9]
      simp only [tDNewK, tDisp]
      refine fun a1 h1 => ⟨small (by decide), fun a2 h2 => ⟨small (by decide), fun a3 h3 => fun a4 h4 => ?_⟩⟩
      simp only [tPairs, tC]
      refine ⟨upd_same, [(.inr (Str.ofString "1"), .int 1)], rfl, by decide, ?_⟩
      rw [show ∀ (H : Hp) o o', upd (upd H a4 o) a4 o' = upd H a4 o' from fun H o o' => by
        funext x
        simp only [upd]
        split <;> rfl]
      rw [show mergeK [] [((.inr (Str.ofString "1") : Key), V.int 1)] = [((.inr (Str.ofString "1") : Key), V.int 1)] from by rfl]
      have y1 := x1.more (same_new (o := .dK []) h1)
      have y2 := y1.more (same_new (o := .lst []) h2)
      have y3 := y2.more (same_new (o := .tup []) h3)
      have y4 := y3.more (same_new (o := .dK [(.inr (Str.ofString "1"), .int 1)]) h4)
      refine ⟨small (by decide), fun a5 h5 => ⟨small (by decide), fun a6 h6 => ?_⟩⟩
      have y5 := y4.more (same_new (o := .lst [V.int 1]) h5)
      have y6 := y5.more (same_new (o := .lst [V.str (Str.ofString "1")]) h6)
      refine ⟨small (by decide), fun l hl => of_i y6.bag hl (by simp) (by simp) fun H8 v x8 hv => q H8 v (y6.trans x8) (Fine.keep ?_ (exkp x8))⟩
      have u6 := same_new (o := .lst [V.str (Str.ofString "1")]) h6
      have u5 := (same_new (o := .lst [V.int 1]) h5).trans u6
      have u4 := (same_new (o := .dK [(.inr (Str.ofString "1"), .int 1)]) h4).trans u5
      have u3 := (same_new (o := .tup []) h3).trans u4
      have u2 := (same_new (o := .lst []) h2).trans u3
      have n1 := bag_ne x1.bag h1
      have n2' := bag_ne y1.bag h2
      have n3 := bag_ne y2.bag h3
      have n4 := bag_ne y3.bag h4
      have n5 := bag_ne y4.bag h5
      have n6 := bag_ne y5.bag h6
      exact all_cons fine_non (all_cons (fine_dict n1 (u2 _ _ upd_same) (by simp) (by simp)) (all_cons (fine_lst n2' (u3 _ _ upd_same) (by simp) (by simp))
        (all_cons (fine_lit (by decide)) (all_cons (fine_tup n3 (u4 _ _ upd_same) (by simp) (by simp) (by simp))
        (all_cons (fine_dict n4 (u5 _ _ upd_same) (by simp) (by simp [flat]; try rfl)) (all_cons (fine_lst n5 (u6 _ _ upd_same) (by simp) (by simp [flat]))
        (all_cons (fine_lst n6 upd_same (by simp) (by simp [flat])) all_nil))))))) v hv
    rw [if_neg k9]
    refine ⟨_, rfl, ?_⟩
    by_cases k12 : (n : Int) < 12
    · rw [if_pos k12]
      exact ⟨b, rfl, x1.bag, fun H2 a x2 ha => q _ _ (x1.trans x2) (fine_str ha)⟩
    rw [if_neg k12]
    refine ⟨_, rfl, ?_⟩
    by_cases k14 : (n : Int) < 14
    · rw [if_pos k14]
      exact ⟨b, rfl, x1.bag, fun H2 a x2 ha => q _ _ (x1.trans x2) (fine_str ha)⟩
    rw [if_neg k14]
    refine ⟨small (by decide), fun l hl => of_i x1.bag hl (by simp) (by simp) fun H8 v x8 hv => q H8 v (x1.trans x8) ?_⟩
    simp only [List.mem_cons, List.not_mem_nil, or_false] at hv
    have lit : ∀ {x : Str}, v = .str x → x.length ≤ 10000 → Fine K b H8 v := fun e h => e ▸ fine_lit h
    rcases hv with hv | hv | hv | hv | hv | hv | hv | hv | hv | hv | hv | hv | hv | hv | hv | hv | hv | hv | hv | hv <;> exact lit hv (by decide +kernel)
end
end W17

set_option Elab.async false
set_option linter.all false
set_option maxRecDepth 100000
set_option maxHeartbeats 4000000
set_option exponentiation.threshold 5000
/-! J17: the law -/
namespace W17
open PySem PySem.Spec PyProof.Rows L2 Lay P17 LamX
open SX (S S_len S_cat S_tl)
open C8 (Cal pe_c pe_gc fnScope_by E0 sl_txt rSlX)
section
variable {P : Program} {w : World} {K : PySem.W.Frag} {mg : Str → Option Value} {base : Heap} {f fI CB : Addr} {fd fdI : FuncData}
theorem ok_like (m : Mg mg) (F : Fn K "_law_like" 32 f fd) (g : mg "_law_like" = some (.ref f)) : ∀ n, Cal P w K mg base (n + 1) "_law_like" (spLike n) []
  | 0 => by
    refine calD F g sc32 (fun _ _ _ _ _ _ us hl => match us, hl with | [_, _], _ => rfl) ?_ fun cdv A outer s H vs Q E hr h => ?_
    · rintro vs H Q E ⟨x, y, rfl, _⟩
      rfl
    · obtain ⟨_, _, _, z, _⟩ := h
      exact z.elim
  | n + 1 => ok_like_step m F g n (ok_like m F g n)
theorem tabs_keep {T : List (Addr × Str)} {b : Addr} {H H' : Hp} (t : Tabs T H) (x : Ex b H H') (g : Bag H b) : Tabs T H' := by
  intro p hp
  obtain ⟨ps, h1, h2, h3⟩ := t p hp
  obtain ⟨xs, hb, _⟩ := g.at
  have nb : ∀ {a : Addr} {o : HO}, H a = some o → o ≠ .lst xs → a ≠ b := fun e n z => n (Option.some.inj (e.symm.trans (by rw [z]; exact hb)))
  refine ⟨ps, x.keep _ _ (nb h1 (fun z => by cases z)) h1, h2, fun pos cv hc => ?_⟩
  obtain ⟨c, e1, e2⟩ := h3 pos cv hc
  exact ⟨c, e1, x.keep _ _ (nb e2 (fun z => by unfold CodeO at z; cases z)) e2⟩
theorem bag_ext {b : Addr} {H H' : Hp} (g : Bag H b) (e : ExtN H H') : Bag H' b := by
  obtain ⟨l, ns, pos, big, mixed, cnt, left, h1, h2, h3⟩ := g
  exact ⟨l, ns, pos, big, mixed, cnt, left, e _ _ h1 nt_lst, e _ _ h2 nt_lst, h3⟩
def Fit (K : PySem.W.Frag) (b : Addr) (H : Hp) (v : V) (n : Option (Int × Int)) : Prop := ∀ H', Keep b H H' → Sh K H' v n ∧ Lk H' 4 v v
def Num (b : Addr) (H : Hp) (xv : V) : Option (Int × Int) → Prop
  | none => xv = .non
  | some p => ∃ t, xv = .ref t ∧ t ≠ b ∧ H t = some (.tup [.int p.1, .int p.2]) ∧ Good p
theorem Num.keep {b : Addr} {H H' : Hp} {xv : V} {n : Option (Int × Int)} (h : Num b H xv n) (k : Keep b H H') : Num b H' xv n := by
  cases n with
  | none => exact h
  | some p =>
    obtain ⟨t, e, nb, ht, g⟩ := h
    exact ⟨t, e, nb, k _ _ nb ht nt_tup, g⟩
def qL : Str := ("law" : Str) ++ (".<locals>." : Str) ++ ("<lambda>" : Str)
def TT (Pt : Addr) : List (Addr × Str) := [(Pt, qL)]
/-- what stands in a turn of the law -/
structure Stand (K : PySem.W.Frag) (b Pt : Addr) (H : Hp) (v xv : V) (n : Option (Int × Int)) : Prop where
  bag : Bag H b
  tabs : Tabs (TT Pt) H
  fit : Fit K b H v n
  num : Num b H xv n
theorem Stand.same {b Pt : Addr} {H H' : Hp} {v xv : V} {n : Option (Int × Int)} (s : Stand K b Pt H v xv n) (e : Same H H') : Stand K b Pt H' v xv n :=
  ⟨s.bag.same e, s.tabs.ext e, fun _ k => s.fit _ ((kp_same e).trans k), s.num.keep (kp_same e)⟩
theorem Stand.ext {b Pt : Addr} {H H' : Hp} {v xv : V} {n : Option (Int × Int)} (s : Stand K b Pt H v xv n) (e : ExtN H H') (t : Tabs (TT Pt) H') : Stand K b Pt H' v xv n :=
  ⟨bag_ext s.bag e, t, fun _ k => s.fit _ ((kp_ext e).trans k), s.num.keep (kp_ext e)⟩
theorem kp_refl {b : Addr} {H : Hp} : Keep b H H := fun _ _ _ e _ => e
theorem two_lk {H : Hp} {t t2 : Addr} {n : Nat} {x : Str} {u v : V} (h1 : H t = some (.tup [.str x, u])) (h2 : H t2 = some (.tup [.str x, v])) (l : Lk H (n + 1) u v) : Lk H (n + 2) (.ref t) (.ref t2) :=
  .inr (.inl ⟨t, t2, _, _, rfl, rfl, .inl ⟨h1, h2⟩, rfl, by simp, fun i u' v' g1 g2 => by
    match i, g1, g2 with
    | 0, g1, g2 =>
      cases g1
      cases g2
      exact .inl ⟨rfl, trivial⟩
    | 1, g1, g2 =>
      cases g1
      cases g2
      exact l
    | k + 2, g1, g2 => cases g1⟩)
theorem pair_lk {H : Hp} {t t2 : Addr} {n : Nat} {p : Int × Int} (h1 : H t = some (.tup [.int p.1, .int p.2])) (h2 : H t2 = some (.tup [.int p.1, .int p.2])) : Lk H (n + 2) (.ref t) (.ref t2) :=
  .inr (.inl ⟨t, t2, _, _, rfl, rfl, .inl ⟨h1, h2⟩, rfl, by simp, fun i u' v' g1 g2 => by
    match i, g1, g2 with
    | 0, g1, g2 =>
      cases g1
      cases g2
      exact .inl ⟨rfl, trivial⟩
    | 1, g1, g2 =>
      cases g1
      cases g2
      exact .inl ⟨rfl, trivial⟩
    | k + 2, g1, g2 => cases g1⟩)
theorem sc47 : FnScope ["script", "bag", "turn", "value", "x", "again"] ["script"] (defScope (top 47)) := fnScope_by (by decide +kernel)
def spLaw (K : PySem.W.Frag) (Pt : Addr) : Sp := fun vs H Q _ => ∃ (a : Addr) (ns : List Int), vs = [.ref a] ∧ SqL K H a (ns.map V.int) ∧ H Pt = some (.tbl #[]) ∧ ∀ H', Q (.bl true) H'
theorem ok_law (m : Mg mg) (c__law_bag : Cal P w K mg base 1 "_law_bag" (spBag K) []) (c__law_draw : Cal P w K mg base 1 "_law_draw" spDraw []) (c__law_long : Cal P w K mg base 3 "_law_long" spStr []) (c__law_value : Cal P w K mg base 5 "_law_value" (spValue K) [])
    (c__law_number_of : Cal P w K mg base 3 "_law_number_of" (spNum K) []) (c__law_wrote : Cal P w K mg base 1 "_law_wrote" spText []) (c__law_like : Cal P w K mg base 6 "_law_like" (spLike 5) [])
    (c_read_number : CalN P w K mg base 3 "read_number" (spNumRead K CB)) (c_number_text : CalN P w K mg base 4 "number_text" (spNumText K CB)) (c__law_tried : CalL P w K mg base 7 6 "_law_tried" (spTried CB))
    (F : Fn K "law" 47 (He.fAd K ("law", none)) fd) {c Pt : Addr} (hcT : He.codeOf K ("law", none) = c) (TB : TabB base mg c Pt) : FnOk P w K mg base C8.CX0 9 (He.fAd K ("law", none)) fd ["script"] (spLaw K Pt) := by
  have sc := sc47
  obtain ⟨oc, od, dV, kV, doc, pm, an, cdv, ct, osl, rfl, lk, hcd, _, _⟩ := F.ex
  obtain ⟨c0, rfl⟩ := He.codeIn_ref hcd
  obtain rfl : c0 = c := by rw [← hcT]; exact (He.codeOf_eq lk rfl).symm
  obtain ⟨gTf, gTd, gTp, fT, gT, kpT, bT⟩ := c__law_tried.ex
  have huT : ∀ p ∈ [(Pt, qL)], p.1 = Pt → p.2 = qL := fun p hp _ => by
    rw [List.mem_singleton.mp hp]
  refine fn_of lk hcd sc ?_ fun A outer s H vs Q E hr h => ?_
  · rintro vs H Q E ⟨x, _, rfl, _⟩
    rfl
  · obtain ⟨a, ns, rfl, sq, tb0, q⟩ := h
    refine ⟨_, PSs.nox (pss_cons (ps_set (i := 1) sc.nd rfl (.inl rfl) (pe_c c__law_bag hr (by decide) (by rfl) (pa_cons (pv 0) pa_nil)))
      (pss_cons (ps_for pown rfl (pi_range1 rfl m.range_ (pa_cons pe_int pa_nil)) (pg_name (i := 2) sc.nd rfl (.inl rfl))
        (pss_cons (ps_set (i := 3) sc.nd rfl (.inr rfl) (pe_ifExp ((pw_and (pt_cmpR op_eq (pv 2) pe_int (nomark _)) (pw_and1 (pt_cmpR op_eq (pe_c c__law_draw hr (by decide) (by rfl) (pa_cons (pv 1) (pa_cons pe_int pa_nil))) pe_int (nomark _))))).pt (pe_c c__law_long hr (by decide) (by rfl) (pa_cons (pv 1) pa_nil)) (pe_c c__law_value hr (by decide) (by rfl) (pa_cons (pv 1) pa_nil))))
        (pss_cons (ps_set (i := 4) sc.nd rfl (.inl rfl) (pe_c c__law_number_of hr (by decide) (by rfl) (pa_cons (pv 3) pa_nil)))
        (pss_cons (ps_if (pt_not (pt_val (pe_c c__law_like hr (by decide) (by rfl) (pa_cons (pe_lamN (CXL := L2N.CX P w) (T := [(Pt, qL)]) (E := fun _ => C8.E0) fT (hr.mono (by decide)) (by rfl) gT kpT bT (fun _ _ _ _ _ _ _ h => h.elim) TB rfl (List.mem_singleton.mpr rfl) huT (lamS_by (sc := defScope (top 47)) (by decide +kernel)) (by rfl) (fun _ _ _ _ _ => by rfl) (fun A outer s H E f c' r => pe_cN c_read_number r (by decide) (by rfl) (takesL rfl rfl) (pa_cons (pv 3) pa_nil)) pa_nil) (pa_cons (pe_ifExp (pt_cmpR op_isN (pv 4) pe_non (nomark _)) (pe_tup (pa_cons pe_str (pa_cons (pv 3) pa_nil))) (pe_tup (pa_cons pe_str (pa_cons (pv 4) pa_nil)))) pa_nil)))))
          (pss_one (ps_ret pe_bl))
          pss_nil)
        (pss_cons (ps_if (pt_not (pt_val (pe_c c__law_like hr (by decide) (by rfl) (pa_cons (pe_lamN (CXL := L2N.CX P w) (T := [(Pt, qL)]) (E := fun _ => C8.E0) fT (hr.mono (by decide)) (by rfl) gT kpT bT (fun _ _ _ _ _ _ _ h => h.elim) TB rfl (List.mem_singleton.mpr rfl) huT (lamS_by (sc := defScope (top 47)) (by decide +kernel)) (by rfl) (fun _ _ _ _ _ => by rfl) (fun A outer s H E f c' r => pe_cN c_number_text r (by decide) (by rfl) (takesL rfl rfl) (pa_cons (pv 3) pa_nil)) pa_nil) (pa_cons (pe_ifExp (pt_cmpR op_isN (pv 4) pe_non (nomark _)) (pe_tup (pa_cons pe_str (pa_cons (pv 3) pa_nil))) (pe_tup (pa_cons pe_str (pa_cons (pe_c c__law_wrote hr (by decide) (by rfl) (pa_cons (pv 4) pa_nil)) pa_nil)))) pa_nil)))))
          (pss_one (ps_ret pe_bl))
          pss_nil)
        (pss_one (ps_if (pt_cmpR op_notN (pv 4) pe_non (nomark _))
          (pss_one (ps_for pown rfl (pi_list (pe_lst (pa_cons (pv 4) (pa_cons (pe_c c__law_wrote hr (by decide) (by rfl) (pa_cons (pv 4) pa_nil)) pa_nil)))) (pg_name (i := 5) sc.nd rfl (.inl rfl))
(pss_one (ps_if ((pw_or (pt_not (pt_val (pe_c c__law_like hr (by decide) (by rfl) (pa_cons (pe_cN c_read_number hr (by decide) (by rfl) takes_no (pa_cons (pv 5) pa_nil)) (pa_cons (pv 4) pa_nil))))) (pw_or1 (pt_not (pt_val (pe_c c__law_like hr (by decide) (by rfl) (pa_cons (pe_cN c_number_text hr (by decide) (by rfl) takes_no (pa_cons (pv 5) pa_nil)) (pa_cons (pe_c c__law_wrote hr (by decide) (by rfl) (pa_cons (pv 4) pa_nil)) pa_nil)))))))).pt
              (pss_one (ps_ret pe_bl))
              pss_nil))))
          pss_nil)))))))
      (pss_one (ps_ret pe_bl)))), ?_⟩
    have T0 : Tabs (TT Pt) H := fun p hp => by
      rw [List.mem_singleton.mp hp]
      exact TabS.nil tb0
    refine seq_cut (fun σ' H' => ∃ b, σ' = [some (.ref a), some (.ref b), none, none, none, none] ∧ Bag H' b ∧ Tabs (TT Pt) H') (fun D' hr hn => ?_) ?_
    · simp only [L2.start, cxOf, tRet, tAndV, tOrV, tNotV, tCB, tCons, tNil, tVar, tC, tOp, tUn, tTest, tB, tIf, tIfS, tSeq, tAsg, tAnd, tOr, tNot, gName, tNext, tCall, tChain, rI, rI0, rEq, rNe, rGcd, rU, tM1, tM0, tSl, tFmtB, tJs, tPart, tNoPart, gTup, gCons, gNil, gSub, tTup, tLst, tPar, L2.rI, List.map_cons, List.map_nil, List.length_cons, List.length_nil, List.cons_append, List.nil_append, List.append_nil, List.getElem?_cons_zero, List.getElem?_cons_succ, List.set_cons_zero, List.set_cons_succ, Option.some.injEq, exists_eq_left, exists_eq_left', exists_eq_right, exists_and_left, exists_and_right, List.cons.injEq, and_true, true_and, V.int.injEq, V.str.injEq, V.bl.injEq, V.ref.injEq, List.replicate, Nat.reduceAdd, Nat.reduceSub, reduceCtorEq, false_and, and_false, if_true, if_false, Bool.false_eq_true, Bool.not_true, Bool.not_false, decide_eq_true_eq, exists_false, or_false, false_or, tCallS, spBag]
      exact ⟨⟨ns, sq⟩, fun H1 b s1 hb bag => hn _ _ ⟨b, rfl, bag, T0.ext s1⟩⟩
    rintro σ' H1 ⟨b, rfl, bag, T1⟩
    refine for_range_at (n := 6) (H1 := H1) (by decide) (fun R k => k) ⟨fun i σ' H' => Bag H' b ∧ Tabs (TT Pt) H' ∧ ∃ y2 y3 y4 y5, σ' = [some (.ref a), some (.ref b), y2, y3, y4, y5], ⟨bag, T1, none, none, none, none, rfl⟩, ?_, fun σ' H' _ => q H'⟩
    rintro i σ' H2 hi ⟨bag2, T2, y2, y3, y4, y5, rfl⟩
    show tSeq _ _ _ [some (.ref a), some (.ref b), some (.int (i : Int)), y3, y4, y5] H2
    refine seq_cut (fun σ' H' => ∃ v n, σ' = [some (.ref a), some (.ref b), some (.int (i : Int)), some v, y4, y5] ∧ Bag H' b ∧ Tabs (TT Pt) H' ∧ Fit K b H' v n) (fun D' hr hn => ?_) ?_
    · have done : ∀ {H' v}, Ex b H2 H' → Fine K b H' v → D'.nx [some (.ref a), some (.ref b), some (.int (i : Int)), some v, y4, y5] H' := fun x ⟨n, h⟩ => hn _ _ ⟨_, n, rfl, x.bag, tabs_keep T2 x bag2, h⟩
      simp only [L2.start, cxOf, tRet, tAndV, tOrV, tNotV, tCB, tCons, tNil, tVar, tC, tOp, tUn, tTest, tB, tIf, tIfS, tSeq, tAsg, tAnd, tOr, tNot, gName, tNext, tCall, tChain, rI, rI0, rEq, rNe, rGcd, rU, tM1, tM0, tSl, tFmtB, tJs, tPart, tNoPart, gTup, gCons, gNil, gSub, tTup, tLst, tPar, L2.rI, List.map_cons, List.map_nil, List.length_cons, List.length_nil, List.cons_append, List.nil_append, List.append_nil, List.getElem?_cons_zero, List.getElem?_cons_succ, List.set_cons_zero, List.set_cons_succ, Option.some.injEq, exists_eq_left, exists_eq_left', exists_eq_right, exists_and_left, exists_and_right, List.cons.injEq, and_true, true_and, V.int.injEq, V.str.injEq, V.bl.injEq, V.ref.injEq, List.replicate, Nat.reduceAdd, Nat.reduceSub, reduceCtorEq, false_and, and_false, if_true, if_false, Bool.false_eq_true, Bool.not_true, Bool.not_false, decide_eq_true_eq, exists_false, or_false, false_or, tCallS, spDraw, spStr, spValue]
      refine ⟨rfl, ?_⟩
      by_cases hi0 : (i : Int) = 0
      · rw [if_pos hi0]
        refine ⟨b, _, ⟨rfl, rfl⟩, bag2, by decide, by decide, fun H3 d x3 _ _ => ⟨rfl, ?_⟩⟩
        by_cases hd0 : d = 0
        · rw [if_pos hd0]
          exact ⟨x3.bag, fun H4 s x4 hs => done (x3.trans x4) (fine_str hs)⟩
        · rw [if_neg hd0]
          exact ⟨x3.bag, fun H4 v x4 hv => done (x3.trans x4) hv⟩
      · rw [if_neg hi0]
        exact ⟨bag2, fun H4 v x4 hv => done x4 hv⟩
    rintro σ' H3 ⟨v, n, rfl, bag3, T3, fit⟩
    refine seq_cut (fun σ' H' => ∃ xv, σ' = [some (.ref a), some (.ref b), some (.int (i : Int)), some v, some xv, y5] ∧ Stand K b Pt H' v xv n) (fun D' hr hn => ?_) ?_
    · simp only [L2.start, cxOf, tRet, tAndV, tOrV, tNotV, tCB, tCons, tNil, tVar, tC, tOp, tUn, tTest, tB, tIf, tIfS, tSeq, tAsg, tAnd, tOr, tNot, gName, tNext, tCall, tChain, rI, rI0, rEq, rNe, rGcd, rU, tM1, tM0, tSl, tFmtB, tJs, tPart, tNoPart, gTup, gCons, gNil, gSub, tTup, tLst, tPar, L2.rI, List.map_cons, List.map_nil, List.length_cons, List.length_nil, List.cons_append, List.nil_append, List.append_nil, List.getElem?_cons_zero, List.getElem?_cons_succ, List.set_cons_zero, List.set_cons_succ, Option.some.injEq, exists_eq_left, exists_eq_left', exists_eq_right, exists_and_left, exists_and_right, List.cons.injEq, and_true, true_and, V.int.injEq, V.str.injEq, V.bl.injEq, V.ref.injEq, List.replicate, Nat.reduceAdd, Nat.reduceSub, reduceCtorEq, false_and, and_false, if_true, if_false, Bool.false_eq_true, Bool.not_true, Bool.not_false, decide_eq_true_eq, exists_false, or_false, false_or, tCallS, spNum]
      refine ⟨n, (fit H3 kp_refl).1, ?_⟩
      cases n with
      | none => exact fun H4 sm => hn _ _ ⟨.non, rfl, bag3.same sm, T3.ext sm, fun _ k => fit _ ((kp_same sm).trans k), rfl⟩
      | some p => exact fun H4 t sm ht e => hn _ _ ⟨.ref t, rfl, bag3.same sm, T3.ext sm, fun _ k => fit _ ((kp_same sm).trans k), t, rfl, bag_ne bag3 ht, e, (fit H3 kp_refl).1.good rfl⟩
    rintro σ' H4 ⟨xv, rfl, st⟩
    refine seq_cut (fun σ' H' => σ' = [some (.ref a), some (.ref b), some (.int (i : Int)), some v, some xv, y5] ∧ Stand K b Pt H' v xv n) (fun D' hr hn => ?_) ?_
    · simp only [L2.start, cxOf, tRet, tAndV, tOrV, tNotV, tCB, tCons, tNil, tVar, tC, tOp, tUn, tTest, tB, tSeq, tAsg, tNot, gName, tNext, tCall, tChain, rI, rI0, rEq, rNe, rGcd, rU, tM1, tM0, tSl, tFmtB, tJs, tPart, tNoPart, gTup, gCons, gNil, gSub, tTup, tLst, tPar, L2.rI, List.map_cons, List.map_nil, List.length_cons, List.length_nil, List.cons_append, List.nil_append, List.append_nil, List.getElem?_cons_zero, List.getElem?_cons_succ, List.set_cons_zero, List.set_cons_succ, Option.some.injEq, exists_eq_left, exists_eq_left', exists_eq_right, exists_and_left, exists_and_right, List.cons.injEq, and_true, true_and, V.int.injEq, V.str.injEq, V.bl.injEq, V.ref.injEq, List.replicate, Nat.reduceAdd, Nat.reduceSub, reduceCtorEq, false_and, and_false, if_true, if_false, Bool.false_eq_true, Bool.not_true, Bool.not_false, decide_eq_true_eq, exists_false, or_false, false_or, tIfS, tCallS, spTried, spNumRead, WE, tLamN, spLike]
      refine ⟨st.tabs, fun H1 c' e1 t1 hc => ⟨hc, n, (st.fit H1 (kp_ext e1)).1, ?_⟩⟩
      have st1 := st.ext e1 t1
      cases n with
      | none =>
        intro H' d sm hd hx
        refine ⟨rfl, d, rfl, v, hx, fun H'' t sm2 ht => ?_⟩
        have st2 := (st1.same sm).same sm2
        have xn : xv = .non := st2.num
        simp only [L2.start, cxOf, tRet, tAndV, tOrV, tNotV, tCB, tCons, tNil, tVar, tC, tOp, tUn, tTest, tB, tIf, tIfS, tSeq, tAsg, tAnd, tOr, tNot, gName, tNext, tCall, tChain, rI, rI0, rEq, rNe, rGcd, rU, tM1, tM0, tSl, tFmtB, tJs, tPart, tNoPart, gTup, gCons, gNil, gSub, tTup, tLst, tPar, L2.rI, List.map_cons, List.map_nil, List.length_cons, List.length_nil, List.cons_append, List.nil_append, List.append_nil, List.getElem?_cons_zero, List.getElem?_cons_succ, List.set_cons_zero, List.set_cons_succ, Option.some.injEq, exists_eq_left, exists_eq_left', exists_eq_right, exists_and_left, exists_and_right, List.cons.injEq, and_true, true_and, V.int.injEq, V.str.injEq, V.bl.injEq, V.ref.injEq, List.replicate, Nat.reduceAdd, Nat.reduceSub, reduceCtorEq, false_and, and_false, if_true, if_false, Bool.false_eq_true, Bool.not_true, Bool.not_false, decide_eq_true_eq, exists_false, or_false, false_or]
        rw [if_pos xn]
        refine ⟨small (by decide), fun t2 h2 => ⟨_, _, ⟨rfl, rfl⟩, ?_, fun H3 sm3 => hn _ _ ⟨rfl, (st2.same (same_new h2)).same sm3⟩⟩⟩
        exact two_lk (same_new h2 _ _ ht) upd_same (st2.fit _ (kp_same (same_new h2))).2
      | some p =>
        intro H' ta sm hta ea
        refine ⟨small (by decide), fun t ht => ?_⟩
        have sm2 : Same H' (upd H' t (.tup [.str "told", .ref ta])) := same_new ht
        have st2 := (st1.same sm).same sm2
        obtain ⟨tx, xe, nb, htx, good⟩ := st2.num
        simp only [L2.start, cxOf, tRet, tAndV, tOrV, tNotV, tCB, tCons, tNil, tVar, tC, tOp, tUn, tTest, tB, tIf, tIfS, tSeq, tAsg, tAnd, tOr, tNot, gName, tNext, tCall, tChain, rI, rI0, rEq, rNe, rGcd, rU, tM1, tM0, tSl, tFmtB, tJs, tPart, tNoPart, gTup, gCons, gNil, gSub, tTup, tLst, tPar, L2.rI, List.map_cons, List.map_nil, List.length_cons, List.length_nil, List.cons_append, List.nil_append, List.append_nil, List.getElem?_cons_zero, List.getElem?_cons_succ, List.set_cons_zero, List.set_cons_succ, Option.some.injEq, exists_eq_left, exists_eq_left', exists_eq_right, exists_and_left, exists_and_right, List.cons.injEq, and_true, true_and, V.int.injEq, V.str.injEq, V.bl.injEq, V.ref.injEq, List.replicate, Nat.reduceAdd, Nat.reduceSub, reduceCtorEq, false_and, and_false, if_true, if_false, Bool.false_eq_true, Bool.not_true, Bool.not_false, decide_eq_true_eq, exists_false, or_false, false_or]
        rw [if_neg (by rw [xe]; exact fun z => by cases z)]
        refine ⟨small (by decide), fun t2 h2 => ⟨_, _, ⟨rfl, rfl⟩, ?_, fun H3 sm3 => hn _ _ ⟨rfl, (st2.same (same_new h2)).same sm3⟩⟩⟩
        refine two_lk (same_new h2 _ _ upd_same) upd_same ?_
        rw [xe]
        exact pair_lk (same_new h2 _ _ (sm2 _ _ ea)) (same_new h2 _ _ htx)
    rintro σ' H5 ⟨rfl, st5⟩
    refine seq_cut (fun σ' H' => σ' = [some (.ref a), some (.ref b), some (.int (i : Int)), some v, some xv, y5] ∧ Stand K b Pt H' v xv n) (fun D' hr hn => ?_) ?_
    · simp only [L2.start, cxOf, tRet, tAndV, tOrV, tNotV, tCB, tCons, tNil, tVar, tC, tOp, tUn, tTest, tB, tSeq, tAsg, tNot, gName, tNext, tCall, tChain, rI, rI0, rEq, rNe, rGcd, rU, tM1, tM0, tSl, tFmtB, tJs, tPart, tNoPart, gTup, gCons, gNil, gSub, tTup, tLst, tPar, L2.rI, List.map_cons, List.map_nil, List.length_cons, List.length_nil, List.cons_append, List.nil_append, List.append_nil, List.getElem?_cons_zero, List.getElem?_cons_succ, List.set_cons_zero, List.set_cons_succ, Option.some.injEq, exists_eq_left, exists_eq_left', exists_eq_right, exists_and_left, exists_and_right, List.cons.injEq, and_true, true_and, V.int.injEq, V.str.injEq, V.bl.injEq, V.ref.injEq, List.replicate, Nat.reduceAdd, Nat.reduceSub, reduceCtorEq, false_and, and_false, if_true, if_false, Bool.false_eq_true, Bool.not_true, Bool.not_false, decide_eq_true_eq, exists_false, or_false, false_or, tIfS, tCallS, spTried, spNumText, WE, tLamN, spLike]
      refine ⟨st5.tabs, fun H1 c' e1 t1 hc => ⟨hc, n, (st5.fit H1 (kp_ext e1)).1, ?_⟩⟩
      have st1 := st5.ext e1 t1
      cases n with
      | none =>
        intro H' d sm hd hx
        refine ⟨rfl, d, rfl, v, hx, fun H'' t sm2 ht => ?_⟩
        have st2 := (st1.same sm).same sm2
        have xn : xv = .non := st2.num
        simp only [L2.start, cxOf, tRet, tAndV, tOrV, tNotV, tCB, tCons, tNil, tVar, tC, tOp, tUn, tTest, tB, tIf, tIfS, tSeq, tAsg, tAnd, tOr, tNot, gName, tNext, tCall, tChain, rI, rI0, rEq, rNe, rGcd, rU, tM1, tM0, tSl, tFmtB, tJs, tPart, tNoPart, gTup, gCons, gNil, gSub, tTup, tLst, tPar, L2.rI, List.map_cons, List.map_nil, List.length_cons, List.length_nil, List.cons_append, List.nil_append, List.append_nil, List.getElem?_cons_zero, List.getElem?_cons_succ, List.set_cons_zero, List.set_cons_succ, Option.some.injEq, exists_eq_left, exists_eq_left', exists_eq_right, exists_and_left, exists_and_right, List.cons.injEq, and_true, true_and, V.int.injEq, V.str.injEq, V.bl.injEq, V.ref.injEq, List.replicate, Nat.reduceAdd, Nat.reduceSub, reduceCtorEq, false_and, and_false, if_true, if_false, Bool.false_eq_true, Bool.not_true, Bool.not_false, decide_eq_true_eq, exists_false, or_false, false_or]
        rw [if_pos xn]
        refine ⟨small (by decide), fun t2 h2 => ⟨_, _, ⟨rfl, rfl⟩, ?_, fun H3 sm3 => hn _ _ ⟨rfl, (st2.same (same_new h2)).same sm3⟩⟩⟩
        exact two_lk (same_new h2 _ _ ht) upd_same (st2.fit _ (kp_same (same_new h2))).2
      | some p =>
        intro H' sm
        refine ⟨small (by decide), fun t ht => ?_⟩
        have sm2 : Same H' (upd H' t (.tup [.str "told", .str (S (wroteL p))])) := same_new ht
        have st2 := (st1.same sm).same sm2
        obtain ⟨tx, xe, nb, htx, good⟩ := st2.num
        simp only [L2.start, cxOf, tRet, tAndV, tOrV, tNotV, tCB, tCons, tNil, tVar, tC, tOp, tUn, tTest, tB, tIf, tIfS, tSeq, tAsg, tAnd, tOr, tNot, gName, tNext, tCall, tChain, rI, rI0, rEq, rNe, rGcd, rU, tM1, tM0, tSl, tFmtB, tJs, tPart, tNoPart, gTup, gCons, gNil, gSub, tTup, tLst, tPar, L2.rI, List.map_cons, List.map_nil, List.length_cons, List.length_nil, List.cons_append, List.nil_append, List.append_nil, List.getElem?_cons_zero, List.getElem?_cons_succ, List.set_cons_zero, List.set_cons_succ, Option.some.injEq, exists_eq_left, exists_eq_left', exists_eq_right, exists_and_left, exists_and_right, List.cons.injEq, and_true, true_and, V.int.injEq, V.str.injEq, V.bl.injEq, V.ref.injEq, List.replicate, Nat.reduceAdd, Nat.reduceSub, reduceCtorEq, false_and, and_false, if_true, if_false, Bool.false_eq_true, Bool.not_true, Bool.not_false, decide_eq_true_eq, exists_false, or_false, false_or, tCallS, spText]
        rw [if_neg (by rw [xe]; exact fun z => by cases z)]
        refine ⟨tx, xe, p, htx, good, small (by decide), fun t2 h2 => ⟨_, _, ⟨rfl, rfl⟩, ?_, fun H3 sm3 => hn _ _ ⟨rfl, (st2.same (same_new h2)).same sm3⟩⟩⟩
        exact two_lk (same_new h2 _ _ upd_same) upd_same (lk_flat trivial)
    rintro σ' H6 ⟨rfl, st6⟩
    simp only [L2.start, cxOf, tRet, tAndV, tOrV, tNotV, tCB, tCons, tNil, tVar, tC, tOp, tUn, tTest, tB, tSeq, tAsg, tNot, gName, tNext, tCall, tChain, rI, rI0, rEq, rNe, rGcd, rU, tM1, tM0, tSl, tFmtB, tJs, tPart, tNoPart, gTup, gCons, gNil, gSub, tTup, tLst, tPar, L2.rI, List.map_cons, List.map_nil, List.length_cons, List.length_nil, List.cons_append, List.nil_append, List.append_nil, List.getElem?_cons_zero, List.getElem?_cons_succ, List.set_cons_zero, List.set_cons_succ, Option.some.injEq, exists_eq_left, exists_eq_left', exists_eq_right, exists_and_left, exists_and_right, List.cons.injEq, and_true, true_and, V.int.injEq, V.str.injEq, V.bl.injEq, V.ref.injEq, List.replicate, Nat.reduceAdd, Nat.reduceSub, reduceCtorEq, false_and, and_false, if_true, if_false, Bool.false_eq_true, Bool.not_true, Bool.not_false, decide_eq_true_eq, exists_false, or_false, false_or, tIfS]
    cases n with
    | none =>
      have xn : xv = .non := st6.num
      rw [if_neg (by rw [xn]; simp)]
      exact ⟨st6.bag, st6.tabs, _, rfl⟩
    | some p =>
      obtain ⟨tx, rfl, nb, htx, good⟩ := st6.num
      rw [if_pos (by simp)]
      have er : readP (wroteL p) = some p := read_wrote good
      refine for_list_new [.ref tx, .str (S (wroteL p))] (by rw [sizeLine_eq]; simp) (fun R k => ?_) fun l hl => ?_
      · simp only [L2.start, cxOf, tRet, tAndV, tOrV, tNotV, tCB, tCons, tNil, tVar, tC, tOp, tUn, tTest, tB, tIf, tIfS, tSeq, tAsg, tAnd, tOr, tNot, gName, tNext, tCall, tChain, rI, rI0, rEq, rNe, rGcd, rU, tM1, tM0, tSl, tFmtB, tJs, tPart, tNoPart, gTup, gCons, gNil, gSub, tTup, tLst, tPar, L2.rI, List.map_cons, List.map_nil, List.length_cons, List.length_nil, List.cons_append, List.nil_append, List.append_nil, List.getElem?_cons_zero, List.getElem?_cons_succ, List.set_cons_zero, List.set_cons_succ, Option.some.injEq, exists_eq_left, exists_eq_left', exists_eq_right, exists_and_left, exists_and_right, List.cons.injEq, and_true, true_and, V.int.injEq, V.str.injEq, V.bl.injEq, V.ref.injEq, List.replicate, Nat.reduceAdd, Nat.reduceSub, reduceCtorEq, false_and, and_false, if_true, if_false, Bool.false_eq_true, Bool.not_true, Bool.not_false, decide_eq_true_eq, exists_false, or_false, false_or, tCallS, spText]
        exact ⟨p, htx, good, k⟩
      have sml := same_new (o := .lst [.ref tx, .str (S (wroteL p))]) hl
      refine ⟨fun j σ' H' => Same H6 H' ∧ H' l = some (.lst [.ref tx, .str (S (wroteL p))]) ∧ ∃ y, σ' = [some (.ref a), some (.ref b), some (.int (i : Int)), some v, some (.ref tx), y], ⟨sml, upd_same, y5, rfl⟩, fun j σ' H' _ hP => SqL.of hP.2.1, ?_, ?_⟩
      · rintro j x σ' H7 hx ⟨sm7, hl7, y, rfl⟩
        have st7 := st6.same sm7
        simp only [L2.start, cxOf, tRet, tAndV, tOrV, tNotV, tCB, tCons, tNil, tVar, tC, tOp, tUn, tTest, tB, tIf, tIfS, tSeq, tAsg, tAnd, tOr, tNot, gName, tNext, tCall, tChain, rI, rI0, rEq, rNe, rGcd, rU, tM1, tM0, tSl, tFmtB, tJs, tPart, tNoPart, gTup, gCons, gNil, gSub, tTup, tLst, tPar, L2.rI, List.map_cons, List.map_nil, List.length_cons, List.length_nil, List.cons_append, List.nil_append, List.append_nil, List.getElem?_cons_zero, List.getElem?_cons_succ, List.set_cons_zero, List.set_cons_succ, Option.some.injEq, exists_eq_left, exists_eq_left', exists_eq_right, exists_and_left, exists_and_right, List.cons.injEq, and_true, true_and, V.int.injEq, V.str.injEq, V.bl.injEq, V.ref.injEq, List.replicate, Nat.reduceAdd, Nat.reduceSub, reduceCtorEq, false_and, and_false, if_true, if_false, Bool.false_eq_true, Bool.not_true, Bool.not_false, decide_eq_true_eq, exists_false, or_false, false_or, tCallS, spNumRead, spNumText, spLike, spText, WE]
        have htx7 := sm7 _ _ htx
        have sh : ∀ H', Same H7 H' → Sh K H' x (some p) := fun H' sm => by
          match j, hx with
          | 0, hx =>
            cases hx
            have z := Sh.pair (K := K) tx p.1 p.2 (sm _ _ htx7) good.top good.bot
            rw [if_pos ⟨good.pos, good.low⟩] at z
            exact z
          | 1, hx =>
            cases hx
            have z := Sh.str (K := K) (H := H') (wroteL p) (Nat.le_trans (wrote_len good) (by decide))
            rw [er] at z
            exact z
          | k + 2, hx => cases hx
        refine ⟨some p, sh _ (Same.refl _), fun H8 ta sm8 hta ea => ⟨_, _, ⟨rfl, rfl⟩, pair_lk ea (sm8 _ _ htx7), fun H9 sm9 => ⟨some p, sh _ (sm8.trans sm9), fun H10 sm10 => ⟨p, sm10 _ _ (sm9 _ _ (sm8 _ _ htx7)), good, _, _, ⟨rfl, rfl⟩, lk_flat trivial, fun H11 sm11 => ?_⟩⟩⟩⟩
        have sall := ((sm8.trans sm9).trans sm10).trans sm11
        exact ⟨sm7.trans sall, sall _ _ hl7, _, rfl⟩
      · rintro σ' H7 ⟨sm7, _, y, rfl⟩
        exact ⟨(st6.same sm7).bag, (st6.same sm7).tabs, _, _, _, _, rfl⟩
end
end W17

set_option Elab.async false
set_option linter.all false
set_option maxRecDepth 100000
set_option maxHeartbeats 4000000
set_option exponentiation.threshold 5000
/-! K17: the written part's facts; the theorem -/
namespace W17
open PySem PySem.Spec PyProof.Rows L2 Lay P17 LamX
open C8 (Cal)
theorem oexB_ok {K : PySem.W.Frag} {C : Addr} (h : oexB K C = true) : ∃ nm q N bs bm sn sub ab col dd k0 k1 k2 k3 k5, K.lookup C = some (excClassObj nm q C N bs bm true sn sub ab col dd k0 k1 k2 k3 k5 "ValueError.__new__") ∧ PySem.HandSPX.refsVE bm = true := by
  unfold oexB at h
  split at h
  · rename_i t dd cd sl e
    split at h
    · rename_i C' bm k0 k1 k2 k3 n k5 e1 e2
      obtain ⟨h1, h⟩ := He.ba h
      obtain ⟨h2, h⟩ := He.ba h
      obtain ⟨h3, h⟩ := He.ba h
      obtain ⟨h4, h⟩ := He.ba h
      obtain ⟨h5, h6⟩ := He.ba h
      obtain rfl := of_decide_eq_true h1
      obtain rfl := of_decide_eq_true h2
      obtain rfl := of_decide_eq_true h3
      obtain ⟨nm, bs, mro, ns, qn, hd, sn, sub, ab, col, hdel⟩ := cd
      have e1 : mro = .ref C' :: bm := e1
      have h4 : (!hdel) = true := h4
      have h5 : hd = true := h5
      obtain rfl : hdel = false := by
        cases hdel with
        | false => rfl
        | true => cases h4
      subst e1 h5
      have e3 : sl = #[k0, k1, k2, k3, some (.builtin "ValueError.__new__"), k5] := by
        apply Array.ext'
        exact e2
      exact ⟨nm, qn, ns, bs, bm, sn, sub, ab, col, dd, k0, k1, k2, k3, k5, by rw [e, e3], h6⟩
    · cases h
  · cases h
theorem mem_at {f : He.Fa} (i : Nat) (h : fas[i]? = some f) : f ∈ fas := List.mem_of_getElem? h
section
variable {w : World} {K : PySem.W.Frag} {h : Heap} {mg : Str → Option Value}
theorem bad_of (X : K.In h) (G : h.Ns mainGlobals mg) (c : He.SaysX fas fns [] tfs exB w h K) : ∃ fdI, Bad K mg (He.ga K "BadNumber") (He.fAd K ("BadNumber", some "__init__")) fdI := by
  obtain ⟨fdI, FI⟩ := c.t.d.def_ 25 (d := ⟨("BadNumber", some "__init__"), "__init__", "BadNumber.__init__", defArgs (inClass (top 9) 0), defBody (inClass (top 9) 0), defScope (inClass (top 9) 0), [], []⟩) rfl
  have m := c.more
  unfold exB at m
  obtain ⟨m1, m⟩ := He.ba m
  obtain ⟨m2, m⟩ := He.ba m
  obtain ⟨m3, m⟩ := He.ba m
  obtain ⟨m4, m⟩ := He.ba m
  obtain ⟨m5, m⟩ := He.ba m
  obtain ⟨m6, m⟩ := He.ba m
  obtain ⟨m7, m⟩ := He.ba m
  obtain ⟨m8, m⟩ := He.ba m
  obtain ⟨m9, m⟩ := He.ba m
  obtain ⟨m10, m⟩ := He.ba m
  obtain ⟨m11, m⟩ := He.ba m
  obtain ⟨m12, m⟩ := He.ba m
  obtain ⟨m13, m⟩ := He.ba m
  obtain ⟨m14, m15⟩ := He.ba m
  have xf := xfB_ok m2
  refine ⟨fdI, ⟨⟨oexB_ok m1, of_decide_eq_true m4, xf.exC, of_decide_eq_true m5, He.keep_ok (x := "BadNumber") (c.t.d.facts (mem_at 58 rfl))⟩, of_decide_eq_true m6, of_decide_eq_true m7, FI, of_decide_eq_true m3, xf,
    ⟨xf.ga, xf.gg, xf.exC, xf.hdC, of_decide_eq_true m8, of_decide_eq_true m9, of_decide_eq_true m10, of_decide_eq_true m11⟩, He.glo_ok X G (c.t.d.facts (mem_at 33 rfl)), fun x hx => ?_, fun x hx => ⟨He.free_ok X G (c.t.d.facts ?_), of_decide_eq_true (List.all_eq_true.mp m15 x hx)⟩⟩⟩
  · obtain ⟨a1, a2⟩ := He.ba (List.all_eq_true.mp m14 x hx)
    exact ⟨_, He.glo_ok X G (c.t.d.facts (List.mem_append_left _ (List.mem_append_left _ (List.mem_append_right _ (List.mem_map_of_mem hx))))), of_decide_eq_true a1, of_decide_eq_true a2⟩
  · simp only [blts, List.mem_cons, List.not_mem_nil, or_false] at hx
    rcases hx with rfl | rfl | rfl | rfl | rfl
    · exact mem_at 54 rfl
    · exact mem_at 51 rfl
    · exact mem_at 52 rfl
    · exact mem_at 53 rfl
    · exact mem_at 55 rfl
theorem mg_of (X : K.In h) (G : h.Ns mainGlobals mg) (c : He.SaysX fas fns [] tfs exB w h K) : Mg mg ∧ DigK K := by
  have fr : ∀ x : Str, He.Fa.free x ∈ fas → mg x = none := fun x hx => He.free_ok X G (c.t.d.facts hx)
  have m := c.more
  unfold exB at m
  obtain ⟨_, m⟩ := He.ba m
  obtain ⟨_, m⟩ := He.ba m
  obtain ⟨_, m⟩ := He.ba m
  obtain ⟨_, m⟩ := He.ba m
  obtain ⟨_, m⟩ := He.ba m
  obtain ⟨_, m⟩ := He.ba m
  obtain ⟨_, m⟩ := He.ba m
  obtain ⟨_, m⟩ := He.ba m
  obtain ⟨_, m⟩ := He.ba m
  obtain ⟨_, m⟩ := He.ba m
  obtain ⟨_, m⟩ := He.ba m
  obtain ⟨m12, m⟩ := He.ba m
  obtain ⟨m13, m⟩ := He.ba m
  refine ⟨⟨fr _ (mem_at 42 rfl), fr _ (mem_at 43 rfl), fr _ (mem_at 44 rfl), fr _ (mem_at 48 rfl), fr _ (mem_at 45 rfl), fr _ (mem_at 46 rfl), fr _ (mem_at 47 rfl), fr _ (mem_at 49 rfl), fr _ (mem_at 50 rfl), fr _ (mem_at 41 rfl), ?_, ?_, ?_⟩, show PySem.W.nsIn K cStatics "sys.int_max_str_digits" = some none from of_decide_eq_true m13⟩
  · exact PySem.W.mg_of X G (of_decide_eq_true m12)
  · obtain ⟨t, e⟩ := He.int_ok X G (c.t.d.facts (f := .int "MOST_DIGITS" 4000) (mem_at 56 rfl))
    exact ⟨_, e, t, rfl⟩
  · obtain ⟨t, e⟩ := He.str_ok X G (c.t.d.facts (f := .str "DIGITS" "0123456789") (mem_at 57 rfl))
    exact ⟨_, e, t, rfl⟩
theorem facts {P : Program} (X : K.In h) (G : h.Ns mainGlobals mg) (c : He.SaysX fas fns [] tfs exB w h K) : ∃ (fd : FuncData), (∀ (s : Shared) (v : Value), BindsTo s fd ⟨[v], []⟩ [("script", v)]) ∧
    ∀ base : Heap, K.In base → base.Ns mainGlobals mg → TabB base mg (He.cT K ("law", none)).1 (He.cT K ("law", none)).2 → FnOk P w K mg base C8.CX0 9 (He.fAd K ("law", none)) fd ["script"] (spLaw K (He.cT K ("law", none)).2) := by
  obtain ⟨fdI, B⟩ := bad_of X G c
  obtain ⟨m, dk⟩ := mg_of X G c
  have gl : ∀ x : Str, He.Fa.glo x ∈ fas → mg x = some (.ref (He.ga K x)) := fun x hx => He.glo_ok X G (c.t.d.facts hx)
  have df : ∀ (i : Nat) (x : Str) (j : Nat), fns[i]? = some (defD x j) → ∃ fd, Fn K x j (He.ga K x) fd := fun i x j e => c.t.d.def_ i (d := defD x j) e
  obtain ⟨f0, F0⟩ := df 0 "is_whole" 20 rfl
  obtain ⟨f1, F1⟩ := df 1 "is_lowest" 21 rfl
  obtain ⟨f2, F2⟩ := df 2 "whole_of" 22 rfl
  obtain ⟨f3, F3⟩ := df 3 "ratio_of" 23 rfl
  obtain ⟨f4, F4⟩ := df 4 "ratio_text" 24 rfl
  obtain ⟨f5, F5⟩ := df 5 "read_number" 26 rfl
  obtain ⟨f6, F6⟩ := df 6 "number_text" 27 rfl
  obtain ⟨f7, F7⟩ := df 7 "_law_bag" 29 rfl
  obtain ⟨f8, F8⟩ := df 8 "_law_draw" 30 rfl
  obtain ⟨f9, F9⟩ := df 9 "_law_of" 31 rfl
  obtain ⟨f10, F10⟩ := df 10 "_law_like" 32 rfl
  obtain ⟨f11, F11⟩ := df 11 "_law_gcd" 33 rfl
  obtain ⟨f12, F12⟩ := df 12 "_law_frac" 34 rfl
  obtain ⟨f13, F13⟩ := df 13 "_law_wrote" 35 rfl
  obtain ⟨f14, F14⟩ := df 14 "_law_read" 36 rfl
  obtain ⟨f15, F15⟩ := df 15 "_law_classes" 37 rfl
  obtain ⟨f16, F16⟩ := df 16 "_law_caught" 38 rfl
  obtain ⟨f17, F17⟩ := df 17 "_law_tried" 40 rfl
  obtain ⟨f18, F18⟩ := df 18 "_law_whole" 41 rfl
  obtain ⟨f19, F19⟩ := df 19 "_law_string" 42 rfl
  obtain ⟨f20, F20⟩ := df 20 "_law_bent_string" 43 rfl
  obtain ⟨f21, F21⟩ := df 21 "_law_long" 44 rfl
  obtain ⟨f22, F22⟩ := df 22 "_law_value" 45 rfl
  obtain ⟨f23, F23⟩ := df 23 "_law_number_of" 46 rfl
  obtain ⟨fd, F⟩ := df 24 "law" 47 rfl
  have b := FunD.bindsA (ps := ["script"]) F fun _ _ _ _ _ _ us hl => match us, hl with | [_], _ => rfl
  refine ⟨fd, fun s v => b s [v] rfl, fun base _ _ TB => ?_⟩
  have c0 := ok_is_whole (P := P) (w := w) (base := base) m F0 (gl _ (mem_at 0 rfl))
  have c1 := ok_is_lowest m c0 F1 (gl _ (mem_at 1 rfl))
  have c2 := ok_whole_of (P := P) (w := w) (base := base) m dk F2 (gl _ (mem_at 2 rfl))
  have c3 := ok_ratio_of m dk c2 F3 (gl _ (mem_at 3 rfl))
  have c4 := ok_ratio_text (P := P) (w := w) (base := base) m dk F4 (gl _ (mem_at 4 rfl))
  have c5 := ok_read_number m B c3 c0 c1 F5 (gl _ (mem_at 5 rfl))
  have c6 := ok_number_text m c5 c4 F6 (gl _ (mem_at 6 rfl))
  have c7 := ok_bag (P := P) (w := w) (base := base) m F7 (gl _ (mem_at 7 rfl))
  have c8 := ok_draw (P := P) (w := w) (base := base) m F8 (gl _ (mem_at 8 rfl))
  have c9 := ok_of m c8 F9 (gl _ (mem_at 9 rfl))
  have c10 := ok_like (P := P) (w := w) (base := base) m F10 (gl _ (mem_at 10 rfl)) 5
  have c11 := ok_gcd (P := P) (w := w) (base := base) m F11 (gl _ (mem_at 11 rfl))
  have c12 := ok_frac m c11 F12 (gl _ (mem_at 12 rfl))
  have c13 := ok_wrote (P := P) (w := w) (base := base) m dk F13 (gl _ (mem_at 13 rfl))
  have c14 := ok_read m dk c11 F14 (gl _ (mem_at 14 rfl))
  have c15 := ok_classes (P := P) (w := w) (base := base) m B F15 (gl _ (mem_at 15 rfl))
  have c16 := ok_caught c15 F16 (gl _ (mem_at 16 rfl))
  have c17 := ok_tried B c16 F17 (gl _ (mem_at 17 rfl)) 6 (by decide)
  have c18 := ok_whole m c8 c9 F18 (gl _ (mem_at 18 rfl))
  have c19 := ok_string m c8 F19 (gl _ (mem_at 19 rfl))
  have c20 := ok_bent m c8 c9 c18 c12 c13 F20 (gl _ (mem_at 20 rfl))
  have c21 := ok_long m c8 c9 F21 (gl _ (mem_at 21 rfl))
  have c22 := ok_value m dk c8 c9 c18 c12 c13 c19 c20 F22 (gl _ (mem_at 22 rfl))
  have c23 := ok_number_of m c14 c11 F23 (gl _ (mem_at 23 rfl))
  exact ok_law m c7 c8 c21 c22 c23 c13 c10 c5 c6 c17 F rfl TB
end
end W17
open PySem PySem.W PySem.Calls PyProof.Rows
theorem PySem.Challenge.cw_waysacross_k17_numbers_holds : PySem.Challenge.rw_waysacross_k17_numbers.Holds := by
  w_on; o_law
  refine HandSHeadRun.head_imp (r := OpenLaw.row PySem.Challenge.rw_waysacross_k17_numbers) (q := view (OpenLaw.row PySem.Challenge.rw_waysacross_k17_numbers).prog [0, 47]) (H := W17.hkS) (ob := W17.ob) (M := 5000) (loose := W17.loose) (d := HandSHeadRun.topDef (OpenLaw.row PySem.Challenge.rw_waysacross_k17_numbers).prog 47) (kwd := []) W17.ob_eq
    W17.run (by kernel_rfl) (by kernel_rfl) (by kernel_rfl) (by rfl) (by first | assumption | decide +kernel) (by decide +kernel) ⟨rfl, rfl, rfl, rfl, rfl, by decide +kernel⟩ ?hw ?hc
  case hw => w_witness2
  case hc =>
    refine LamX.walk_ofTsE (l := PySem.Challenge.rw_waysacross_k17_numbers) (n := 63) (k := 9) (x := "script") (CX := fun _ => C8.CX0) rfl (by decide) (by kernel_rfl) ⟨rfl, by decide, by decide⟩ ?F (fun _ _ _ _ _ z => z)
    intro w mg fa h Y G hmg0
    obtain ⟨K, KX, c⟩ := Y
    have hmg : mg ("law" : PySem.Str) = some (.ref fa) := by
      have e : (HandSHeadRun.topDef (OpenLaw.row PySem.Challenge.rw_waysacross_k17_numbers).prog 47).name = ("law" : PySem.Str) := by kernel_rfl
      rw [← e]
      exact hmg0
    have e := hmg.symm.trans (He.glo_ok KX G (c.t.d.facts (f := .glo "law") (W17.mem_at 24 rfl)))
    cases e
    obtain ⟨fd, hb, hF⟩ := W17.facts (P := (PySem.Challenge.rw_waysacross_k17_numbers).prog) KX G c
    refine ⟨K, KX, fd, [He.cT K ("law", none)], W17.spLaw K (He.cT K ("law", none)).2, ?_, ?_, ?_, hb, ?_, ?_⟩
    · intro p hp
      rw [List.mem_singleton.mp hp]
      exact c.empty _ (List.mem_singleton.mpr rfl)
    · intro p hp
      rw [List.mem_singleton.mp hp]
      exact c.out _ (List.mem_singleton.mpr rfl)
    · intro p hp
      rw [List.mem_singleton.mp hp]
      exact PySem.W.codeHd_of_K KX (c.hd _ (List.mem_singleton.mpr rfl))
    · intro H a ns _ _ hT hS
      exact ⟨a, ns, rfl, hS, hT _ (List.mem_singleton.mpr rfl), fun _ => rfl⟩
    · intro base KB GB TB
      exact hF base KB GB (TB _ (List.mem_singleton.mpr rfl))

